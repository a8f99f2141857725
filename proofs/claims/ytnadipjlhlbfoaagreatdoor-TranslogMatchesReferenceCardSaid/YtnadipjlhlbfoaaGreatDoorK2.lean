/- Slices of the call's own, maps, strings: rules over symbolic frames and heaps. More rules: stores of whole blocks and of one cell, struct literals, cuts. Still more rules: maps with integers as keys, slicing, clearing, structs compared, arrays, shifts. Calls that are handed memory of the caller's; knowing entries anew; ranges over functions. Structs compared, field by field. Bytes as a string. Words of n bits: the operations on unsigned integers, over bit vectors. Bytes of a string, converted: a row behind whose end the model marks one cell; append to it. Arrays in blocks and as values, slices of arrays, copies, bytes of slices as strings, string indices. Plain Lean: trees of digests over any function that digests: roots, proofs, extensions; no program. -/
import Derived.Test.YtnadipjlhlbfoaaGreatDoorK1
import Derived.Great.BuildSlice
import Derived.MapKept
import Derived.Laws.StructEq
import Derived.Laws.Slices
import Derived.Laws.Shifts
import Derived.RangeFuncIn
import Derived.Laws.BytesString
import Derived.Lib.ConvBytes
import Derived.Laws.Append
import Derived.Laws.CopyRow
import Derived.Laws.IdiomStrings
namespace Go.Proofs.YtnadipjlhlbfoaaGreatDoor
set_option linter.all false
open Go Go.RowKit

section
variable {P : Program} {w0 : World} {O : List Nat} {n : Nat} {D : List Deferred} {o : Oper} {V : List (Nat × Value)} {L : List Ent} {T : List (Nat × Value) → List Ent → Prop}

theorem flat_nil : flat [] = [] := rfl
theorem flat_cons (c : Array Value) (xs : List (Array Value)) : flat (c :: xs) = c.toList ++ flat xs := by simp [flat]
theorem flat_append (xs ys : List (Array Value)) : flat (xs ++ ys) = flat xs ++ flat ys := by simp [flat]
theorem flat_length {sz : Nat} : ∀ {xs : List (Array Value)}, (∀ c ∈ xs, c.size = sz) → (flat xs).length = xs.length * sz
  | [], _ => by simp [flat]
  | c :: xs, h => by
    rw [flat_cons, List.length_append, flat_length (fun c hc => h c (List.mem_cons_of_mem _ hc)), List.length_cons, Nat.add_mul]
    have := h c List.mem_cons_self
    simp only [Array.length_toList]
    omega
theorem flat_get {sz : Nat} : ∀ {xs : List (Array Value)}, (∀ c ∈ xs, c.size = sz) → ∀ {k : Nat} {c : Array Value} {j : Nat}, xs[k]? = some c → j < sz → (flat xs)[k * sz + j]? = c[j]?
  | [], _, k, c, j, h, _ => by simp at h
  | d :: xs, hs, 0, c, j, h, hj => by
    have : d = c := by simpa using h
    subst this
    have := hs d List.mem_cons_self
    rw [flat_cons, Nat.zero_mul, Nat.zero_add, List.getElem?_append_left (by simp; omega)]
    simp
  | d :: xs, hs, k + 1, c, j, h, hj => by
    have hd := hs d List.mem_cons_self
    rw [flat_cons, List.getElem?_append_right (by simp [hd, Nat.add_mul]; omega)]
    rw [show (k + 1) * sz + j - d.toList.length = k * sz + j from by simp [hd, Nat.add_mul]; omega]
    exact flat_get (fun c hc => hs c (List.mem_cons_of_mem _ hc)) (by simpa using h) hj
theorem mem_flat {xs : List (Array Value)} {u : Value} : u ∈ flat xs ↔ ∃ c ∈ xs, u ∈ c.toList := by simp [flat]

/-- A slice of one's own reads as its elements. -/
theorem Ent.rd {w : World} {A : Option Addr} {cap : Nat} {e : TypeId} {sz : Nat} {xs : List (Array Value)} (h : (Ent.row A cap e sz xs).sat w) : Rd w A sz xs := by
  obtain ⟨⟨h1, h2⟩, h3⟩ := h
  refine ⟨fun k c hk => ?_⟩
  have hmem := List.mem_of_getElem? hk
  have hlen : 0 < xs.length := by
    have := (List.getElem?_eq_some_iff.1 hk).1
    omega
  rcases h2 with ⟨hv, hn⟩ | ⟨g, cp, cur, hv, _, hg, hnc, _, hcs, htake⟩
  · omega
  · injection hv with hA hn hc
    subst hA
    refine ⟨(h3 c hmem).1, ⟨g, 0, rfl⟩, (Array.getElem?_eq_some_iff.1 hg).1, (h3 c hmem).2, fun j hj => ?_⟩
    have hf := flat_get (fun c hc => (h3 c hc).1) hk hj
    show w.cell? ⟨g, 0 + k * sz + j, none⟩ = c[j]?
    rw [Nat.zero_add, cell_of_row w g _ cur e (0, 0) hg, ← hf, ← htake]
    have hk' := (List.getElem?_eq_some_iff.1 hk).1
    have hlt : k * sz + j < xs.length * sz := by
      have : (k + 1) * sz ≤ xs.length * sz := Nat.mul_le_mul_right _ hk'
      rw [Nat.add_mul] at this
      omega
    rw [List.getElem?_take_of_lt hlt]
    simp

/-- An element of a slice of one's own, whole; one cell of it. -/
theorem y_rowElem {t : TypeId} {x : Operand} {A : Option Addr} {cap : Nat} {e : TypeId} {sz k i : Nat} {xs : List (Array Value)} {c : Array Value} (ho : o.op = .load t x) (hx : ev V x = some (.pointer (some ⟨ab A, ao A + k * sz, none⟩))) (h1 : AggT P t sz)
    (hL : L[i]? = some (.row A cap e sz xs)) (hk : xs[k]? = some c) : Yld P w0 O n D o V L (.agg c) := by
  intro a w ha hw
  obtain ⟨hs, _, _, _, hc⟩ := (Ent.rd (hw.ents _ (List.mem_of_getElem? hL))).at_ k c hk
  have := run_load_agg (P := P) (w := w) (b := ab A) (j := ao A + k * sz) (cs := c.toList) h1 (by simpa using hs) (fun i v hv => by
    have hi : i < c.size := by
      have := (List.getElem?_eq_some_iff.1 hv).1
      simpa using this
    rw [hc i (by omega)]; simpa using hv)
  simp [execOp, ho, ha.eval hx, Instr.loadAt, Instr.sureAddr, this]
theorem y_rowElemF {t : TypeId} {x : Operand} {A : Option Addr} {cap : Nat} {e : TypeId} {sz k j i : Nat} {xs : List (Array Value)} {c : Array Value} {v : Value} (ho : o.op = .load t x) (hx : ev V x = some (.pointer (some ⟨ab A, ao A + k * sz + j, none⟩))) (h1 : One P t)
    (hL : L[i]? = some (.row A cap e sz xs)) (hk : xs[k]? = some c) (hv : c[j]? = some v) : Yld P w0 O n D o V L v := by
  intro a w ha hw
  obtain ⟨hs, _, _, _, hc⟩ := (Ent.rd (hw.ents _ (List.mem_of_getElem? hL))).at_ k c hk
  have hj : j < c.size := (Array.getElem?_eq_some_iff.1 hv).1
  have hcell : w.cell? ⟨ab A, ao A + k * sz + j, none⟩ = some v := by rw [hc j (by omega)]; exact hv
  simp [execOp, ho, ha.eval hx, Instr.loadAt, Instr.sureAddr, run_load_one h1 hcell]
theorem y_rowElem1 {t : TypeId} {x : Operand} {A : Option Addr} {cap : Nat} {e : TypeId} {k i : Nat} {xs : List (Array Value)} {v : Value} (ho : o.op = .load t x) (hx : ev V x = some (.pointer (some ⟨ab A, ao A + k * 1, none⟩))) (h1 : One P t)
    (hL : L[i]? = some (.row A cap e 1 xs)) (hk : xs[k]? = some #[v]) : Yld P w0 O n D o V L v :=
  y_rowElemF (j := 0) ho hx h1 hL hk rfl
theorem y_elem1 {t : TypeId} {x : Operand} {A : Option Addr} {k : Nat} {xs : List (Array Value)} {v : Value} (ho : o.op = .load t x) (hx : ev V x = some (.pointer (some ⟨ab A, ao A + k * 1, none⟩))) (h1 : One P t)
    (hr : Rd w0 A 1 xs) (hO : ab A ∉ O) (hk : xs[k]? = some #[v]) : Yld P w0 O n D o V L v :=
  y_elemF (j := 0) ho hx h1 hr hO hk rfl

/-! ### Slice literals -/
/-- A slice type, its element type, cells, bytes and zero value. -/
structure SlB (P : Program) (t e : TypeId) (sz bytes : Nat) (z : Value) : Prop where
  under : P.underlying t = some (.slice e)
  info : ∃ i, P.info? e = some i ∧ i.zero = some z ∧ i.size = sz ∧ i.bytes = bytes
  zs : z.cells.size = sz
  pos : 0 < sz
theorem SlB.slt {t e : TypeId} {sz bytes : Nat} {z : Value} (h : SlB P t e sz bytes z) : SlT P t e sz := by
  obtain ⟨i, h1, h2, h3, h4⟩ := h.info
  exact ⟨i, h.under, h1, h3⟩

theorem foldl_setAt : ∀ (c : List Value) (off k : Nat) (arr : Array Value), off + k + c.length ≤ arr.size →
    ((c.zipIdx k).foldl (fun cs (p : Value × Nat) => cs.setIfInBounds (off + p.2) p.1) arr).toList = arr.toList.take (off + k) ++ c ++ arr.toList.drop (off + k + c.length)
  | [], off, k, arr, h => by simp
  | x :: c, off, k, arr, h => by
    rw [List.zipIdx_cons, List.foldl_cons, foldl_setAt c off (k + 1) _ (by simp at h ⊢; omega)]
    simp only [List.length_cons] at h
    have hlt : off + k < arr.toList.length := by simp; omega
    simp only [Array.toList_setIfInBounds]
    have e1 : (arr.toList.set (off + k) x).take (off + (k + 1)) = arr.toList.take (off + k) ++ [x] := by
      rw [show off + (k + 1) = off + k + 1 from by omega, List.take_succ_eq_append_getElem (by simpa using hlt)]
      rw [List.take_set_of_le (by omega)]
      simp
    have e2 : (arr.toList.set (off + k) x).drop (off + (k + 1) + c.length) = arr.toList.drop (off + k + (c.length + 1)) := by
      rw [List.drop_set_of_lt (by omega)]
      congr 1; omega
    rw [e1, e2]
    simp

theorem fill_full {sz : Nat} : ∀ (vs : List Value) (k : Nat) (arr : Array Value), (∀ v ∈ vs, v.cells.size = sz) → (k + vs.length) * sz ≤ arr.size →
    ∃ out, Instr.fill (fun i => some (i * sz, sz)) arr ((vs.zipIdx k).map fun p => (p.2, p.1)) = some out ∧ out.toList = arr.toList.take (k * sz) ++ flat (vs.map Value.cells) ++ arr.toList.drop ((k + vs.length) * sz)
  | [], k, arr, _, _ => ⟨arr, rfl, by simp [flat]⟩
  | v :: vs, k, arr, hv, hs => by
    have h1 := hv v List.mem_cons_self
    have hle : (k + 1) * sz ≤ arr.size := Nat.le_trans (Nat.mul_le_mul_right _ (by simp)) hs
    rw [Nat.add_mul, Nat.one_mul] at hle
    have hfold : (v.cells.zipIdx.foldl (fun cs (p : Value × Nat) => cs.setIfInBounds (k * sz + p.2) p.1) arr).toList = arr.toList.take (k * sz) ++ v.cells.toList ++ arr.toList.drop (k * sz + sz) := by
      have := foldl_setAt v.cells.toList (k * sz) 0 arr (by simp [h1]; omega)
      rw [← Array.foldl_toList, Array.toList_zipIdx]
      simpa [h1] using this
    have hsz : (v.cells.zipIdx.foldl (fun cs (p : Value × Nat) => cs.setIfInBounds (k * sz + p.2) p.1) arr).size = arr.size := by
      rw [← Array.length_toList, hfold]
      simp [h1]; omega
    obtain ⟨out, ho, hl⟩ := fill_full vs (k + 1) (v.cells.zipIdx.foldl (fun cs (p : Value × Nat) => cs.setIfInBounds (k * sz + p.2) p.1) arr) (fun u hu => hv u (List.mem_cons_of_mem _ hu)) (by rw [hsz]; simpa [Nat.add_assoc, Nat.add_comm 1] using hs)
    refine ⟨out, ?_, ?_⟩
    · rw [List.zipIdx_cons, List.map_cons]
      simp only [Instr.fill]
      rw [if_neg]
      · exact ho
      · simp [h1]; omega
    · rw [hl, hfold]
      have e1 : (arr.toList.take (k * sz) ++ v.cells.toList ++ arr.toList.drop (k * sz + sz)).take ((k + 1) * sz) = arr.toList.take (k * sz) ++ v.cells.toList := by
        rw [List.take_left']
        simp [h1, Nat.add_mul]; omega
      have e2 : (arr.toList.take (k * sz) ++ v.cells.toList ++ arr.toList.drop (k * sz + sz)).drop ((k + 1 + vs.length) * sz) = arr.toList.drop ((k + (vs.length + 1)) * sz) := by
        rw [List.drop_append]
        have hlen : (arr.toList.take (k * sz) ++ v.cells.toList).length = (k + 1) * sz := by simp [h1, Nat.add_mul]; omega
        have hge : (k + 1) * sz ≤ (k + 1 + vs.length) * sz := Nat.mul_le_mul_right _ (by omega)
        rw [List.drop_eq_nil_of_le (by rw [hlen]; exact hge), hlen, List.drop_drop, List.nil_append]
        congr 1
        rw [show k + (vs.length + 1) = k + 1 + vs.length from by omega]
        rw [Nat.add_mul k 1 sz] at hge
        rw [Nat.add_mul k 1 sz]
        omega
      rw [e1, e2, List.map_cons, flat_cons]
      simp

/-- The parts of a literal, in order from 0 on. -/
def evParts (V : List (Nat × Value)) : Nat → List (Nat × Operand) → Option (List Value)
  | _, [] => some []
  | k, (i, x) :: r => bif Nat.beq i k then (match ev V x, evParts V (k + 1) r with | some v, some vs => some (v :: vs) | _, _ => none) else none

theorem evParts_spec {a : Act} (ha : Holds n D a V) : ∀ {k : Nat} {ps : List (Nat × Operand)} {vs : List Value}, evParts V k ps = some vs → ps.map (fun p => (p.1, a.eval p.2)) = (vs.zipIdx k).map fun p => (p.2, p.1)
  | k, [], vs, h => by
    obtain rfl : vs = [] := by simpa [evParts] using h.symm
    rfl
  | k, (i, x) :: r, vs, h => by
    simp only [evParts] at h
    cases hb : Nat.beq i k with
    | false => rw [hb] at h; simp at h
    | true =>
      rw [hb] at h
      simp only [cond_true] at h
      split at h
      · rename_i v vs' h1 h2
        obtain rfl : v :: vs' = vs := by simpa using h
        have : i = k := Nat.eq_of_beq_eq_true hb
        subst this
        rw [List.map_cons, evParts_spec ha h2, ha.eval h1, List.zipIdx_cons, List.map_cons]
      · cases h

theorem ownsRow_new {w : World} {cs : Array Value} {e : TypeId} {sz : Nat} {xs : List (Array Value)} (hcs : cs.toList = flat xs) (hxs : ∀ c ∈ xs, c.size = sz ∧ ∀ u ∈ c.toList, u.oneCell' = true) (hm : xs.length ≤ maxLen) :
    (Ent.row (some ⟨w.heap.size, 0, none⟩) xs.length e sz xs).sat (w.alloc (.cells cs e)) := by
  have hfl := flat_length (fun c hc => (hxs c hc).1)
  refine ⟨⟨hfl, .inr ⟨w.heap.size, xs.length, cs, rfl, Nat.zero_le _, heap_alloc_new w _, Nat.le_refl _, hm, ?_, ?_⟩⟩, hxs⟩
  · rw [← Array.length_toList, hcs, hfl]
  · rw [hcs, ← hfl, List.take_length]

theorem op_buildSlice {t e : TypeId} {len : Nat} {parts : Array (Nat × Operand)} {d sz bytes : Nat} {z : Value} {vs : List Value} (ho : o.op = .buildSlice t len parts) (hd : o.dst = some d) (hdn : Nat.blt d n = true) (ht : SlB P t e sz bytes z)
    (hp : evParts V 0 parts.toList = some vs) (hlen : vs.length = len) (hvs : ∀ v ∈ vs, v.cells.size = sz ∧ ∀ u ∈ v.cells.toList, u.oneCell' = true) (hsmall : len * sz ≤ 16777216)
    (hT : ∀ g, T ((d, .slice (some ⟨g, 0, none⟩) len len) :: V) (.row (some ⟨g, 0, none⟩) len e sz (vs.map Value.cells) :: L)) : OpS P w0 O n D o V L T := by
  intro a w ha hw
  obtain ⟨i, hi, hz, hsz, _⟩ := ht.info
  subst hsz
  have hps := evParts_spec ha hp
  have hpe : (parts.map fun (p : Nat × Operand) => (p.1, a.eval p.2)).toList = (vs.zipIdx 0).map fun p => (p.2, p.1) := by
    rw [Array.toList_map]; exact hps
  obtain ⟨cells, hrun, hcells⟩ : ∃ cells : Array Value, (Instr.buildSlice t len (parts.map fun (p : Nat × Operand) => (p.1, a.eval p.2))).run P w = .ok (.slice (some ⟨w.heap.size, 0, none⟩) len len) (w.alloc (.cells cells e)) ∧ cells.toList = flat (vs.map Value.cells) := by
    by_cases h0 : len * i.size = 0
    · have hl0 : len = 0 := by
        rcases Nat.mul_eq_zero.1 h0 with h | h
        · exact h
        · have := ht.pos; omega
      subst hl0
      have : vs = [] := List.eq_nil_of_length_eq_zero hlen
      subst this
      refine ⟨#[], ?_, rfl⟩
      have hpn : parts = #[] := by
        have : parts.toList = [] := by
          have := congrArg List.length hpe
          simp at this
          simpa using this
        exact Array.ext' (by simpa using this)
      subst hpn
      simp [Instr.buildSlice, run_underlying ht.under, sizeOf, typeInfo, hi, Instr.fill, newRow, Array.range_zero']
    · obtain ⟨out, hf, hout⟩ := fill_full (sz := i.size) vs 0 ((Array.range (len * i.size)).map (z.cells[· % z.cells.size]!)) (fun v hv => (hvs v hv).1) (by simp [hlen])
      refine ⟨out, run_buildSlice w t e len _ out i z ht.under hi hz (by omega) h0 (by rw [hpe]; exact hf), ?_⟩
      rw [hout, hlen]
      simp
  have hxs : ∀ c ∈ vs.map Value.cells, c.size = i.size ∧ ∀ u ∈ c.toList, u.oneCell' = true := by
    intro c hc
    obtain ⟨v, hv, rfl⟩ := List.mem_map.1 hc
    exact hvs v hv
  have hr : (execOp a.eval o).run P w = .ok (.value (.slice (some ⟨w.heap.size, 0, none⟩) len len)) (w.alloc (.cells cells e)) := by
    simp only [execOp, ho]
    simp only [Sem.run_bind, hrun, Result.andThen_ok, Sem.run_pure]
  unfold Does
  rw [hr, hd]
  refine ⟨_, _, hT w.heap.size, ha.put hdn _, ?_⟩
  have hlm : (vs.map Value.cells).length ≤ maxLen := by
    have : len ≤ len * i.size := Nat.le_mul_of_pos_right _ ht.pos
    simp [maxLen]; omega
  have hsat := ownsRow_new (w := w) (e := e) hcells hxs hlm
  have hall := hw.alloc (.cells cells e)
  have := hall.set (A := []) (R := L) (w' := w.alloc (.cells cells e)) (p := .blk w.heap.size (.cells cells e)) (p' := .row (some ⟨w.heap.size, 0, none⟩) len e i.size (vs.map Value.cells)) rfl rfl rfl rfl (Nat.le_refl _)
    (by rw [← hlen]; simpa using hsat) (by simp [Ent.blocks]) (fun b hb => .inl (by simpa [Ent.blocks] using hb)) (fun _ _ _ => rfl)
  simpa using this

/-! ### append -/
theorem run_append_nothing {w : World} (t ty e : TypeId) {A : Option Addr} {m cap : Nat} (c : Nat) (sz : Nat) {i : TypeInfo} (ht : P.underlying t = some (.slice e)) (hi : P.info? e = some i) (hc : m ≤ cap) (hA : A = none → m = 0) :
    (Builtin.append_ #[t, t] ty #[.slice A m cap, .slice none 0 c]).run P w = .ok (.slice A m cap) w := by
  cases A with
  | none => simp [Builtin.append_, run_underlying ht, sizeOf, typeInfo, hi, Builtin.lenOf, Builtin.firstCells, hc]
  | some a => simp [Builtin.append_, run_underlying ht, sizeOf, typeInfo, hi, Builtin.lenOf, Builtin.firstCells, hc, storeCells]

theorem run_append_rd {w : World} {t ty e : TypeId} {sz bytes : Nat} {z : Value} (ht : SlB P t e sz bytes z) {A : Option Addr} {cap : Nat} {xs : List (Array Value)} (hrow : (Ent.row A cap e sz xs).sat w)
    {B : Option Addr} {c : Nat} {ys : List (Array Value)} (hB : Rd w B sz ys) (h63 : xs.length + ys.length ≤ maxLen) (hby : (xs.length + ys.length) * bytes ≤ 140737488355328) :
    ∃ A' cap' w', (Builtin.append_ #[t, t] ty #[.slice A xs.length cap, .slice B ys.length c]).run P w = .ok (.slice A' (xs ++ ys).length cap') w' ∧ (Ent.row A' cap' e sz (xs ++ ys)).sat w' ∧ w.grownBy w' (Value.slice A xs.length cap).ownBlock ∧
      (A'.map Addr.block = A.map Addr.block ∨ A'.map Addr.block = some w.heap.size) := by
  obtain ⟨i, hi, hz, hsz, hbb⟩ := ht.info
  obtain ⟨hown, hxs⟩ := hrow
  rcases ys with _ | ⟨y, ys⟩
  · -- nothing is appended
    have hcap : xs.length ≤ cap ∧ (A = none → xs.length = 0) := by
      rcases hown.2 with ⟨hv, hn⟩ | ⟨g, cp, cur, hv, _, _, hnc, _⟩
      · injection hv with h1 h2 h3; exact ⟨by omega, fun _ => hn⟩
      · injection hv with h1 h2 h3; exact ⟨by omega, fun h => by rw [h1] at h; cases h⟩
    cases B with
    | none => exact ⟨A, cap, w, by simpa using run_append_nothing t ty e c sz ht.under hi hcap.1 hcap.2, by simpa using ⟨hown, hxs⟩, World.grownBy.refl w _, .inl rfl⟩
    | some b =>
      obtain ⟨v', w', h1, h2, h3, _, h5⟩ := run_append_own_at (P := P) w 0 t ty e i z sz bytes ht.under hi hz hsz hbb ht.zs ht.pos (.slice A xs.length cap) xs.length (flat xs) hown b 0 c [] (by simp) (by simp) (by simp) (by simpa using h63) (by simpa using hby) (Nat.zero_le _)
      simp only [Nat.add_zero, List.append_nil] at h2
      obtain ⟨A', cap', rfl⟩ : ∃ A' cap', v' = .slice A' xs.length cap' := by
        rcases h2.2 with ⟨hv, hn⟩ | ⟨g, cp, cur, hv, _⟩
        · exact ⟨none, 0, by rw [hv, hn]⟩
        · exact ⟨_, _, hv⟩
      refine ⟨A', cap', w', by simpa using h1, by simpa using ⟨h2, hxs⟩, h3, ?_⟩
      cases A' <;> cases A <;> simp [Value.ownBlock] at h5 ⊢ <;> exact h5
  · have hy := fun k c hk => hB.at_ k c hk
    obtain ⟨_, ⟨b, j, rfl⟩, _, _⟩ := hy 0 y (by simp)
    have hys : ∀ c ∈ (y :: ys), c.size = sz ∧ ∀ u ∈ c.toList, u.oneCell' = true := by
      intro c hc
      obtain ⟨k, hk⟩ := List.mem_iff_getElem?.1 hc
      exact ⟨(hy k c hk).1, (hy k c hk).2.2.2.1⟩
    have hfl := flat_length (fun c hc => (hys c hc).1)
    have hnews : ∀ q u, (flat (y :: ys))[q]? = some u → w.cell? ((⟨b, j, none⟩ : Addr).add q) = some u := by
      intro q u hq
      have hqlt : q < (y :: ys).length * sz := by
        have := (List.getElem?_eq_some_iff.1 hq).1
        omega
      have hk : q / sz < (y :: ys).length := Nat.div_lt_of_lt_mul (by rw [Nat.mul_comm]; exact hqlt)
      have hr : q % sz < sz := Nat.mod_lt _ ht.pos
      have hqe : q = q / sz * sz + q % sz := by rw [Nat.mul_comm]; exact (Nat.div_add_mod q sz).symm
      have hget := flat_get (fun c hc => (hys c hc).1) (List.getElem?_eq_getElem hk) hr
      rw [← hqe] at hget
      obtain ⟨_, _, _, _, hc⟩ := hy (q / sz) _ (List.getElem?_eq_getElem hk)
      have h1 := hc (q % sz) hr
      rw [add_none]
      rw [show ab (some ⟨b, j, none⟩) = b from rfl, show ao (some ⟨b, j, none⟩) = j from rfl, Nat.add_assoc, ← hqe] at h1
      rw [h1, ← hget, hq]
    obtain ⟨v', w', h1, h2, h3, _, h5⟩ := run_append_own_at (P := P) w 0 t ty e i z sz bytes ht.under hi hz hsz hbb ht.zs ht.pos (.slice A xs.length cap) xs.length (flat xs) hown ⟨b, j, none⟩ (y :: ys).length c (flat (y :: ys)) hfl hnews
      (fun u hu => by obtain ⟨c, hc, hcu⟩ := mem_flat.1 hu; exact (hys c hc).2 u hcu) h63 hby (Nat.zero_le _)
    rw [← flat_append] at h2
    obtain ⟨A', cap', rfl⟩ : ∃ A' cap', v' = .slice A' (xs.length + (y :: ys).length) cap' := by
      rcases h2.2 with ⟨hv, hn⟩ | ⟨g, cp, cur, hv, _⟩
      · simp at hn
      · exact ⟨_, _, hv⟩
    refine ⟨A', cap', w', by rw [List.length_append]; exact h1, ⟨by rw [List.length_append]; exact h2, ?_⟩, h3, ?_⟩
    · intro c hc
      rcases List.mem_append.1 hc with hc | hc
      · exact hxs c hc
      · exact hys c hc
    · cases A' <;> cases A <;> simp [Value.ownBlock] at h5 ⊢ <;> exact h5

theorem row_blocks_nodup {A : Option Addr} {cap : Nat} {e : TypeId} {sz : Nat} {xs : List (Array Value)} : (Ent.row A cap e sz xs).blocks.Nodup := by
  cases A <;> simp [Ent.blocks]

theorem op_append_core {x y : Operand} {t e : TypeId} {d sz bytes i : Nat} {z : Value} {A B : Option Addr} {cap c m : Nat} {xs ys : List (Array Value)}
    (ho : o.op = .call { callee := .builtin .append, args := #[x, y], argTypes := #[t, t] }) (hd : o.dst = some d) (hdn : Nat.blt d n = true) (ht : SlB P t e sz bytes z) (hx : ev V x = some (.slice A xs.length cap)) (hL : L[i]? = some (.row A cap e sz xs))
    (hy : ev V y = some (.slice B m c)) (hm : ys.length = m) (hB : ∀ w, SL w0 O w L → Rd w B sz ys) (h63 : xs.length + m ≤ 9223372036854775807) (hby : (xs.length + m) * bytes ≤ 140737488355328)
    (hT : ∀ A' cap', T ((d, .slice A' (xs ++ ys).length cap') :: V) (L.set i (.row A' cap' e sz (xs ++ ys)))) : OpS P w0 O n D o V L T := by
  intro a w ha hw
  subst hm
  obtain ⟨A', cap', w', hrun, hsat, hgr, hbl⟩ := run_append_rd (P := P) (w := w) (ty := o.type) (c := c) ht (hw.ents _ (List.mem_of_getElem? hL)) (hB w hw) (by unfold maxLen; omega) hby
  have hr : (execOp a.eval o).run P w = .ok (.value (.slice A' (xs ++ ys).length cap')) w' := by
    simp only [execOp, ho, resolve, invoke, builtin, Sem.run_bind, Sem.run_pure, Result.andThen_ok, List.map_toArray, List.map_cons, List.map_nil, ha.eval hx, ha.eval hy, hrun]
  unfold Does
  rw [hr, hd]
  refine ⟨_, _, hT A' cap', ha.put hdn _, hw.setI hL hgr.os hgr.tape hgr.output hgr.size hsat row_blocks_nodup ?_ ?_⟩
  · intro b hb
    have hb' : A'.map Addr.block = some b := by simpa [Ent.blocks] using hb
    rcases hbl with h | h
    · left; rw [h] at hb'; simpa [Ent.blocks] using hb'
    · right; rw [h] at hb'; simp at hb'; omega
  · intro k hk hkb
    refine hgr.block k hk ?_
    intro hkk
    apply hkb
    cases A with
    | none => simp [Value.ownBlock] at hkk
    | some a => simp [Value.ownBlock] at hkk; simp [Ent.blocks, hkk]

/-- append of elements that lie in a slice of one's own (a literal's): it is not wanted behind. -/
theorem op_append {x y : Operand} {t e : TypeId} {d sz bytes i j : Nat} {z : Value} {A B : Option Addr} {cap c capy m : Nat} {ey : TypeId} {xs ys : List (Array Value)}
    (ho : o.op = .call { callee := .builtin .append, args := #[x, y], argTypes := #[t, t] }) (hd : o.dst = some d) (hdn : Nat.blt d n = true) (ht : SlB P t e sz bytes z) (hx : ev V x = some (.slice A xs.length cap)) (hL : L[i]? = some (.row A cap e sz xs))
    (hy : ev V y = some (.slice B m c)) (hm : ys.length = m) (hLy : L[j]? = some (.row B capy ey sz ys)) (h63 : xs.length + m ≤ 9223372036854775807) (hby : (xs.length + m) * bytes ≤ 140737488355328)
    (hT : ∀ A' cap', T ((d, .slice A' (xs ++ ys).length cap') :: V) (L.set i (.row A' cap' e sz (xs ++ ys)))) : OpS P w0 O n D o V L T :=
  op_append_core ho hd hdn ht hx hL hy hm (fun w hw => Ent.rd (hw.ents _ (List.mem_of_getElem? hLy))) h63 hby hT
/-- .. of elements that lay ahead of the call. -/
theorem op_append0 {x y : Operand} {t e : TypeId} {d sz bytes i : Nat} {z : Value} {A B : Option Addr} {cap c m : Nat} {xs ys : List (Array Value)}
    (ho : o.op = .call { callee := .builtin .append, args := #[x, y], argTypes := #[t, t] }) (hd : o.dst = some d) (hdn : Nat.blt d n = true) (ht : SlB P t e sz bytes z) (hx : ev V x = some (.slice A xs.length cap)) (hL : L[i]? = some (.row A cap e sz xs))
    (hy : ev V y = some (.slice B m c)) (hm : ys.length = m) (hr : Rd w0 B sz ys) (hO : ab B ∉ O) (h63 : xs.length + m ≤ 9223372036854775807) (hby : (xs.length + m) * bytes ≤ 140737488355328)
    (hT : ∀ A' cap', T ((d, .slice A' (xs ++ ys).length cap') :: V) (L.set i (.row A' cap' e sz (xs ++ ys)))) : OpS P w0 O n D o V L T :=
  op_append_core ho hd hdn ht hx hL hy hm (fun w hw => hw.rd hr hO) h63 hby hT

theorem sat_nil (w : World) (e : TypeId) (sz : Nat) : (Ent.row none 0 e sz []).sat w := ⟨World.ownsRow_nil w 0 e sz, by simp⟩
/-- A nil slice is one of one's own. -/
theorem SL.rowNil {w : World} (h : SL w0 O w L) (e : TypeId) (sz : Nat) : SL w0 O w (.row none 0 e sz [] :: L) := by
  refine ⟨h.os, h.tape, h.output, h.size, h.same, ?_, ?_, ?_⟩
  · intro p hp
    rcases List.mem_cons.1 hp with rfl | hp
    · exact sat_nil w e sz
    · exact h.ents p hp
  · simpa [List.flatMap_cons, Ent.blocks] using h.nodup
  · intro p hp b hb
    rcases List.mem_cons.1 hp with rfl | hp
    · simp [Ent.blocks] at hb
    · exact h.own p hp b hb
theorem CX.rowNil {r : Option Nat} {Q : Exit → Act → World → Prop} {c : Code} (e : TypeId) (sz : Nat) (h : CX P r Q w0 O n D c V (.row none 0 e sz [] :: L)) : CX P r Q w0 O n D c V L :=
  fun a w ha hw => h a w ha (hw.rowNil e sz)

/-! ### A store into an element of a slice of one's own -/
theorem flat_set {sz : Nat} : ∀ {xs : List (Array Value)}, (∀ c ∈ xs, c.size = sz) → ∀ {k : Nat} {c : Array Value}, k < xs.length → c.size = sz → flat (xs.set k c) = (flat xs).take (k * sz) ++ c.toList ++ (flat xs).drop ((k + 1) * sz)
  | [], _, k, c, h, _ => by simp at h
  | d :: xs, hs, 0, c, _, hc => by
    have hd := hs d List.mem_cons_self
    simp only [List.set_cons_zero, flat_cons, Nat.zero_mul, List.take_zero, List.nil_append, Nat.zero_add, Nat.one_mul]
    rw [List.drop_left' (by simp [hd])]
  | d :: xs, hs, k + 1, c, h, hc => by
    have hd := hs d List.mem_cons_self
    simp only [List.set_cons_succ, flat_cons]
    rw [flat_set (fun c hc => hs c (List.mem_cons_of_mem _ hc)) (by simpa using h) hc]
    have e1 : (k + 1) * sz = d.toList.length + k * sz := by simp [hd, Nat.add_mul]; omega
    have e2 : (k + 1 + 1) * sz = d.toList.length + (k + 1) * sz := by simp [hd, Nat.add_mul]; omega
    have r1 : (d.toList ++ flat xs).take ((k + 1) * sz) = d.toList ++ (flat xs).take (k * sz) := by rw [e1, List.take_length_add_append]
    have r2 : (d.toList ++ flat xs).drop ((k + 1 + 1) * sz) = (flat xs).drop ((k + 1) * sz) := by rw [e2, List.drop_length_add_append]
    rw [r1, r2]
    simp only [List.append_assoc]

theorem op_storeElem {t e : TypeId} {x y : Operand} {A : Option Addr} {cap sz k i : Nat} {v : Value} {xs : List (Array Value)} (ho : o.op = .store t x y) (hd : o.dst = none) (hx : ev V x = some (.pointer (some ⟨ab A, ao A + k * sz, none⟩))) (hy : ev V y = some v) (hs : SzT P t sz)
    (hv : v.cells.size = sz) (h1 : ∀ u ∈ v.cells.toList, u.oneCell' = true) (hL : L[i]? = some (.row A cap e sz xs)) (hk : k < xs.length)
    (hT : T V (L.set i (.row A cap e sz (xs.set k v.cells)))) : OpS P w0 O n D o V L T := by
  intro a w ha hw
  have hsat := hw.ents _ (List.mem_of_getElem? hL)
  obtain ⟨⟨hl, h2⟩, hxs⟩ := hsat
  rcases h2 with ⟨hvv, hn⟩ | ⟨g, cp, cur, hvv, _, hg, hnc, hcm, hcs, htake⟩
  · omega
  · injection hvv with hA hn hc
    subst hA; subst hc
    have hfl := flat_length (fun c hc => (hxs c hc).1)
    have hle : (k + 1) * sz ≤ xs.length * sz := Nat.mul_le_mul_right _ hk
    have hle2 : xs.length * sz ≤ cap * sz := Nat.mul_le_mul_right _ hnc
    rw [Nat.add_mul, Nat.one_mul] at hle
    have hx' : a.eval x = .pointer (some ⟨g, k * sz, none⟩) := by
      rw [ha.eval hx]
      show Value.pointer (some ⟨g, 0 + k * sz, none⟩) = _
      rw [Nat.zero_add]
    have hr := run_store_row (P := P) (w := w) (g := g) (j := k * sz) hs hv h1 hg (by omega)
    have hr' : (execOp a.eval o).run P w = .ok .skip (w.setRow g (cur.toList.take (k * sz) ++ v.cells.toList ++ cur.toList.drop (k * sz + sz)).toArray) := by
      simp only [execOp, ho, hx', ha.eval hy, Instr.storeAt, Instr.sureAddr]
      simp only [Sem.run_bind, Sem.run_pure, Result.andThen_ok, hr]
    unfold Does
    rw [hr', hd]
    refine ⟨_, _, hT, ha, hw.setI hL rfl rfl rfl (by simp) ?_ row_blocks_nodup (fun b hb => .inl hb) (fun j _ hj => setRow_other w g j _ (by simpa [Ent.blocks] using hj))⟩
    have hxs' : ∀ c ∈ xs.set k v.cells, c.size = sz ∧ ∀ u ∈ c.toList, u.oneCell' = true := by
      intro c hc
      rcases List.mem_or_eq_of_mem_set hc with hc | rfl
      · exact hxs c hc
      · exact ⟨hv, h1⟩
    refine ⟨⟨by rw [flat_length (fun c hc => (hxs' c hc).1)], .inr ⟨g, cap, _, by simp, Nat.zero_le _, setRow_heap w g cur _ e _ hg, by simpa using hnc, hcm, ?_, ?_⟩⟩, hxs'⟩
    · simp [hv]; omega
    · rw [flat_set (fun c hc => (hxs c hc).1) hk hv, List.length_set, ← htake]
      simp only [List.toList_toArray]
      have hclen : cur.toList.length = cap * sz := by simpa using hcs
      rw [List.take_append, List.take_append]
      have e1 : (cur.toList.take (k * sz)).length = k * sz := by rw [List.length_take, hclen]; exact Nat.min_eq_left (by omega)
      have e2 : (cur.toList.take (k * sz) ++ v.cells.toList).length = k * sz + sz := by rw [List.length_append, e1]; simp [hv]
      rw [e1, e2]
      rw [List.take_take, List.take_take, Nat.min_eq_right (by omega), Nat.min_eq_left (by omega : k * sz ≤ xs.length * sz)]
      rw [List.take_of_length_le (l := v.cells.toList) (by simp [hv]; omega)]
      rw [List.drop_take, Nat.add_mul, Nat.one_mul]
end
end Go.Proofs.YtnadipjlhlbfoaaGreatDoor
namespace Go.Proofs.YtnadipjlhlbfoaaGreatDoor
set_option linter.all false
open Go Go.RowKit

section
variable {P : Program} {w0 : World} {O : List Nat} {n : Nat} {D : List Deferred} {o : Oper} {V : List (Nat × Value)} {L : List Ent} {T : List (Nat × Value) → List Ent → Prop}

theorem op_storeAll {t : TypeId} {x y : Operand} {g i sz : Nat} {v : Value} {cs : Array Value} {tt : TypeId} (ho : o.op = .store t x y) (hd : o.dst = none) (hx : ev V x = some (.pointer (some ⟨g, 0, none⟩))) (hy : ev V y = some v) (hs : SzT P t sz)
    (hv : v.cells.size = sz) (h1 : ∀ u ∈ v.cells.toList, u.oneCell' = true) (hL : L[i]? = some (.blk g (.cells cs tt (0, 0)))) (hsz : cs.size = sz)
    (hT : T V (L.set i (.blk g (.cells v.cells tt (0, 0))))) : OpS P w0 O n D o V L T :=
  op_store (cs' := v.cells) ho hd hx hy hs hv h1 hL (by omega) (by rw [List.take_zero, List.nil_append, List.drop_eq_nil_of_le (by simp; omega), List.append_nil]) hT

theorem op_store1 {t : TypeId} {x y : Operand} {g j i : Nat} {v : Value} {cs cs' : Array Value} {tt : TypeId} (ho : o.op = .store t x y) (hd : o.dst = none) (hx : ev V x = some (.pointer (some ⟨g, j, none⟩))) (hy : ev V y = some v) (hs : SzT P t 1)
    (hv : v.oneCell' = true) (hL : L[i]? = some (.blk g (.cells cs tt (0, 0)))) (hj : Nat.blt j cs.size = true) (hcs : cs.setIfInBounds j v = cs')
    (hT : T V (L.set i (.blk g (.cells cs' tt (0, 0))))) : OpS P w0 O n D o V L T := by
  subst hcs
  have hc : v.cells = #[v] := by cases v <;> simp [Value.oneCell'] at hv <;> rfl
  have hlt : j < cs.size := by simpa using hj
  refine op_store (cs' := cs.setIfInBounds j v) ho hd hx hy hs (by rw [hc]; rfl) (by rw [hc]; simpa using hv) hL (by omega) ?_ hT
  rw [hc, Array.toList_setIfInBounds, List.set_eq_take_append_cons_drop]
  simp [hlt]

theorem yw_build {t : TypeId} {parts : Array (Nat × Operand)} {v : Value} {pv : List (Nat × Value)} (ho : o.op = .build t parts) (hp : parts.toList.mapM (fun p => (ev V p.2).map (fun v => (p.1, v))) = some pv)
    (hb : ∀ w, (Instr.build t pv.toArray).run P w = .ok v w) : YldW P n D o V v := by
  intro a w ha
  have key : ∀ (l : List (Nat × Operand)) (pv : List (Nat × Value)), l.mapM (fun p => (ev V p.2).map (fun v => (p.1, v))) = some pv → l.map (fun p => (p.1, a.eval p.2)) = pv := by
    intro l
    induction l with
    | nil => intro pv h; simp at h; simp [h]
    | cons p l ih =>
      intro pv h
      rw [List.mapM_cons] at h
      cases h1 : ev V p.2 with
      | none => rw [h1] at h; simp at h
      | some u =>
        rw [h1] at h
        cases h2 : l.mapM (fun p => (ev V p.2).map (fun v => (p.1, v))) with
        | none => rw [h2] at h; simp at h
        | some q =>
          rw [h2] at h
          simp at h
          subst h
          rw [List.map_cons, ih q h2, ha.eval h1]
  have e : (parts.map fun (p : Nat × Operand) => (p.1, a.eval p.2)) = pv.toArray := Array.ext' (by rw [Array.toList_map]; exact key _ _ hp)
  simp only [execOp, ho]
  simp only [e, Sem.run_bind, hb, Result.andThen_ok, Sem.run_pure]

/-- One state, of a family. -/
def Met {σ : Type} (Vx : σ → List (Nat × Value)) (Lx : σ → List Ent) (I : σ → Prop) (w0 : World) (O : List Nat) (n : Nat) (D : List Deferred) (e : Exit) (a : Act) (w : World) : Prop :=
  e = .normal ∧ ∃ x, I x ∧ Holds n D a (Vx x) ∧ SL w0 O w (Lx x)

theorem CX.cut {r : Option Nat} {Q : Exit → Act → World → Prop} {σ : Type} (Vx : σ → List (Nat × Value)) (Lx : σ → List Ent) (I : σ → Prop) {c d : Code} (h1 : CX P r (Met Vx Lx I w0 O n D) w0 O n D c V L) (h2 : ∀ x, I x → CX P r Q w0 O n D d (Vx x) (Lx x)) :
    CX P r Q w0 O n D (.seq c d) V L := by
  intro a w ha hw
  refine wpIn_seq (wpIn_mono (h1 a w ha hw) ?_)
  rintro e a' w' ⟨rfl, x, hI, ha', hw'⟩
  exact h2 x hI a' w' ha' hw'
theorem XX.meet {σ : Type} {Vx : σ → List (Nat × Value)} {Lx : σ → List Ent} {I : σ → Prop} (x : σ) (hI : I x) (hV : Sub V (Vx x)) (hL : (Lx x).Sublist L) : XX (Met Vx Lx I w0 O n D) w0 O n D .normal V L :=
  fun a w ha hw => ⟨rfl, x, hI, ha.sub hV, hw.sub hL⟩
theorem XX.know {Q : Exit → Act → World → Prop} {e : Exit} {t : Nat} {v u : Value} (hv : lk V t = some v) (h : v = u) (hx : XX Q w0 O n D e ((t, u) :: V) L) : XX Q w0 O n D e V L :=
  fun a w ha hw => hx a w (ha.cons hv h) hw
theorem XX.ents {Q : Exit → Act → World → Prop} {e : Exit} {L' : List Ent} (h : L = L') (hx : XX Q w0 O n D e V L') : XX Q w0 O n D e V L := h ▸ hx
theorem RX.ents {r : Option Nat} {ops : Array Oper} {Q : Exit → Act → World → Prop} {l : List Oper} {L' : List Ent} (h : L = L') (hx : RX P r ops Q w0 O n D l V L') : RX P r ops Q w0 O n D l V L := h ▸ hx
theorem CX.ents {r : Option Nat} {Q : Exit → Act → World → Prop} {c : Code} {L' : List Ent} (h : L = L') (hx : CX P r Q w0 O n D c V L') : CX P r Q w0 O n D c V L := h ▸ hx
end

/-- A call of a function with a body is entered. -/
theorem enters_of {P : Program} {f : FuncId} {fn : Func} {c : Code} (hf : P.funcs[f]? = some fn) (hname : (fn.name == "runtime.NumGoroutine") = false) (hb : fn.body = some c) (args : Array Value) (w : World) :
    (callFunc f args).run P w = .ok (.enter f args) w := by
  have h1 : fn.name ≠ "runtime.NumGoroutine" := by simpa using hname
  simp [callFunc, hf, h1, hb]
end Go.Proofs.YtnadipjlhlbfoaaGreatDoor
namespace Go.Proofs.YtnadipjlhlbfoaaGreatDoor
set_option linter.all false
open Go Go.RowKit

section
variable {P : Program} {w0 : World} {O : List Nat} {n : Nat} {D : List Deferred} {o : Oper} {V : List (Nat × Value)} {L : List Ent} {T : List (Nat × Value) → List Ent → Prop}

theorem plain_of {v : Value} (h : (v.cells.toList.all fun u => u.oneCell') = true) : ∀ u ∈ v.cells.toList, u.oneCell' = true := List.all_eq_true.1 h

/-! ### Maps -/
/-- A map type with keys of type int; its element's zero value. -/
def MapT (P : Program) (t : TypeId) (z : Value) : Prop := ∃ k e i, P.underlying t = some (.map k e) ∧ P.underlying k = some (.int .i64) ∧ P.info? e = some i ∧ i.zero = some z

theorem findNow_int (k : Int) : ∀ (l : List MapEntry) (i : Nat), (∀ e ∈ l, ∃ a, e.key = .int .i64 a) →
    (Instr.findNow (.int .i64) (.int .i64 k) l i = some none ∧ mget k l = none) ∨
    ∃ j e, Instr.findNow (.int .i64) (.int .i64 k) l i = some (some (i + j, e.val)) ∧ l[j]? = some e ∧ e.key = .int .i64 k ∧ mget k l = some e.val ∧
      ∀ (u : Value) k', mget k' (l.modify j fun e => { e with key := .int .i64 k, val := u }) = if k' = k then some u else mget k' l
  | [], i, _ => .inl ⟨rfl, rfl⟩
  | e :: r, i, h => by
    obtain ⟨a, ha⟩ := h e List.mem_cons_self
    by_cases hak : a = k
    · subst hak
      refine .inr ⟨0, e, ?_, rfl, ha, by simp [mget, ha], ?_⟩
      · simp [Instr.findNow, Instr.sameNow, ha]
      · intro u k'
        simp only [List.modify_zero_cons, mget, ha]
        by_cases hk : a = k'
        · simp [hk]
        · simp [hk, Ne.symm hk]
    · have hne : ¬ k = a := fun e => hak e.symm
      have hs : Instr.sameNow (.int .i64) (.int .i64 k) (.int .i64 a) = some false := by simp [Instr.sameNow, hne]
      rcases findNow_int k r (i + 1) (fun e he => h e (List.mem_cons_of_mem _ he)) with ⟨h1, h2⟩ | ⟨j, e', h1, h2, h3, h4, h5⟩
      · exact .inl ⟨by simp [Instr.findNow, ha, hs, h1], by simp [mget, ha, hak, h2]⟩
      · refine .inr ⟨j + 1, e', by simp [Instr.findNow, ha, hs, h1]; omega, by simpa using h2, h3, by simp [mget, ha, hak, h4], ?_⟩
        intro u k'
        simp only [List.modify_succ_cons, mget, ha, h5]
        by_cases hk : a = k'
        · subst hk; simp [hak]
        · simp [hk]

theorem mget_append (k' k : Int) (u : Value) (b : Nat) : ∀ (l : List MapEntry), mget k l = none → (∀ e ∈ l, ∃ a, e.key = .int .i64 a) → mget k' (l ++ [{ key := .int .i64 k, val := u, born := b }]) = if k' = k then some u else mget k' l
  | [], _, _ => by
    by_cases h : k = k'
    · simp [mget, h]
    · simp [mget, h, Ne.symm h]
  | e :: r, h, hk => by
    obtain ⟨a, ha⟩ := hk e List.mem_cons_self
    simp only [mget, ha] at h
    by_cases hak : a = k
    · simp [hak] at h
    · simp only [hak, if_false] at h
      simp only [List.cons_append, mget, ha, mget_append k' k u b r h (fun e he => hk e (List.mem_cons_of_mem _ he))]
      by_cases hak' : a = k'
      · subst hak'; simp [hak]
      · simp [hak']

theorem isKey_int (k : Int) : MapKept.IsKey (.int .i64) (.int .i64 k) := by simp [MapKept.IsKey]

theorem run_lookup_int {w : World} {t : TypeId} {z : Value} {g : Nat} {f : Int → Option Value} (ht : MapT P t z) (h : MapAt w g f) (k : Int) (b : Bool) :
    (Instr.lookup t (.map (some g)) (.int .i64 k) b).run P w = .ok (if b then .tuple #[(f k).getD z, .bool (f k).isSome] else (f k).getD z) w := by
  obtain ⟨kt, et, i, h1, h2, h3, h4⟩ := ht
  obtain ⟨es, clock, hg, hk, hf⟩ := h
  have hz : (zeroValue et).run P w = .ok z w := by simp [zeroValue, typeInfo, h3, h4]
  rcases findNow_int k es.toList 0 hk with ⟨h5, h6⟩ | ⟨j, e, h5, h6, h7, h8, _⟩
  · have : f k = none := by rw [← hf, h6]
    cases b <;> simp [Instr.lookup, run_underlying h1, MapKept.run_getObj_map hg, MapKept.run_checkKey h2 (isKey_int k), MapKept.run_findKey h2 h5, hz, Result.andThen, this]
  · have : f k = some e.val := by rw [← hf, h8]
    cases b <;> simp [Instr.lookup, run_underlying h1, MapKept.run_getObj_map hg, MapKept.run_checkKey h2 (isKey_int k), MapKept.run_findKey h2 h5, hz, Result.andThen, this]

theorem y_lookup {t : TypeId} {m x : Operand} {g i : Nat} {f : Int → Option Value} {k : Int} {z : Value} (ho : o.op = .lookup t m x false) (hm : ev V m = some (.map (some g))) (hx : ev V x = some (.int .i64 k)) (ht : MapT P t z) (hL : L[i]? = some (.imap g f)) :
    Yld P w0 O n D o V L ((f k).getD z) := by
  intro a w ha hw
  have h := run_lookup_int (P := P) ht (hw.ents _ (List.mem_of_getElem? hL)) k false
  simp [execOp, ho, ha.eval hm, ha.eval hx, h]
theorem y_lookupOk {t : TypeId} {m x : Operand} {g i : Nat} {f : Int → Option Value} {k : Int} {z : Value} (ho : o.op = .lookup t m x true) (hm : ev V m = some (.map (some g))) (hx : ev V x = some (.int .i64 k)) (ht : MapT P t z) (hL : L[i]? = some (.imap g f)) :
    Yld P w0 O n D o V L (.tuple #[(f k).getD z, .bool (f k).isSome]) := by
  intro a w ha hw
  have h := run_lookup_int (P := P) ht (hw.ents _ (List.mem_of_getElem? hL)) k true
  simp [execOp, ho, ha.eval hm, ha.eval hx, h]

theorem run_mapUpdate_int {w : World} {t : TypeId} {z : Value} {g : Nat} {f : Int → Option Value} (ht : MapT P t z) (h : MapAt w g f) (k : Int) (u : Value) :
    ∃ es' clock', (Instr.mapUpdate t (.map (some g)) (.int .i64 k) u).run P w = .ok () { w with heap := w.heap.setIfInBounds g (.map es' clock') } ∧
      (∀ e ∈ es'.toList, ∃ a, e.key = .int .i64 a) ∧ ∀ k', mget k' es'.toList = if k' = k then some u else f k' := by
  obtain ⟨kt, et, i, h1, h2, h3, h4⟩ := ht
  obtain ⟨es, clock, hg, hk, hf⟩ := h
  rcases findNow_int k es.toList 0 hk with ⟨h5, h6⟩ | ⟨j, e, h5, h6, h7, h8, h9⟩
  · refine ⟨es.push { key := .int .i64 k, val := u, born := clock }, clock + 1, ?_, ?_, ?_⟩
    · simp [Instr.mapUpdate, run_underlying h1, MapKept.run_getObj_map hg, MapKept.run_checkKey h2 (isKey_int k), MapKept.run_findKey h2 h5, MapKept.run_setObj_map _ hg, Result.andThen]
    · intro e he
      rw [Array.toList_push] at he
      rcases List.mem_append.1 he with he | he
      · exact hk e he
      · rw [List.mem_singleton] at he; subst he; exact ⟨k, rfl⟩
    · intro k'
      rw [Array.toList_push, mget_append k' k u clock es.toList h6 hk, hf]
  · have hj : es[j]? = some e := by simpa using h6
    refine ⟨es.modify j fun e => { e with key := .int .i64 k, val := u }, clock, ?_, ?_, ?_⟩
    · simp only [Nat.zero_add] at h5
      simp [Instr.mapUpdate, run_underlying h1, MapKept.run_getObj_map hg, MapKept.run_checkKey h2 (isKey_int k), MapKept.run_findKey h2 h5, hj, h7, MapKept.run_keyThatStays (isKey_int k), MapKept.run_setObj_map _ hg, Result.andThen]
    · intro e' he
      rw [Array.toList_modify] at he
      obtain ⟨m, hm⟩ := List.mem_iff_getElem?.1 he
      rw [List.getElem?_modify] at hm
      cases hq : es.toList[m]? with
      | none => rw [hq] at hm; simp at hm
      | some e0 =>
        rw [hq] at hm
        simp at hm
        split at hm
        · subst hm; exact ⟨k, rfl⟩
        · subst hm; exact hk e0 (List.mem_of_getElem? hq)
    · intro k'
      rw [Array.toList_modify, h9, hf]

theorem SL.setM {w w' : World} (h : SL w0 O w L) {i g : Nat} {f f' : Int → Option Value} (hL : L[i]? = some (.imap g f)) (hos : w'.os = w.os) (ht : w'.tape = w.tape) (hou : w'.output = w.output)
    (hsz : w'.heap.size = w.heap.size) (hg : MapAt w' g f') (hk : ∀ k, k ≠ g → w'.heap[k]? = w.heap[k]?) : SL w0 O w' (L.set i (.imap g f')) :=
  h.setI hL hos ht hou (Nat.le_of_eq hsz.symm) hg (by simp [Ent.blocks]) (fun b hb => .inl (by simpa [Ent.blocks] using hb)) (fun k _ hkb => hk k (by simpa [Ent.blocks] using hkb))

theorem setMap_SL {w : World} (hw : SL w0 O w L) {i g : Nat} {f f' : Int → Option Value} (hL : L[i]? = some (.imap g f)) {es' : Array MapEntry} {clock' : Nat} (h1 : ∀ e ∈ es'.toList, ∃ a, e.key = .int .i64 a) (h2 : ∀ k, mget k es'.toList = f' k) :
    SL w0 O { w with heap := w.heap.setIfInBounds g (.map es' clock') } (L.set i (.imap g f')) := by
  obtain ⟨es, clock, hg, _, _⟩ : MapAt w g f := hw.ents _ (List.mem_of_getElem? hL)
  exact hw.setM hL rfl rfl rfl (by simp) ⟨es', clock', (MapKept.heap_set hg).1, h1, h2⟩ (fun k hk => (MapKept.heap_set hg).2 k hk)

theorem op_mapUpdate {t : TypeId} {m x y : Operand} {g i : Nat} {f : Int → Option Value} {k : Int} {u z : Value} (ho : o.op = .mapUpdate t m x y ∨ o.op = .insert t m x y) (hd : o.dst = none) (hm : ev V m = some (.map (some g))) (hx : ev V x = some (.int .i64 k)) (hy : ev V y = some u)
    (ht : MapT P t z) (hL : L[i]? = some (.imap g f)) (hT : T V (L.set i (.imap g fun k' => if k' = k then some u else f k'))) : OpS P w0 O n D o V L T := by
  intro a w ha hw
  obtain ⟨es', clock', h1, h2, h3⟩ := run_mapUpdate_int (P := P) ht (hw.ents _ (List.mem_of_getElem? hL)) k u
  have hr : (execOp a.eval o).run P w = .ok .skip { w with heap := w.heap.setIfInBounds g (.map es' clock') } := by
    rcases ho with ho | ho <;> simp [execOp, ho, ha.eval hm, ha.eval hx, ha.eval hy, h1]
  unfold Does
  rw [hr, hd]
  exact ⟨_, _, hT, ha, setMap_SL hw hL h2 h3⟩

theorem op_clearMap {t : TypeId} {x : Operand} {g i : Nat} {f : Int → Option Value} {z : Value} (ho : o.op = .call { callee := .builtin .clear, args := #[x], argTypes := #[t] }) (hd : o.dst = none) (hx : ev V x = some (.map (some g)))
    (ht : MapT P t z) (hL : L[i]? = some (.imap g f)) (hT : T V (L.set i (.imap g fun _ => none))) : OpS P w0 O n D o V L T := by
  intro a w ha hw
  obtain ⟨kt, et, _, h1, _⟩ := ht
  obtain ⟨es, clock, hg, _, _⟩ : MapAt w g f := hw.ents _ (List.mem_of_getElem? hL)
  have hr : (execOp a.eval o).run P w = .ok (.value (.tuple #[])) { w with heap := w.heap.setIfInBounds g (.map #[] clock) } := by
    simp [execOp, ho, resolve, invoke, builtin, ha.eval hx, Builtin.clear_, run_underlying h1, MapKept.run_getObj_map hg, MapKept.run_setObj_map _ hg, Result.andThen]
  unfold Does
  rw [hr, hd]
  exact ⟨_, _, hT, ha, setMap_SL hw hL (by simp) (fun k => rfl)⟩

/-! ### Slicing -/
theorem add_zero' (A : Option Addr) : A.map (·.add 0) = A := by
  cases A with
  | none => rfl
  | some a => simp [Addr.add]

/-- x[:hi] -/
theorem yw_sliceTo {t e : TypeId} {x h : Operand} {A : Option Addr} {len cap sz k : Nat} {q : Int} (ho : o.op = .slice t x none (some h) none) (ht : SlT P t e sz) (hx : ev V x = some (.slice A len cap)) (hy : ev V h = some (.int .i64 q)) (hq : q = (k : Int)) (hk : k ≤ cap) :
    YldW P n D o V (.slice A k cap) := by
  intro a w ha
  obtain ⟨i, h1, h2, h3⟩ := ht
  subst hq
  have e1 : (if cap = 0 then A else A.map (·.add (0 * i.size))) = A := by split <;> simp [add_zero']
  have hk' : (k : Int) ≤ (cap : Int) := by omega
  simp [execOp, ho, ha.eval hx, ha.eval hy, Instr.sliceAt, Instr.slice, run_underlying h1, Instr.sliceBounds, Instr.sliceBound, asIntOf, hk, sizeOf, typeInfo, h2]
  simpa using e1

/-- x[lo:] -/
theorem yw_sliceFrom {t e : TypeId} {x l : Operand} {A : Option Addr} {len cap sz k : Nat} {q : Int} (ho : o.op = .slice t x (some l) none none) (ht : SlT P t e sz) (hx : ev V x = some (.slice A len cap)) (hy : ev V l = some (.int .i64 q)) (hq : q = (k : Int)) (hk : k ≤ len) :
    YldW P n D o V (.slice (if cap = k then A else A.map (·.add (k * sz))) (len - k) (cap - k)) := by
  intro a w ha
  obtain ⟨i, h1, h2, h3⟩ := ht
  subst hq
  subst h3
  have hk' : (k : Int) ≤ (len : Int) := by omega
  simp [execOp, ho, ha.eval hx, ha.eval hy, Instr.sliceAt, Instr.slice, run_underlying h1, Instr.sliceBounds, Instr.sliceBound, asIntOf, hk, sizeOf, typeInfo, h2]

/-- s[:hi] -/
theorem yw_strTo {t : TypeId} {x h : Operand} {s : ByteArray} {k : Nat} {q : Int} (ho : o.op = .slice t x none (some h) none) (ht : P.underlying t = some .string) (hx : ev V x = some (.string s)) (hy : ev V h = some (.int .i64 q)) (hq : q = (k : Int)) (hk : k ≤ s.size) :
    YldW P n D o V (.string (s.extract 0 k)) := by
  intro a w ha
  subst hq
  simp [execOp, ho, ha.eval hx, ha.eval hy, Instr.sliceAt, Instr.slice, run_underlying ht, Instr.sliceBounds, Instr.sliceBound, asIntOf, hk]

/-! ### Structs compared -/
theorem yw_eqlAgg {t u : TypeId} {x y : Operand} {xs ys : Array Value} {b : Bool} (ho : o.op = .binOp .eql t x y u) (hx : ev V x = some (.agg xs)) (hy : ev V y = some (.agg ys)) (hm : P.eqGuardType P.depth t = false)
    (h : ∀ w, (Op.equalIn 10000 t (.agg xs) (.agg ys)).run P w = .ok b w) : YldW P n D o V (.bool b) := by
  intro a w ha
  have h1 := run_eqGuard_agg (P := P) (w := w) .eql t x y xs ys hm
  have h2 := run_eql_struct (P := P) (w := w) t xs ys
  simp [execOp, ho, ha.eval hx, ha.eval hy, h1, h2, h]
theorem yw_neqAgg {t u : TypeId} {x y : Operand} {xs ys : Array Value} {b : Bool} (ho : o.op = .binOp .neq t x y u) (hx : ev V x = some (.agg xs)) (hy : ev V y = some (.agg ys)) (hm : P.eqGuardType P.depth t = false)
    (h : ∀ w, (Op.equalIn 10000 t (.agg xs) (.agg ys)).run P w = .ok b w) : YldW P n D o V (.bool (!b)) := by
  intro a w ha
  have h1 := run_eqGuard_agg (P := P) (w := w) .neq t x y xs ys hm
  have h2 := run_neq_struct (P := P) (w := w) t xs ys
  simp [execOp, ho, ha.eval hx, ha.eval hy, h1, h2, h]

/-! ### An array behind a pointer -/
/-- Element k of the array of sz-cell elements that begins at block b. -/
theorem yw_indexArr {t e : TypeId} {x y : Operand} {b len sz k : Nat} {q : Int} (ho : o.op = .indexAddr t x y) (ht : P.underlying t = some (.array len e)) (hs : SzT P e sz) (hx : ev V x = some (.pointer (some ⟨b, 0, none⟩))) (hy : ev V y = some (.int .i64 q)) (hq : q = (k : Int)) (hk : k < len) :
    YldW P n D o V (.pointer (some ⟨b, k * sz, none⟩)) := by
  intro a w ha
  obtain ⟨i, h2, h3⟩ := hs
  subst hq
  have h4 : (0 : Int) ≤ (k : Int) ∧ (k : Int) < (len : Int) := by omega
  simp [execOp, ho, ha.eval hx, ha.eval hy, Instr.indexAt, Instr.sureAddr, asIntOf, run_underlying ht, sizeOf, typeInfo, h2, h3, hk, add_none]

/-- A cell that lay ahead of the call. -/
theorem y_loadG {t : TypeId} {x : Operand} {b j : Nat} {v : Value} (ho : o.op = .load t x) (hx : ev V x = some (.pointer (some ⟨b, j, none⟩))) (h1 : One P t) (hc : w0.cell? ⟨b, j, none⟩ = some v) (hO : b ∉ O) : Yld P w0 O n D o V L v := by
  intro a w ha hw
  have hb : (⟨b, j, none⟩ : Addr).block < w0.heap.size := World.block_lt_of_cell? w0 _ hc
  have hcell : w.cell? ⟨b, j, none⟩ = some v := by rw [hw.cell0 hb hO]; exact hc
  simp [execOp, ho, ha.eval hx, Instr.loadAt, Instr.sureAddr, run_load_one h1 hcell]

/-! ### Shifts -/
theorem yw_shr1 {t u : TypeId} {x y : Operand} {k : IntKind} {a : Int} (ho : o.op = .binOp .shr t x y u) (hx : ev V x = some (.int .u64 a)) (hy : ev V y = some (.int k 1)) : YldW P n D o V (.int .u64 (a / 2)) := by
  intro c w ha
  have := shift_shr_any .u64 k a 1 (by decide)
  have e : min (1 : Int).toNat IntKind.u64.bits = 1 := by decide
  rw [e] at this
  simp [execOp, ho, ha.eval hx, ha.eval hy, eqGuard, binOp, this]

/-! ### Clearing a slice's tail -/
theorem Ent.take {w : World} {A : Option Addr} {cap : Nat} {e : TypeId} {sz : Nat} {xs : List (Array Value)} (h : (Ent.row A cap e sz xs).sat w) (k : Nat) (hk : k ≤ xs.length) : (Ent.row A cap e sz (xs.take k)).sat w := by
  obtain ⟨⟨h1, h2⟩, h3⟩ := h
  have hlen : (xs.take k).length = k := by simp; omega
  have h3' : ∀ c ∈ xs.take k, c.size = sz ∧ ∀ u ∈ c.toList, u.oneCell' = true := fun c hc => h3 c (List.mem_of_mem_take hc)
  have hfl := flat_length (fun c hc => (h3 c hc).1)
  have hft : flat (xs.take k) = (flat xs).take (k * sz) := by
    have e0 : flat xs = flat (xs.take k) ++ flat (xs.drop k) := by rw [← flat_append, List.take_append_drop]
    have e1 : (flat (xs.take k)).length = k * sz := by rw [flat_length (fun c hc => (h3' c hc).1), hlen]
    rw [e0, List.take_append_of_le_length (Nat.le_of_eq e1.symm), List.take_of_length_le (Nat.le_of_eq e1)]
  refine ⟨⟨flat_length (fun c hc => (h3' c hc).1), ?_⟩, h3'⟩
  rcases h2 with ⟨hv, hn⟩ | ⟨g, cp, cur, hv, hb, hg, hnc, hcm, hcs, ht⟩
  · injection hv with hA _ hc
    subst hA; subst hc
    exact .inl ⟨by simp; omega, by omega⟩
  · injection hv with hA _ hc
    subst hA; subst hc
    refine .inr ⟨g, cap, cur, rfl, hb, hg, by omega, hcm, hcs, ?_⟩
    rw [hft, hlen, ← ht, List.take_take, Nat.min_eq_left (Nat.mul_le_mul_right _ hk)]

theorem op_clearTail {t e : TypeId} {x : Operand} {A : Option Addr} {cap sz bytes k i len : Nat} {z : Value} {xs : List (Array Value)} (ho : o.op = .call { callee := .builtin .clear, args := #[x], argTypes := #[t] }) (hd : o.dst = none)
    (ht : SlB P t e sz bytes z) (hz1 : ∀ u ∈ z.cells.toList, u.oneCell' = true)
    (hx : ev V x = some (.slice (if cap = k then A else A.map (·.add (k * sz))) (len - k) (cap - k))) (hL : L[i]? = some (.row A cap e sz xs)) (hlen : xs.length = len) (hk : k ≤ len)
    (hT : T V (L.set i (.row A cap e sz (xs.take k)))) : OpS P w0 O n D o V L T := by
  intro a w ha hw
  subst hlen
  have hzs := ht.zs
  have hsat := hw.ents _ (List.mem_of_getElem? hL)
  have hsat' := Ent.take hsat k hk
  unfold Does
  by_cases hfull : xs.length - k = 0
  · have hr : (execOp a.eval o).run P w = .ok (.value (.tuple #[])) w := by
      have h0 := ht.under
      have hx' := ha.eval hx
      generalize (if cap = k then A else A.map (·.add (k * sz))) = B at hx'
      rw [hfull] at hx'
      cases B <;> simp [execOp, ho, resolve, hx', invoke, builtin, Builtin.clear_, run_underlying h0]
    rw [hr, hd]
    exact ⟨_, _, hT, ha, hw.setI hL rfl rfl rfl (Nat.le_refl _) hsat' row_blocks_nodup (fun b hb => .inl hb) (fun _ _ _ => rfl)⟩
  · obtain ⟨⟨hl, h2⟩, hxs⟩ := hsat
    rcases h2 with ⟨hvv, hn⟩ | ⟨g, cp, cur, hvv, _, hg, hnc, hcm, hcs, htake⟩
    · omega
    · injection hvv with hA hn hc
      subst hA; subst hc
      have hne : cap ≠ k := by omega
      have hx' : a.eval x = .slice (some ⟨g, k * sz, none⟩) (xs.length - k) (cap - k) := by
        rw [ha.eval hx, if_neg hne]
        simp [add_none]
      obtain ⟨m, hm⟩ : ∃ m, xs.length - k = m + 1 := ⟨xs.length - k - 1, by omega⟩
      have hzl : (Builtin.zeroCells z.cells (xs.length - k)).toList.length = (xs.length - k) * sz := by simp [Builtin.zeroCells, hzs]
      have hz1' : ∀ u ∈ (Builtin.zeroCells z.cells (xs.length - k)).toList, u.oneCell' = true := by
        intro u hu
        simp only [Builtin.zeroCells, Array.toList_map, List.mem_map, Array.mem_toList_iff, Array.mem_range] at hu
        obtain ⟨j, hj, rfl⟩ := hu
        have hpos : 0 < z.cells.size := by
          rcases Nat.eq_zero_or_pos z.cells.size with h | h
          · rw [h] at hj; omega
          · exact h
        have hlt := Nat.mod_lt j hpos
        rw [getElem!_pos z.cells (j % z.cells.size) hlt]
        exact hz1 _ (by simp)
      have hle : xs.length * sz ≤ cap * sz := Nat.mul_le_mul_right _ hnc
      have hsub : (xs.length - k) * sz = xs.length * sz - k * sz := Nat.sub_mul _ _ _
      have hkle : k * sz ≤ xs.length * sz := Nat.mul_le_mul_right _ hk
      have hst := run_storeCells_at P g (k * sz) e (Builtin.zeroCells z.cells (xs.length - k)).toList 0 cur w hg (by rw [hzl]; omega) hz1'
      have hr : (execOp a.eval o).run P w = .ok (.value (.tuple #[])) (w.setRow g (cur.toList.take (k * sz) ++ (Builtin.zeroCells z.cells (xs.length - k)).toList ++ cur.toList.drop (k * sz + (xs.length - k) * sz)).toArray) := by
        have h0 := ht.under
        obtain ⟨inf, hi, hzz, _, _⟩ := ht.info
        have hzv : (zeroValue e).run P w = .ok z w := by simp [zeroValue, typeInfo, hi, hzz]
        rw [hm] at hst hx'
        simp only [Nat.add_zero] at hst
        simp [execOp, ho, resolve, invoke, builtin, hx', Builtin.clear_, run_underlying h0, hzv, hst]
        rw [← hm, Array.length_toList] at *
        simp [hm] at hzl ⊢
        rw [hzl]
      rw [hr, hd]
      refine ⟨_, _, hT, ha, hw.setI hL rfl rfl rfl (by simp) ?_ row_blocks_nodup (fun b hb => .inl hb) (fun j _ hj => setRow_other w g j _ (by simpa [Ent.blocks] using hj))⟩
      have hlen : (xs.take k).length = k := by simp; omega
      obtain ⟨⟨h1', h2'⟩, h3'⟩ := hsat'
      refine ⟨⟨h1', .inr ⟨g, cap, _, rfl, Nat.zero_le _, setRow_heap w g cur _ e _ hg, by omega, hcm, ?_, ?_⟩⟩, h3'⟩
      · have : (Builtin.zeroCells z.cells (xs.length - k)).size = (xs.length - k) * sz := by simpa using hzl
        simp [this]; omega
      · rcases h2' with ⟨hv, _⟩ | ⟨g', cp', cur', hv, _, hg', _, _, _, ht'⟩
        · cases hv
        · injection hv with hA' _ _
          injection hA' with hA'
          injection hA' with hgg _ _
          subst hgg
          have : cur' = cur := by
            rw [hg] at hg'; injection hg' with hg'; injection hg' with hg' _; exact hg'.symm
          subst this
          rw [← ht', hlen]
          have hclen : cur'.toList.length = cap * sz := by simpa using hcs
          simp only [List.toList_toArray, List.append_assoc]
          rw [List.take_append_of_le_length (by rw [List.length_take, hclen]; omega), List.take_take, Nat.min_self]
end
end Go.Proofs.YtnadipjlhlbfoaaGreatDoor
namespace Go.Proofs.YtnadipjlhlbfoaaGreatDoor
set_option linter.all false
open Go Go.RowKit

theorem perm_pick {α : Type} : ∀ {l : List α} (i : Nat) {p : α}, l[i]? = some p → l.Perm (p :: l.eraseIdx i)
  | [], i, p, h => by simp at h
  | a :: l, 0, p, h => by
    have : a = p := by simpa using h
    subst this; exact List.Perm.refl _
  | a :: l, i + 1, p, h => by
    have h' : l[i]? = some p := by simpa using h
    exact ((perm_pick i h').cons a).trans (List.Perm.swap _ _ _)
theorem perm_pick2 {α : Type} {l : List α} (i j : Nat) {p q : α} (h : l[i]? = some p) (h' : (l.eraseIdx i)[j]? = some q) : l.Perm ([p, q] ++ (l.eraseIdx i).eraseIdx j) :=
  (perm_pick i h).trans ((perm_pick j h').cons _)
theorem perm_pick1 {α : Type} {l : List α} (i : Nat) {p : α} (h : l[i]? = some p) : l.Perm ([p] ++ l.eraseIdx i) := perm_pick i h

section
variable {P : Program} {w0 : World} {O : List Nat} {n : Nat} {D : List Deferred} {o : Oper} {V : List (Nat × Value)} {L : List Ent} {T : List (Nat × Value) → List Ent → Prop}

/-- The entries M, as another call finds them. -/
theorem SL.restart {w : World} (h : SL w0 O w L) {M R : List Ent} (hL : L.Perm (M ++ R)) : SL w (M.flatMap Ent.blocks) w M := by
  have h' := h.perm hL
  refine SL.start w M (fun p hp => h'.ents p (List.mem_append_left _ hp)) ?_
  have := h'.nodup
  rw [List.flatMap_append] at this
  exact (List.nodup_append.1 this).1

/-- A callee that is handed the entries M. -/
theorem op_callP {f : Operand} {xs : Array Operand} {ts : Array TypeId} {k d : Nat} {cap : Array Value} {vs : List Value} {σ : Type} {val : σ → Value} {LL : σ → List Ent} {post : σ → Prop} (M R : List Ent)
    (ho : o.op = .call { callee := .value f, args := xs, argTypes := ts }) (hd : o.dst = some d) (hdn : Nat.blt d n = true) (hf : ev V f = some (.func (.func k) #[] cap)) (hx : evs V xs.toList = some vs)
    (ent : ∀ args w, (callFunc k args).run P w = .ok (.enter k args) w) (hL : L.Perm (M ++ R))
    (hc : ∀ w, SL w0 O w (M ++ R) → SL w (M.flatMap Ent.blocks) w M → Calls P k (vs.toArray ++ cap) w fun e w' => ∃ x, post x ∧ e = .returned (val x) ∧ SL w (M.flatMap Ent.blocks) w' (LL x))
    (hT : ∀ x, post x → T ((d, val x) :: V) (LL x ++ R)) : OpS P w0 O n D o V L T := by
  have h := op_call (P := P) (w0 := w0) (O := O) (n := n) (D := D) (o := o) (V := V) (L := M ++ R) (T := T) ho hd hdn hf hx ent rfl (fun w hw => hc w hw (hw.restart (List.Perm.refl _))) hT
  intro a w ha hw
  exact h a w ha (hw.perm hL)

/-- An entry known otherwise. -/
theorem RX.know1 {r : Option Nat} {ops : Array Oper} {Q : Exit → Act → World → Prop} {l : List Oper} (i : Nat) {p q : Ent} (hL : L[i]? = some p) (e : p = q) (h : RX P r ops Q w0 O n D l V (L.set i q)) : RX P r ops Q w0 O n D l V L := by
  subst e
  have : L.set i p = L := by
    obtain ⟨hi, h⟩ := List.getElem?_eq_some_iff.1 hL
    subst h; exact List.set_getElem_self hi
  rw [this] at h
  exact h

theorem SL.pick {w : World} (h : SL w0 O w L) {L' R : List Ent} (hL : L.Perm (L' ++ R)) : SL w0 O w L' := (h.perm hL).sub (List.sublist_append_left _ _)

theorem XX.meetP {σ : Type} {Vx : σ → List (Nat × Value)} {Lx : σ → List Ent} {I : σ → Prop} (R : List Ent) (x : σ) (hI : I x) (hV : Sub V (Vx x)) (hL : L.Perm (Lx x ++ R)) : XX (Met Vx Lx I w0 O n D) w0 O n D .normal V L :=
  fun a w ha hw => ⟨rfl, x, hI, ha.sub hV, hw.pick hL⟩
theorem XX.againP {Q : Exit → Act → World → Prop} {σ : Type} {Vx : σ → List (Nat × Value)} {Lx : σ → List Ent} {I : σ → Prop} {m : σ → Nat} {k : Nat} (R : List Ent) (x : σ) (hm : m x < k) (hI : I x) (hV : Sub V (Vx x)) (hL : L.Perm (Lx x ++ R)) :
    XX (Exit.then (Again Vx Lx I m w0 O n D k) Q) w0 O n D .normal V L :=
  fun a w ha hw => ⟨m x, hm, x, rfl, hI, ha.sub hV, hw.pick hL⟩
theorem CX.drawL {Q : Exit → Act → World → Prop} {id : Nat} {l : List Oper} (th : Nat) (LS : List Ent) (tab : Tab) (hm : P.follows .mixedOrders = true) (ht : tabOf l.toArray = tab) (hs : Region.noSelect l.toArray = true) (h : DX P l.toArray tab Q w0 O n D th LS l.toArray.size 0 V L) : CX P none Q w0 O n D (.region id l.toArray true) V L := by
  intro a w ha hw
  refine wpIn_region_any hm ?_
  rw [← maskA_zero]
  exact wpAnyN.sound _ _ _ _ (h (Fits.start hs ht) a _ ha (hw.drew _))
theorem y_lookupE {t : TypeId} {m x : Operand} {g i : Nat} {f : Int → Option Value} {k : Int} {z v : Value} (ho : o.op = .lookup t m x false) (hm : ev V m = some (.map (some g))) (hx : ev V x = some (.int .i64 k)) (ht : MapT P t z) (hL : L[i]? = some (.imap g f)) (hv : (f k).getD z = v) :
    Yld P w0 O n D o V L v := hv ▸ y_lookup ho hm hx ht hL
end
end Go.Proofs.YtnadipjlhlbfoaaGreatDoor
namespace Go.Proofs.YtnadipjlhlbfoaaGreatDoor
set_option linter.all false
open Go Go.RowKit
section
variable {P : Program} {w : World}
theorem fieldsOf_of {t : TypeId} {fs : Array Field} (h : P.underlying t = some (.struct fs)) : P.fieldsOf t = fs := by simp [Program.fieldsOf, h]
theorem run_part_one {t : TypeId} {xs : Array Value} {off : Nat} {v : Value} (h : One P t) (hx : xs[off]? = some v) : (part t xs off).run P w = .ok v w := by
  obtain ⟨d, hd, h1⟩ := h
  have : (isAgg t).run P w = .ok false w := by
    simp only [isAgg, Sem.run_bind, run_underlying hd, Result.andThen_ok]
    cases d <;> simp [oneB] at h1 ⊢
  simp [part, Sem.run_bind, this, hx]
theorem eqF_nil {d : Nat} {xs ys : Array Value} : (Op.eqFields (d + 1) xs ys []).run P w = .ok true w := by simp [Op.eqFields]
theorem eqF_int {d : Nat} {xs ys : Array Value} {f : Field} {fs : List Field} {k k' : IntKind} {a b : Int} {r : Bool} (hn : (f.name == "_") = false) (ht : P.underlying f.type = some (.int k')) (hx : xs[f.offset]? = some (.int k a)) (hy : ys[f.offset]? = some (.int k b))
    (h : (Op.eqFields (d + 1) xs ys fs).run P w = .ok r w) : (Op.eqFields (d + 1) xs ys (f :: fs)).run P w = .ok (a == b && r) w := by
  have hn' : f.name ≠ "_" := by simpa using hn
  have h1 : One P f.type := ⟨_, ht, rfl⟩
  simp only [Op.eqFields, hn', ne_eq, not_false_eq_true, if_true, Sem.run_bind, run_part_one h1 hx, run_part_one h1 hy, Result.andThen_ok, run_equalIn_int w d f.type k k' a b ht]
  cases a == b <;> simp [h]
theorem eqF_str {d : Nat} {xs ys : Array Value} {f : Field} {fs : List Field} {a b : ByteArray} {r : Bool} (hn : (f.name == "_") = false) (ht : P.underlying f.type = some .string) (hx : xs[f.offset]? = some (.string a)) (hy : ys[f.offset]? = some (.string b))
    (h : (Op.eqFields (d + 1) xs ys fs).run P w = .ok r w) : (Op.eqFields (d + 1) xs ys (f :: fs)).run P w = .ok (a.toList == b.toList && r) w := by
  have hn' : f.name ≠ "_" := by simpa using hn
  have h1 : One P f.type := ⟨_, ht, rfl⟩
  simp only [Op.eqFields, hn', ne_eq, not_false_eq_true, if_true, Sem.run_bind, run_part_one h1 hx, run_part_one h1 hy, Result.andThen_ok, run_equalIn_string w d f.type a b ht]
  cases a.toList == b.toList <;> simp [h]
theorem equal_of {d : Nat} {t : TypeId} {xs ys : Array Value} {fs : Array Field} {r : Bool} (ht : P.underlying t = some (.struct fs)) (hp : P.stoodInHeld t = false) (h : (Op.eqFields d xs ys fs.toList).run P w = .ok r w) : (Op.equalIn (d + 1) t (.agg xs) (.agg ys)).run P w = .ok r w := by
  have e := fieldsOf_of ht
  rw [run_equalIn_agg w d t xs ys (by rw [e]; exact ht) hp, e]
  exact h
theorem y_lookupOkE {w0 : World} {O : List Nat} {n : Nat} {D : List Deferred} {o : Oper} {V : List (Nat × Value)} {L : List Ent} {t : TypeId} {m x : Operand} {g i : Nat} {f : Int → Option Value} {k : Int} {z v : Value} (ho : o.op = .lookup t m x true) (hm : ev V m = some (.map (some g))) (hx : ev V x = some (.int .i64 k)) (ht : MapT P t z) (hL : L[i]? = some (.imap g f)) (hf : f k = some v) :
    Yld P w0 O n D o V L (.tuple #[v, .bool true]) := by
  have := y_lookupOk (P := P) (w0 := w0) (O := O) (n := n) (D := D) ho hm hx ht hL
  rw [hf] at this
  exact this
theorem SL.cellOf {w0 : World} {O : List Nat} {L : List Ent} (hw : SL w0 O w L) {g i j : Nat} {cs : Array Value} {t : TypeId} {fr : Nat × Nat} {v : Value} (hL : L[i]? = some (.blk g (.cells cs t fr))) (hv : cs[j]? = some v) : w.cell? ⟨g, j, none⟩ = some v := by
  rw [cell_of_row w g j cs t fr (hw.ents _ (List.mem_of_getElem? hL))]; exact hv
end
theorem op_storeElemE {P : Program} {w0 : World} {O : List Nat} {n : Nat} {D : List Deferred} {o : Oper} {V : List (Nat × Value)} {L : List Ent} {T : List (Nat × Value) → List Ent → Prop} {t e : TypeId} {x y : Operand} {A : Option Addr} {cap sz k i : Nat} {v : Value} {xs ys : List (Array Value)} (ho : o.op = .store t x y) (hd : o.dst = none) (hx : ev V x = some (.pointer (some ⟨ab A, ao A + k * sz, none⟩))) (hy : ev V y = some v) (hs : SzT P t sz)
    (hv : v.cells.size = sz) (h1 : ∀ u ∈ v.cells.toList, u.oneCell' = true) (hL : L[i]? = some (.row A cap e sz xs)) (hk : k < xs.length) (hset : xs.set k v.cells = ys)
    (hT : T V (L.set i (.row A cap e sz ys))) : OpS P w0 O n D o V L T :=
  op_storeElem ho hd hx hy hs hv h1 hL hk (by rw [hset]; exact hT)
/-! ### Append, of elements under an encoding -/
section
variable {P : Program} {w0 : World} {O : List Nat} {n : Nat} {D : List Deferred} {o : Oper} {V : List (Nat × Value)} {L : List Ent} {T : List (Nat × Value) → List Ent → Prop}
theorem op_appendM {α : Type} (enc : α → Array Value) {x y : Operand} {t e : TypeId} {d sz bytes i j : Nat} {z : Value} {A B : Option Addr} {cap c capy m : Nat} {ey : TypeId} {xs : List α} (ys : List α) {yc : List (Array Value)}
    (ho : o.op = .call { callee := .builtin .append, args := #[x, y], argTypes := #[t, t] }) (hd : o.dst = some d) (hdn : Nat.blt d n = true) (ht : SlB P t e sz bytes z) (hx : ev V x = some (.slice A xs.length cap)) (hL : L[i]? = some (.row A cap e sz (xs.map enc)))
    (hy : ev V y = some (.slice B m c)) (hm : ys.length = m) (hLy : L[j]? = some (.row B capy ey sz yc)) (hyc : ys.map enc = yc) (h63 : xs.length + ys.length ≤ 9223372036854775807) (hby : (xs.length + ys.length) * bytes ≤ 140737488355328)
    (hT : ∀ A' cap', T ((d, .slice A' (xs ++ ys).length cap') :: V) (L.set i (.row A' cap' e sz ((xs ++ ys).map enc)))) : OpS P w0 O n D o V L T := by
  subst hyc
  subst hm
  have e1 : (xs.map enc).length = xs.length := List.length_map _
  have e2 : (xs.map enc ++ ys.map enc) = (xs ++ ys).map enc := List.map_append.symm
  refine op_append (xs := xs.map enc) (ys := ys.map enc) ho hd hdn ht (by rw [e1]; exact hx) hL hy (List.length_map _) hLy (by rw [e1]; exact h63) (by rw [e1]; exact hby) fun A' cap' => ?_
  rw [e2, List.length_map]
  exact hT A' cap'
theorem op_appendM0 {α : Type} (enc : α → Array Value) {x y : Operand} {t e : TypeId} {d sz bytes i : Nat} {z : Value} {A B : Option Addr} {cap c m : Nat} {xs : List α} (ys : List α)
    (ho : o.op = .call { callee := .builtin .append, args := #[x, y], argTypes := #[t, t] }) (hd : o.dst = some d) (hdn : Nat.blt d n = true) (ht : SlB P t e sz bytes z) (hx : ev V x = some (.slice A xs.length cap)) (hL : L[i]? = some (.row A cap e sz (xs.map enc)))
    (hy : ev V y = some (.slice B m c)) (hm : ys.length = m) (hr : Rd w0 B sz (ys.map enc)) (hO : ab B ∉ O) (h63 : xs.length + ys.length ≤ 9223372036854775807) (hby : (xs.length + ys.length) * bytes ≤ 140737488355328)
    (hT : ∀ A' cap', T ((d, .slice A' (xs ++ ys).length cap') :: V) (L.set i (.row A' cap' e sz ((xs ++ ys).map enc)))) : OpS P w0 O n D o V L T := by
  subst hm
  have e1 : (xs.map enc).length = xs.length := List.length_map _
  have e2 : (xs.map enc ++ ys.map enc) = (xs ++ ys).map enc := List.map_append.symm
  refine op_append0 (xs := xs.map enc) (ys := ys.map enc) ho hd hdn ht (by rw [e1]; exact hx) hL hy (List.length_map _) hr hO (by rw [e1]; exact h63) (by rw [e1]; exact hby) fun A' cap' => ?_
  rw [e2, List.length_map]
  exact hT A' cap'
theorem RX.rowNil {r : Option Nat} {ops : Array Oper} {Q : Exit → Act → World → Prop} {l : List Oper} (e : TypeId) (sz : Nat) (h : RX P r ops Q w0 O n D l V (.row none 0 e sz [] :: L)) : RX P r ops Q w0 O n D l V L :=
  fun a w ha hw => h a w ha (hw.rowNil e sz)
theorem Ent.some {w : World} {A : Option Addr} {cap : Nat} {e : TypeId} {sz : Nat} {xs : List (Array Value)} (h : (Ent.row A cap e sz xs).sat w) (hl : 0 < xs.length) : ∃ b j, A = Option.some ⟨b, j, none⟩ := by
  obtain ⟨⟨_, h2⟩, _⟩ := h
  rcases h2 with ⟨_, hn⟩ | ⟨g, _, _, hv, _⟩
  · omega
  · injection hv with hA _ _
    exact ⟨g, 0, hA⟩
/-- A slice's address, known ahead of a step. -/
theorem RX.rowSome {r : Option Nat} {ops : Array Oper} {Q : Exit → Act → World → Prop} {l : List Oper} (i : Nat) {A : Option Addr} {cap : Nat} {e : TypeId} {sz : Nat} {xs : List (Array Value)} (hL : L[i]? = Option.some (.row A cap e sz xs)) (hl : 0 < xs.length)
    (h : (∃ b j, A = Option.some ⟨b, j, none⟩) → RX P r ops Q w0 O n D l V L) : RX P r ops Q w0 O n D l V L :=
  fun a w ha hw => h (Ent.some (hw.ents _ (List.mem_of_getElem? hL)) hl) a w ha hw
theorem CX.rowSome {r : Option Nat} {Q : Exit → Act → World → Prop} {c : Code} (i : Nat) {A : Option Addr} {cap : Nat} {e : TypeId} {sz : Nat} {xs : List (Array Value)} (hL : L[i]? = Option.some (.row A cap e sz xs)) (hl : 0 < xs.length)
    (h : (∃ b j, A = Option.some ⟨b, j, none⟩) → CX P r Q w0 O n D c V L) : CX P r Q w0 O n D c V L :=
  fun a w ha hw => h (Ent.some (hw.ents _ (List.mem_of_getElem? hL)) hl) a w ha hw
end
end Go.Proofs.YtnadipjlhlbfoaaGreatDoor
namespace Go.Proofs.YtnadipjlhlbfoaaGreatDoor
set_option linter.all false
open Go Go.RowKit
section
variable {P : Program} {w0 : World} {O : List Nat} {n : Nat} {D : List Deferred} {o : Oper} {V : List (Nat × Value)} {L : List Ent}
def bytesOf (ns : List Int) : ByteArray := ns.foldl (fun r n => r.push (UInt8.ofNat n.toNat)) ByteArray.empty
theorem y_bytesStr {s d e : TypeId} {x : Operand} {A : Option Addr} {cap i len c : Nat} {ey : TypeId} {xs : List (Array Value)} (ns : List Int) (ho : o.op = .convert s d x) (hx : ev V x = some (.slice A len c)) (hs : P.underlying s = some (.slice e)) (he : P.underlying e = some (.int .u8)) (hd : P.underlying d = some .string)
    (hL : L[i]? = some (.row A cap ey 1 xs)) (hxs : xs = ns.map fun n => #[.int .u8 n]) (hlen : ns.length = len) (hpos : 0 < len) : Yld P w0 O n D o V L (.string (bytesOf ns)) := by
  intro a w ha hw
  subst hxs
  subst hlen
  have hr := Ent.rd (hw.ents _ (List.mem_of_getElem? hL))
  obtain ⟨b, j, rfl⟩ := hr.some (k := 0) (by simpa using hpos)
  have hl := run_loadCells_list (P := P) (w := w) ⟨b, j, none⟩ (ns.map (Value.int .u8)) (fun k v hv => by
    rw [List.getElem?_map] at hv
    cases hk : ns[k]? with
    | none => rw [hk] at hv; simp at hv
    | some m =>
      rw [hk] at hv
      simp at hv
      subst hv
      obtain ⟨_, _, _, _, hc⟩ := hr.at_ k #[.int .u8 m] (by rw [List.getElem?_map, hk]; rfl)
      have := hc 0 (by decide)
      rw [add_none]
      simpa [ab, ao] using this)
  rw [List.length_map] at hl
  have h2 := run_bytesToString (P := P) w ⟨b, j, none⟩ ns.length c ns hl
  have h3 := run_convert_bytes_string (P := P) w s d e (some ⟨b, j, none⟩) ns.length c hs he hd
  simp only [execOp, ho, ha.eval hx, Sem.run_bind, h3, h2, Result.andThen_ok, Sem.run_pure]
  rfl
end
end Go.Proofs.YtnadipjlhlbfoaaGreatDoor
namespace Go.Proofs.YtnadipjlhlbfoaaGreatDoor
set_option linter.all false
open Go Go.RowKit
/-- A word as a value. -/
abbrev wi {n : Nat} (x : BitVec n) : Int := ((x.toNat : Nat) : Int)
/-- An unsigned kind of n bits. -/
def UK (k : IntKind) (n : Nat) : Prop := k.bits = n ∧ k.signed = false
theorem UK.u8 : UK .u8 8 := ⟨rfl, rfl⟩
theorem UK.u32 : UK .u32 32 := ⟨rfl, rfl⟩
theorem UK.u64 : UK .u64 64 := ⟨rfl, rfl⟩
theorem UK.wrap {k : IntKind} {n : Nat} (h : UK k n) (a : Int) : k.wrap a = a % 2 ^ n := by
  obtain ⟨h1, h2⟩ := h
  unfold IntKind.wrap
  rw [h1, h2]; simp
theorem wi_lt {n : Nat} (x : BitVec n) : wi x < 2 ^ n := by
  have := x.isLt
  have h : ((2 ^ n : Nat) : Int) = 2 ^ n := by simp
  rw [← h]; exact Int.ofNat_lt.2 this
theorem wi_nn {n : Nat} (x : BitVec n) : 0 ≤ wi x := Int.natCast_nonneg _
theorem UK.wrap_id {k : IntKind} {n : Nat} (h : UK k n) (x : BitVec n) : k.wrap (wi x) = wi x := by
  rw [h.wrap]; exact Int.emod_eq_of_lt (wi_nn x) (wi_lt x)
theorem ofInt_wi {n : Nat} (x : BitVec n) : BitVec.ofInt n (wi x) = x := by
  apply BitVec.eq_of_toNat_eq
  simp
theorem UK.wrap_nat {k : IntKind} {n : Nat} (h : UK k n) (a : Nat) : k.wrap (a : Int) = wi (BitVec.ofNat n a) := by
  rw [h.wrap]
  simp [wi]
theorem UK.wrap_int {k : IntKind} {n : Nat} (h : UK k n) (a : Int) : k.wrap a = wi (BitVec.ofInt n a) := by
  rw [h.wrap]
  have h0 : (0 : Int) < 2 ^ n := Int.pow_pos (by decide)
  have := Int.emod_nonneg a (Int.ne_of_gt h0)
  simp [wi, BitVec.toNat_ofInt]
  omega
section
variable {P : Program} {n : Nat} {D : List Deferred} {o : Oper} {V : List (Nat × Value)} {t u : TypeId} {x y : Operand} {k : IntKind} {m : Nat}
theorem bits_and {a b : BitVec m} (h : UK k m) : bits .and k (wi a) (wi b) = wi (a &&& b) := by
  unfold bits
  obtain ⟨h1, h2⟩ := h
  subst h1
  simp only [ofInt_wi]
  exact UK.wrap_id ⟨rfl, h2⟩ _
theorem bits_or {a b : BitVec m} (h : UK k m) : bits .or k (wi a) (wi b) = wi (a ||| b) := by
  unfold bits
  obtain ⟨h1, h2⟩ := h
  subst h1
  simp only [ofInt_wi]
  exact UK.wrap_id ⟨rfl, h2⟩ _
theorem bits_xor {a b : BitVec m} (h : UK k m) : bits .xor k (wi a) (wi b) = wi (a ^^^ b) := by
  unfold bits
  obtain ⟨h1, h2⟩ := h
  subst h1
  simp only [ofInt_wi]
  exact UK.wrap_id ⟨rfl, h2⟩ _
theorem yw_bvAnd {a b : BitVec m} (h : UK k m) (ho : o.op = .binOp .and t x y u) (hx : ev V x = some (.int k (wi a))) (hy : ev V y = some (.int k (wi b))) : YldW P n D o V (.int k (wi (a &&& b))) := by
  intro c w ha
  simp [execOp, ho, ha.eval hx, ha.eval hy, eqGuard, binOp, intBits_and, bits_and h]
theorem yw_bvOr {a b : BitVec m} (h : UK k m) (ho : o.op = .binOp .or t x y u) (hx : ev V x = some (.int k (wi a))) (hy : ev V y = some (.int k (wi b))) : YldW P n D o V (.int k (wi (a ||| b))) := by
  intro c w ha
  simp [execOp, ho, ha.eval hx, ha.eval hy, eqGuard, binOp, intBits_or, bits_or h]
theorem yw_bvXor {a b : BitVec m} (h : UK k m) (ho : o.op = .binOp .xor t x y u) (hx : ev V x = some (.int k (wi a))) (hy : ev V y = some (.int k (wi b))) : YldW P n D o V (.int k (wi (a ^^^ b))) := by
  intro c w ha
  simp [execOp, ho, ha.eval hx, ha.eval hy, eqGuard, binOp, intBits_xor, bits_xor h]
theorem yw_bvAdd {a b : BitVec m} (h : UK k m) (ho : o.op = .binOp .add t x y u) (hx : ev V x = some (.int k (wi a))) (hy : ev V y = some (.int k (wi b))) : YldW P n D o V (.int k (wi (a + b))) := by
  intro c w ha
  have e : k.wrap (wi a + wi b) = wi (a + b) := by rw [h.wrap]; simp [wi, BitVec.toNat_add]
  simp [execOp, ho, ha.eval hx, ha.eval hy, eqGuard, binOp, Op.intArith, e]
theorem yw_bvSub {a b : BitVec m} (h : UK k m) (ho : o.op = .binOp .sub t x y u) (hx : ev V x = some (.int k (wi a))) (hy : ev V y = some (.int k (wi b))) : YldW P n D o V (.int k (wi (a - b))) := by
  intro c w ha
  have e : k.wrap (wi a - wi b) = wi (a - b) := by
    rw [h.wrap]
    have hb := wi_lt b
    have hb' : b.toNat ≤ 2 ^ m := Nat.le_of_lt b.isLt
    have e1 : wi (a - b) = ((2 ^ m - b.toNat + a.toNat : Nat) : Int) % 2 ^ m := by simp [wi, BitVec.toNat_sub]
    have e2 : ((2 ^ m - b.toNat + a.toNat : Nat) : Int) = (wi a - wi b) + 2 ^ m := by
      rw [Int.natCast_add, Int.ofNat_sub hb']
      simp only [wi, Int.natCast_pow]
      have : ((2 : Nat) : Int) = 2 := rfl
      rw [this]; omega
    rw [e1, e2, Int.add_emod_right]
  simp [execOp, ho, ha.eval hx, ha.eval hy, eqGuard, binOp, Op.intArith, e]
theorem yw_bvMul {a b : BitVec m} (h : UK k m) (ho : o.op = .binOp .mul t x y u) (hx : ev V x = some (.int k (wi a))) (hy : ev V y = some (.int k (wi b))) : YldW P n D o V (.int k (wi (a * b))) := by
  intro c w ha
  have e : k.wrap (wi a * wi b) = wi (a * b) := by rw [h.wrap]; simp [wi, BitVec.toNat_mul]
  simp [execOp, ho, ha.eval hx, ha.eval hy, eqGuard, binOp, Op.intArith, e]
theorem shl_min {a : BitVec m} (j : Nat) : a <<< min j m = a <<< j := by
  by_cases hj : j ≤ m
  · rw [Nat.min_eq_left hj]
  · rw [Nat.min_eq_right (by omega)]
    apply BitVec.eq_of_toNat_eq
    simp [BitVec.toNat_shiftLeft, Nat.shiftLeft_eq]
    obtain ⟨d, rfl⟩ : ∃ d, j = m + d := ⟨j - m, by omega⟩
    rw [Nat.pow_add, ← Nat.mul_assoc, Nat.mul_right_comm]
    simp
theorem yw_bvShl {a : BitVec m} {ky : IntKind} {q : Int} (j : Nat) (h : UK k m) (ho : o.op = .binOp .shl t x y u) (hx : ev V x = some (.int k (wi a))) (hy : ev V y = some (.int ky q)) (hq : q = (j : Int)) : YldW P n D o V (.int k (wi (a <<< j))) := by
  intro c w ha
  subst hq
  have := shift_shl_any k ky (wi a) (j : Int) (by omega)
  have e : k.wrap (wi a * 2 ^ min (j : Int).toNat k.bits) = wi (a <<< j) := by
    rw [h.wrap, h.1, Int.toNat_natCast, ← shl_min]
    simp [wi, BitVec.toNat_shiftLeft, Nat.shiftLeft_eq]
  rw [e] at this
  simp [execOp, ho, ha.eval hx, ha.eval hy, eqGuard, binOp, this]
theorem shr_min {a : BitVec m} (j : Nat) : a >>> min j m = a >>> j := by
  by_cases hj : j ≤ m
  · rw [Nat.min_eq_left hj]
  · rw [Nat.min_eq_right (by omega)]
    apply BitVec.eq_of_toNat_eq
    rw [BitVec.toNat_ushiftRight, BitVec.toNat_ushiftRight, Nat.shiftRight_eq_div_pow, Nat.shiftRight_eq_div_pow, Nat.div_eq_of_lt a.isLt, Nat.div_eq_of_lt]
    exact Nat.lt_of_lt_of_le a.isLt (Nat.pow_le_pow_right (by decide) (by omega))
theorem yw_bvShr {a : BitVec m} {ky : IntKind} {q : Int} (j : Nat) (h : UK k m) (ho : o.op = .binOp .shr t x y u) (hx : ev V x = some (.int k (wi a))) (hy : ev V y = some (.int ky q)) (hq : q = (j : Int)) : YldW P n D o V (.int k (wi (a >>> j))) := by
  intro c w ha
  subst hq
  have := shift_shr_any k ky (wi a) (j : Int) (by omega)
  have e : wi a / 2 ^ min (j : Int).toNat k.bits = wi (a >>> j) := by
    rw [h.1, Int.toNat_natCast, ← shr_min]
    simp [wi, BitVec.toNat_ushiftRight, Nat.shiftRight_eq_div_pow]
  rw [e] at this
  simp [execOp, ho, ha.eval hx, ha.eval hy, eqGuard, binOp, this]
theorem yw_bvNot {a : BitVec m} (h : UK k m) (ho : o.op = .unOp .xor t x) (hx : ev V x = some (.int k (wi a))) : YldW P n D o V (.int k (wi (~~~a))) := by
  intro c w ha
  have hm : k.max = wi (BitVec.allOnes m) := by
    obtain ⟨h1, h2⟩ := h
    unfold IntKind.max
    rw [h1, h2]
    have : (1 : Nat) ≤ 2 ^ m := Nat.one_le_two_pow
    simp only [wi, BitVec.toNat_allOnes]
    rw [Int.ofNat_sub this]; simp
  have e : bits .xor k k.max (wi a) = wi (~~~a) := by
    rw [hm, bits_xor h, BitVec.allOnes_xor]
  simp [execOp, ho, ha.eval hx, unary_xor, h.2, intBits_xor, e]
/-- From any integer to an unsigned one. -/
theorem yw_bvOf {k1 : IntKind} {a : Int} {s d : TypeId} {sd : TypeDesc} (h : UK k m) (ho : o.op = .convert s d x) (hx : ev V x = some (.int k1 a)) (hs : P.underlying s = some sd) (hd : P.underlying d = some (.int k)) : YldW P n D o V (.int k (wi (BitVec.ofInt m a))) := by
  rw [← h.wrap_int]
  exact yw_conv ho hx hs hd
theorem yw_bvConv {k1 : IntKind} {m1 : Nat} {a : BitVec m1} {s d : TypeId} {sd : TypeDesc} (h : UK k m) (ho : o.op = .convert s d x) (hx : ev V x = some (.int k1 (wi a))) (hs : P.underlying s = some sd) (hd : P.underlying d = some (.int k)) : YldW P n D o V (.int k (wi (a.setWidth m))) := by
  have e : BitVec.ofInt m (wi a) = a.setWidth m := by
    apply BitVec.eq_of_toNat_eq
    simp [wi]
  rw [← e]
  exact yw_bvOf h ho hx hs hd
/-- .. to an int. -/
theorem yw_bvInt {k1 : IntKind} {m1 : Nat} {a : BitVec m1} {s d : TypeId} {sd : TypeDesc} (hm : m1 ≤ 63) (ho : o.op = .convert s d x) (hx : ev V x = some (.int k1 (wi a))) (hs : P.underlying s = some sd) (hd : P.underlying d = some (.int .i64)) : YldW P n D o V (.int .i64 (wi a)) := by
  have h1 := wi_lt a
  have h2 := wi_nn a
  have h3 : (2 : Int) ^ m1 ≤ 2 ^ 63 := by
    have : (2 : Nat) ^ m1 ≤ 2 ^ 63 := Nat.pow_le_pow_right (by decide) hm
    have h : ((2 ^ m1 : Nat) : Int) ≤ ((2 ^ 63 : Nat) : Int) := Int.ofNat_le.2 this
    simpa using h
  have e : IntKind.i64.wrap (wi a) = wi a := by rw [IntKind.wrap_i64]; omega
  have := yw_conv (P := P) (n := n) (D := D) ho hx hs hd
  rw [e] at this
  exact this
theorem yw_neg {a : Int} (ho : o.op = .unOp .neg t x) (hx : ev V x = some (.int .i64 a)) (h1 : -9223372036854775807 ≤ a) (h2 : a ≤ 9223372036854775807) : YldW P n D o V (.int .i64 (-a)) := by
  intro c w ha
  have : IntKind.i64.wrap (-a) = -a := by rw [IntKind.wrap_i64]; omega
  simp [execOp, ho, ha.eval hx, Op.unary, Op.intArith, this]
/-- 1 shifted left, as an int. -/
theorem yw_one_shl {ky : IntKind} {q : Int} (j : Nat) (ho : o.op = .binOp .shl t x y u) (hx : ev V x = some (.int .i64 1)) (hy : ev V y = some (.int ky q)) (hq : q = (j : Int)) (hj : j ≤ 62) : YldW P n D o V (.int .i64 ((2 ^ j : Nat) : Int)) := by
  intro c w ha
  subst hq
  have := shift_shl_any .i64 ky 1 (j : Int) (by omega)
  have hp : (2 : Nat) ^ j ≤ 2 ^ 62 := Nat.pow_le_pow_right (by decide) hj
  have e : IntKind.i64.wrap (1 * 2 ^ min (j : Int).toNat IntKind.i64.bits) = ((2 ^ j : Nat) : Int) := by
    have e1 : min (j : Int).toNat IntKind.i64.bits = j := by
      rw [Int.toNat_natCast]; exact Nat.min_eq_left (by show j ≤ 64; omega)
    have e2 : (1 * 2 ^ j : Int) = ((2 ^ j : Nat) : Int) := by simp
    have key : ∀ N : Nat, N ≤ 4611686018427387904 → IntKind.i64.wrap (N : Int) = N := fun N hN => by rw [IntKind.wrap_i64]; omega
    rw [e1, e2, key _ hp]
  rw [e] at this
  simp only [execOp, ho, ha.eval hx, ha.eval hy, eqGuard, binOp, Sem.run_bind, Sem.run_pure, this]
  simp
/-- An int shifted right. -/
theorem yw_shr_i {ky : IntKind} {a q : Int} (j : Nat) (ho : o.op = .binOp .shr t x y u) (hx : ev V x = some (.int .i64 a)) (hy : ev V y = some (.int ky q)) (hq : q = (j : Int)) (hj : j ≤ 64) : YldW P n D o V (.int .i64 (a / 2 ^ j)) := by
  intro c w ha
  subst hq
  have := shift_shr_any .i64 ky a (j : Int) (by omega)
  have e1 : min (j : Int).toNat IntKind.i64.bits = j := by
    rw [Int.toNat_natCast]; exact Nat.min_eq_left (by show j ≤ 64; exact hj)
  rw [e1] at this
  simp [execOp, ho, ha.eval hx, ha.eval hy, eqGuard, binOp, this]
end
end Go.Proofs.YtnadipjlhlbfoaaGreatDoor
namespace Go.Proofs.YtnadipjlhlbfoaaGreatDoor
set_option linter.all false
open Go Go.RowKit
/-- A byte's cell. -/
abbrev u8c (b : UInt8) : Array Value := #[.int .u8 ((b.toNat : Nat) : Int)]
abbrev u8v (b : UInt8) : Value := .int .u8 ((b.toNat : Nat) : Int)

/-- A slice of bytes of the call's own: none of its cells is frozen. -/
def MrowAt (g cap : Nat) (e : TypeId) (xs : List UInt8) (w : World) : Prop :=
  ∃ cur fz, w.heap[g]? = some (.cells cur e fz) ∧ (fz = (0, 0) ∨ cur.size ≤ fz.1) ∧ xs.length ≤ cap ∧ cap ≤ maxLen ∧ cur.size = cap ∧ cur.toList.take xs.length = xs.map u8v
def mrow (g cap : Nat) (e : TypeId) (xs : List UInt8) : Ent :=
  .gen [g] (MrowAt g cap e xs)
    (fun w ⟨cur, fz, h, _⟩ b hb => by
      obtain rfl : b = g := by simpa using hb
      exact (Array.getElem?_eq_some_iff.1 h).1)
    (fun w w' ⟨cur, fz, h, r⟩ hk => ⟨cur, fz, by rw [hk g (by simp)]; exact h, r⟩)
theorem MrowAt.rd {g cap : Nat} {e : TypeId} {xs : List UInt8} {w : World} (h : MrowAt g cap e xs w) : Rd w (some ⟨g, 0, none⟩) 1 (xs.map u8c) := by
  obtain ⟨cur, fz, hg, _, _, _, hs, ht⟩ := h
  refine ⟨fun k c hk => ?_⟩
  rw [List.getElem?_map] at hk
  cases hx : xs[k]? with
  | none => rw [hx] at hk; simp at hk
  | some x =>
    rw [hx] at hk
    simp only [Option.map_some, Option.some.injEq] at hk
    subst hk
    refine ⟨rfl, ⟨g, 0, rfl⟩, (Array.getElem?_eq_some_iff.1 hg).1, by intro u hu; simp at hu; subst hu; rfl, fun j hj => ?_⟩
    obtain rfl : j = 0 := by omega
    have hkl := (List.getElem?_eq_some_iff.1 hx).1
    have h1 : (cur.toList.take xs.length)[k]? = some (u8v x) := by rw [ht, List.getElem?_map, hx]; rfl
    rw [List.getElem?_take_of_lt hkl, Array.getElem?_toList] at h1
    show w.cell? ⟨g, 0 + k * 1 + 0, none⟩ = _
    rw [cell_of_row w _ _ cur e fz hg]
    simpa using h1
theorem SL.mrd {w0 w : World} {O : List Nat} {L : List Ent} (h : SL w0 O w L) {i g cap : Nat} {e : TypeId} {xs : List UInt8} (hL : L[i]? = some (mrow g cap e xs)) : Rd w (some ⟨g, 0, none⟩) 1 (xs.map u8c) :=
  MrowAt.rd (h.ents _ (List.mem_of_getElem? hL))

theorem SL.mcap {w0 w : World} {O : List Nat} {L : List Ent} (h : SL w0 O w L) {i g cap : Nat} {e : TypeId} {xs : List UInt8} (hL : L[i]? = some (mrow g cap e xs)) : xs.length ≤ cap := by
  obtain ⟨_, _, _, _, h1, _⟩ := (h.ents _ (List.mem_of_getElem? hL) : MrowAt g cap e xs w)
  exact h1

section
variable {P : Program} {w0 : World} {O : List Nat} {n : Nat} {D : List Deferred} {o : Oper} {V : List (Nat × Value)} {L : List Ent} {T : List (Nat × Value) → List Ent → Prop}
/-- Stores into cells ahead of the mark. -/
theorem run_storeCells_M (g : Nat) (t : TypeId) (fz : Nat × Nat) : ∀ (vs : List Value) (j i : Nat) (cur : Array Value) (w : World), w.heap[g]? = some (.cells cur t fz) → (fz = (0, 0) ∨ cur.size ≤ fz.1) → j + i + vs.length ≤ cur.size → (∀ v ∈ vs, v.oneCell' = true) →
    ∃ cur' : Array Value, (storeCells ⟨g, j, none⟩ vs i).run P w = .ok () (w.setRow g cur') ∧ cur'.size = cur.size ∧ cur'.toList = cur.toList.take (j + i) ++ vs ++ cur.toList.drop (j + i + vs.length)
  | [], j, i, cur, w, hg, _, _, _ => by
    refine ⟨cur, ?_, rfl, by simp⟩
    rw [setRow_self w g cur t fz hg]
    rfl
  | v :: rest, j, i, cur, w, hg, hfz, hl, h1 => by
    have hlt : j + i < cur.size := by simp at hl; omega
    have hcell : w.cell? ⟨g, j + i, none⟩ = some cur[j + i] := by rw [cell_of_row w g _ cur t fz hg]; simp [hlt]
    have hfro : w.frozen? ⟨g, j + i, none⟩ = false := by
      simp only [World.frozen?, hg]
      rcases hfz with h | h
      · subst h; simp
      · simp only [Bool.and_eq_false_iff, decide_eq_false_iff_not]
        left; omega
    have hst : (store ((⟨g, j, none⟩ : Addr).add i) v).run P w = .ok () (w.setRow g (cur.setIfInBounds (j + i) v)) := by
      rw [add_none, run_store P w _ v _ (h1 v (by simp)), hcell]
      simp [hfro, setCell_eq_setRow w g (j + i) cur t fz v hg]
    obtain ⟨cur', h2, h3, h4⟩ := run_storeCells_M g t fz rest j (i + 1) (cur.setIfInBounds (j + i) v) (w.setRow g (cur.setIfInBounds (j + i) v)) (setRow_heap w g cur _ t _ hg) (by simpa using hfz) (by simp at hl ⊢; omega) (fun x hx => h1 x (by simp [hx]))
    refine ⟨cur', ?_, by simpa using h3, ?_⟩
    · simp only [storeCells, Sem.run_bind, hst, Result.andThen_ok, h2, setRow_setRow]
    · rw [h4, Array.toList_setIfInBounds]
      have hl' : j + i < cur.toList.length := by simpa using hlt
      have e1 : (cur.toList.set (j + i) v).take (j + (i + 1)) = cur.toList.take (j + i) ++ [v] := by
        rw [show j + (i + 1) = (j + i) + 1 from by omega, List.take_succ_eq_append_getElem (by simpa using hl'), List.take_set_of_le (Nat.le_refl _)]
        simp
      have e2 : (cur.toList.set (j + i) v).drop (j + (i + 1) + rest.length) = cur.toList.drop (j + i + (v :: rest).length) := by
        rw [List.drop_set_of_lt (by omega)]
        congr 1; simp; omega
      rw [e1, e2]; simp

theorem run_append_M {t ty e : TypeId} {w : World} {g cap : Nat} {xs ys : List UInt8} (ht : SlB P t e 1 1 (.int .u8 0)) (h : MrowAt g cap e xs w) {B : Option Addr} {c : Nat} (hB : Rd w B 1 (ys.map u8c)) (hby : xs.length + ys.length ≤ 140737488355328) :
    ∃ g' cap' w', (Builtin.append_ #[t, t] ty #[.slice (some ⟨g, 0, none⟩) xs.length cap, .slice B ys.length c]).run P w = .ok (.slice (some ⟨g', 0, none⟩) (xs ++ ys).length cap') w' ∧ MrowAt g' cap' e (xs ++ ys) w' ∧
      w'.os = w.os ∧ w'.tape = w.tape ∧ w'.output = w.output ∧ w.heap.size ≤ w'.heap.size ∧ (∀ k, k < w.heap.size → k ≠ g → w'.heap[k]? = w.heap[k]?) ∧ (g' = g ∨ w.heap.size ≤ g') := by
  obtain ⟨i, hi, hz, hsz, hbb⟩ := ht.info
  obtain ⟨cur, fz, hg, hfz, hxc, hcm, hcs, htk⟩ := h
  have hgl : g < w.heap.size := (Array.getElem?_eq_some_iff.1 hg).1
  rcases ys with _ | ⟨y, ys⟩
  · refine ⟨g, cap, w, ?_, ⟨cur, fz, hg, hfz, by simpa using hxc, hcm, hcs, by simpa using htk⟩, rfl, rfl, rfl, Nat.le_refl _, fun _ _ _ => rfl, .inl rfl⟩
    have hA : (some (⟨g, 0, none⟩ : Addr)) = none → xs.length = 0 := fun h => by cases h
    have hf : (Builtin.firstCells i.size 0 (.slice B 0 c)).run P w = .ok #[] w := by
      cases B <;> simp [Builtin.firstCells, loadCells, loadCellsFrom]
    simp [Builtin.append_, run_underlying ht.under, sizeOf, typeInfo, hi, Builtin.lenOf, hxc, hf, storeCells]
  · obtain ⟨_, ⟨b, j, rfl⟩, _, _⟩ := hB.at_ 0 (u8c y) (by simp)
    have hnews : ∀ q u, ((y :: ys).map u8v)[q]? = some u → w.cell? ((⟨b, j, none⟩ : Addr).add q) = some u := by
      intro q u hq
      rw [List.getElem?_map] at hq
      cases hy : (y :: ys)[q]? with
      | none => rw [hy] at hq; simp at hq
      | some z =>
        rw [hy] at hq
        obtain ⟨_, _, _, _, hc⟩ := hB.at_ q (u8c z) (by rw [List.getElem?_map, hy]; rfl)
        have := hc 0 (by decide)
        rw [add_none]
        simp only [Option.map_some, Option.some.injEq] at hq
        subst hq
        simpa [ab, ao] using this
    have h1 : ∀ u ∈ (y :: ys).map u8v, u.oneCell' = true := by
      intro u hu
      obtain ⟨z, _, rfl⟩ := List.mem_map.1 hu
      rfl
    by_cases hroom : xs.length + (y :: ys).length ≤ cap
    · obtain ⟨cur', hst, hs', hl'⟩ := run_storeCells_M (P := P) g e fz ((y :: ys).map u8v) (xs.length * i.size) 0 cur w hg hfz (by rw [hsz]; simp at hroom ⊢; omega) h1
      have hf := run_firstCells_some (P := P) w i.size (y :: ys).length ⟨b, j, none⟩ (y :: ys).length c ((y :: ys).map u8v) (by rw [hsz]; simp) hnews
      refine ⟨g, cap, w.setRow g cur', ?_, ⟨cur', fz, setRow_heap w g cur cur' e fz hg, by rw [hs']; exact hfz, by simpa using hroom, hcm, by omega, ?_⟩, rfl, rfl, rfl, by simp, fun k _ hk => setRow_other w g k _ hk, .inl rfl⟩
      · have hroom' : xs.length + (ys.length + 1) ≤ cap := by simpa using hroom
        simp only [List.length_cons] at hf
        simp [Builtin.append_, run_underlying ht.under, sizeOf, typeInfo, hi, Builtin.lenOf, hroom', hf, Addr.add_lit, hst]
        rw [List.map_cons] at hst
        simp [hst]
      · rw [hl', Nat.add_zero, hsz, Nat.mul_one, htk, List.length_append]
        have : (xs.map u8v ++ (y :: ys).map u8v).length = xs.length + (y :: ys).length := by simp
        rw [← this, List.take_left, List.map_append]
    · have holds : ∀ j u, (xs.map u8v)[j]? = some u → w.cell? ((⟨g, 0, none⟩ : Addr).add j) = some u := by
        intro q u hq
        have hql : q < xs.length := by
          have := (List.getElem?_eq_some_iff.1 hq).1
          simpa using this
        rw [← htk, List.getElem?_take_of_lt hql, Array.getElem?_toList] at hq
        rw [add_none, cell_of_row w _ _ cur e fz hg]
        simpa using hq
      have hr := run_append_grow (P := P) w t ty e i (.int .u8 0) ht.under hi hz ⟨g, 0, none⟩ xs.length cap (xs.map u8v) (by rw [hsz]; simp) holds ⟨b, j, none⟩ (y :: ys).length c ((y :: ys).map u8v) (by rw [hsz]; simp) hnews (by omega) (by omega) (growslice_fits (by omega) (by rw [hbb]; omega))
      have hm : xs.length + (y :: ys).length ≤ maxLen := by simp only [maxLen]; omega
      refine ⟨w.heap.size, _, _, by rw [List.length_append]; exact hr, ⟨_, (0, 0), heap_alloc_new w.drew _, .inl rfl, ?_, grownCap_le_maxLen w _ cap e hm, ?_, ?_⟩, rfl, rfl, rfl, by simp, fun k hk _ => heap_alloc_old w.drew _ hk, .inr (Nat.le_refl _)⟩
      · rw [List.length_append]; exact grownCap_ge w _ cap e
      · have hge := grownCap_ge w (xs.length + (y :: ys).length) cap e
        have hz1 : (Value.int IntKind.u8 0).cells.size = 1 := rfl
        simp only [Array.size_append, List.size_toArray, size_zeroCells, hz1, List.length_map]
        omega
      · simp only [Array.toList_append]
        have : (xs.map u8v ++ (y :: ys).map u8v).length = (xs ++ (y :: ys)).length := by simp
        rw [← this, List.map_append]
        exact List.take_left

/-- append to such a row, of bytes that lie in L. -/
theorem op_appendM1 {x y : Operand} {t e : TypeId} {d g cap i j m cy capy : Nat} {ey : TypeId} {B : Option Addr} {xs : List UInt8} (ys : List UInt8) {yc : List (Array Value)}
    (ho : o.op = .call { callee := .builtin .append, args := #[x, y], argTypes := #[t, t] }) (hd : o.dst = some d) (hdn : Nat.blt d n = true) (ht : SlB P t e 1 1 (.int .u8 0)) (hx : ev V x = some (.slice (some ⟨g, 0, none⟩) xs.length cap)) (hL : L[i]? = some (mrow g cap e xs))
    (hy : ev V y = some (.slice B m cy)) (hm : ys.length = m) (hLy : L[j]? = some (.row B capy ey 1 yc)) (hyc : ys.map u8c = yc) (hby : xs.length + ys.length ≤ 140737488355328)
    (hT : ∀ g' cap', T ((d, .slice (some ⟨g', 0, none⟩) (xs ++ ys).length cap') :: V) (L.set i (mrow g' cap' e (xs ++ ys)))) : OpS P w0 O n D o V L T := by
  intro a w ha hw
  subst hm
  subst hyc
  have hB : Rd w B 1 (ys.map u8c) := Ent.rd (hw.ents _ (List.mem_of_getElem? hLy))
  obtain ⟨g', cap', w', hrun, hat, e1, e2, e3, e4, e5, e6⟩ := run_append_M (P := P) (ty := o.type) (c := cy) ht (hw.ents _ (List.mem_of_getElem? hL)) hB hby
  have hr : (execOp a.eval o).run P w = .ok (.value (.slice (some ⟨g', 0, none⟩) (xs ++ ys).length cap')) w' := by
    simp only [execOp, ho, resolve, invoke, builtin, Sem.run_bind, Sem.run_pure, Result.andThen_ok, List.map_toArray, List.map_cons, List.map_nil, ha.eval hx, ha.eval hy, hrun]
  unfold Does
  rw [hr, hd]
  refine ⟨_, _, hT g' cap', ha.put hdn _, hw.setI hL e1 e2 e3 e4 hat (by simp [mrow, Ent.blocks]) ?_ ?_⟩
  · intro b hb
    obtain rfl : b = g' := by simpa [mrow, Ent.blocks] using hb
    rcases e6 with h | h
    · left; simp [mrow, Ent.blocks, h]
    · exact .inr h
  · intro k hk hkb
    exact e5 k hk (fun h => hkb (by simp [mrow, Ent.blocks, h]))

/-- The bytes of a string. -/
theorem op_strBytes {s' d' e : TypeId} {x : Operand} {s : ByteArray} {d : Nat} {u : TypeDesc} (ho : o.op = .convert s' d' x) (hd : o.dst = some d) (hdn : Nat.blt d n = true) (hs : P.underlying s' = some u) (ht : P.underlying d' = some (.slice e)) (he : P.underlying e = some (.int .u8)) (hx : ev V x = some (.string s)) (hm : s.size ≤ 9223372036854775807)
    (hT : ∀ g cap, T ((d, .slice (some ⟨g, 0, none⟩) (s.data.toList).length cap) :: V) (mrow g cap e s.data.toList :: L)) : OpS P w0 O n D o V L T := by
  intro a w ha hw
  have hrun := Lib.run_convert_string_bytes (P := P) w s' d' e s hs ht he
  have hr : (execOp a.eval o).run P w = .ok (.value (.slice (some ⟨w.heap.size, 0, none⟩) (s.data.toList).length (grownCap w s.size 0 e))) (Lib.bytesWorld w e s) := by
    have hl : (s.data.toList).length = s.size := by rw [Array.length_toList]; rfl
    simp only [execOp, ho, ha.eval hx, Sem.run_bind, hrun, Result.andThen_ok, Sem.run_pure, hl]
  have hsl : (s.data.toList).length = s.size := by rw [Array.length_toList]; rfl
  have hge := grownCap_ge w s.size 0 e
  have hat : MrowAt w.heap.size (grownCap w s.size 0 e) e s.data.toList (Lib.bytesWorld w e s) := by
    refine ⟨_, _, Lib.bytesWorld_at_new w e s, .inr (Nat.le_refl _), by omega, grownCap_le_maxLen w _ 0 e (by simpa [maxLen] using hm), ?_, ?_⟩
    · unfold Lib.bytesCells
      rw [Array.size_append, Array.size_map, Array.size_replicate]
      show s.size + _ = _
      omega
    · unfold Lib.bytesCells
      rw [Array.toList_append, Array.toList_map]
      have : (s.data.toList.map fun b => Value.int .u8 ((b.toNat : Nat) : Int)).length = s.data.toList.length := List.length_map _
      rw [← this]
      exact List.take_left
  unfold Does
  rw [hr, hd]
  refine ⟨_, _, hT w.heap.size _, ha.put hdn _, ?_⟩
  have hall := hw.alloc (.cells #[] e)
  have := hall.set (A := []) (R := L) (w' := Lib.bytesWorld w e s) (p := .blk w.heap.size (.cells #[] e)) (p' := mrow w.heap.size (grownCap w s.size 0 e) e s.data.toList) rfl rfl rfl rfl (by rw [Lib.bytesWorld_size]; simp) hat (by simp [mrow, Ent.blocks]) (fun b hb => .inl (by simpa [mrow, Ent.blocks] using hb)) (fun k hk hkb => ?_)
  · simpa using this
  · have hkl : k < w.heap.size := by
      have hne : k ≠ w.heap.size := fun e => hkb (by simp [Ent.blocks, e])
      have : k < w.heap.size + 1 := by simpa using hk
      omega
    rw [Lib.bytesWorld_at_old w e s k hkl, heap_alloc_old w _ hkl]
end
end Go.Proofs.YtnadipjlhlbfoaaGreatDoor
namespace Go.Proofs.YtnadipjlhlbfoaaGreatDoor
set_option linter.all false
open Go Go.RowKit
section
variable {P : Program} {w0 : World} {O : List Nat} {n : Nat} {D : List Deferred} {o : Oper} {V : List (Nat × Value)} {L : List Ent} {T : List (Nat × Value) → List Ent → Prop}

/-- An array's element, of one cell. -/
theorem yw_aggIdx {t e : TypeId} {x y : Operand} {cs : Array Value} {len k : Nat} {q : Int} {v : Value} (ho : o.op = .index t x y) (ht : P.underlying t = some (.array len e)) (h1 : One P e) (hs : SzT P e 1) (hx : ev V x = some (.agg cs)) (hy : ev V y = some (.int .i64 q)) (hq : q = (k : Int)) (hk : k < len) (hv : cs[k]? = some v) :
    YldW P n D o V v := by
  intro a w ha
  obtain ⟨i, h2, h3⟩ := hs
  obtain ⟨d, hd, hb⟩ := h1
  subst hq
  have hag : (isAgg e).run P w = .ok false w := by
    simp only [isAgg, Sem.run_bind, run_underlying hd, Result.andThen_ok]
    cases d <;> simp [oneB] at hb ⊢
  have h4 : (k : Int) < (len : Int) := by omega
  simp [execOp, ho, ha.eval hx, ha.eval hy, Instr.index, asIntOf, run_underlying ht, sizeOf, typeInfo, h2, h3, hk, part, hag, hv]
theorem yw_strIdx {t : TypeId} {x y : Operand} {s : ByteArray} {k : Nat} {q : Int} {ky : IntKind} {b : UInt8} (ho : o.op = .index t x y) (ht : P.underlying t = some .string) (hx : ev V x = some (.string s)) (hy : ev V y = some (.int ky q)) (hq : q = (k : Int)) (hb : s.data[k]? = some b) :
    YldW P n D o V (.int .u8 ((b.toNat : Nat) : Int)) := by
  intro a w ha
  subst hq
  have hk : k < s.size := (Array.getElem?_eq_some_iff.1 hb).1
  have h4 : (k : Int) < (s.size : Int) := by omega
  have hg : s[k] = b := (Array.getElem?_eq_some_iff.1 hb).2
  simp [execOp, ho, ha.eval hx, ha.eval hy, run_index_string w t s ky (k : Int) ht, hk, hg]
/-- Slices of an array behind a pointer. -/
theorem yw_arrFrom {t e : TypeId} {x y : Operand} {b len sz k : Nat} {q : Int} (ho : o.op = .slice t x (some y) none none) (ht : P.underlying t = some (.array len e)) (hs : SzT P e sz) (hx : ev V x = some (.pointer (some ⟨b, 0, none⟩))) (hy : ev V y = some (.int .i64 q)) (hq : q = (k : Int)) (hk : k < len) :
    YldW P n D o V (.slice (some ⟨b, k * sz, none⟩) (len - k) (len - k)) := by
  intro a w ha
  obtain ⟨i, h4, h5⟩ := hs
  subst h5; subst hq
  have g1 : (k : Int) ≤ (len : Int) := by omega
  have g2 : k ≤ len := by omega
  have g3 : ¬ len = k := by omega
  simp [execOp, ho, ha.eval hx, ha.eval hy, Instr.sliceAt, Instr.slice, Instr.sureAddr, run_underlying ht, Instr.sliceBounds, Instr.sliceBound, asIntOf, sizeOf, typeInfo, h4, g1, g2, g3, add_none]
theorem yw_arrTo {t e : TypeId} {x y : Operand} {b len sz k : Nat} {q : Int} (ho : o.op = .slice t x none (some y) none) (ht : P.underlying t = some (.array len e)) (hs : SzT P e sz) (hx : ev V x = some (.pointer (some ⟨b, 0, none⟩))) (hy : ev V y = some (.int .i64 q)) (hq : q = (k : Int)) (hk : k ≤ len) :
    YldW P n D o V (.slice (some ⟨b, 0, none⟩) k len) := by
  intro a w ha
  obtain ⟨i, h4, h5⟩ := hs
  subst h5; subst hq
  have g1 : (k : Int) ≤ (len : Int) := by omega
  simp [execOp, ho, ha.eval hx, ha.eval hy, Instr.sliceAt, Instr.slice, Instr.sureAddr, run_underlying ht, Instr.sliceBounds, Instr.sliceBound, asIntOf, sizeOf, typeInfo, h4, g1, hk, add_none]
theorem yw_arrAll {t e : TypeId} {x : Operand} {b len sz : Nat} (ho : o.op = .slice t x none none none) (ht : P.underlying t = some (.array len e)) (hs : SzT P e sz) (hx : ev V x = some (.pointer (some ⟨b, 0, none⟩))) :
    YldW P n D o V (.slice (some ⟨b, 0, none⟩) len len) := by
  intro a w ha
  obtain ⟨i, h4, h5⟩ := hs
  subst h5
  simp [execOp, ho, ha.eval hx, Instr.sliceAt, Instr.slice, Instr.sureAddr, run_underlying ht, Instr.sliceBounds, Instr.sliceBound, asIntOf, sizeOf, typeInfo, h4, add_none]
/-- x[lo:hi:max] -/
theorem yw_slice3 {t e : TypeId} {x l h m : Operand} {A : Addr} {len cap sz i j k : Nat} {qi qj qk : Int} (ho : o.op = .slice t x (some l) (some h) (some m)) (ht : SlT P t e sz) (hx : ev V x = some (.slice (some A) len cap)) (hl : ev V l = some (.int .i64 qi)) (hh : ev V h = some (.int .i64 qj)) (hm : ev V m = some (.int .i64 qk))
    (e1 : qi = (i : Int)) (e2 : qj = (j : Int)) (e3 : qk = (k : Int)) (h1 : i ≤ j) (h2 : j ≤ k) (h3 : k ≤ cap) (h4 : i < k) :
    YldW P n D o V (.slice (some (A.add (i * sz))) (j - i) (k - i)) := by
  intro a w ha
  obtain ⟨f, g1, g2, g3⟩ := ht
  subst e1; subst e2; subst e3; subst g3
  have a1 : (i : Int) ≤ (j : Int) := by omega
  have a2 : (j : Int) ≤ (k : Int) := by omega
  have a3 : (k : Int) ≤ (cap : Int) := by omega
  have a4 : ¬ k = i := by omega
  simp [execOp, ho, ha.eval hx, ha.eval hl, ha.eval hh, ha.eval hm, Instr.sliceAt, Instr.slice, run_underlying g1, Instr.sliceBounds, Instr.sliceBound, asIntOf, h1, h2, h3, sizeOf, typeInfo, g2, a4]
theorem yw_slice3n {t e : TypeId} {x l h m : Operand} {b q0 len cap sz i j k mm cc : Nat} {qi qj qk : Int} (ho : o.op = .slice t x (some l) (some h) (some m)) (ht : SlT P t e sz) (hx : ev V x = some (.slice (some ⟨b, q0, none⟩) len cap)) (hl : ev V l = some (.int .i64 qi)) (hh : ev V h = some (.int .i64 qj)) (hm : ev V m = some (.int .i64 qk))
    (e1 : qi = (i : Int)) (e2 : qj = (j : Int)) (e3 : qk = (k : Int)) (h1 : i ≤ j) (h2 : j ≤ k) (h3 : k ≤ cap) (h4 : i < k) (hmm : j - i = mm) (hcc : k - i = cc) :
    YldW P n D o V (.slice (some ⟨b, q0 + i * sz, none⟩) mm cc) := by
  have := yw_slice3 (P := P) (n := n) (D := D) ho ht hx hl hh hm e1 e2 e3 h1 h2 h3 h4
  rw [add_none, hmm, hcc] at this
  exact this
theorem yw_lenAny {x : Operand} {t e : TypeId} {A : Option Addr} {m c : Nat} (ho : o.op = .call { callee := .builtin .len, args := #[x], argTypes := #[t] }) (ht : P.underlying t = some (.slice e)) (hx : ev V x = some (.slice A m c)) : YldW P n D o V (.int .i64 ((m : Nat) : Int)) := yw_lenS ho ht hx

/-- Bytes of a slice as a string. -/
theorem y_bytesRd {s d e : TypeId} {x : Operand} {b j len c : Nat} (l : List UInt8) (ho : o.op = .convert s d x) (hx : ev V x = some (.slice (some ⟨b, j, none⟩) len c)) (hs : P.underlying s = some (.slice e)) (he : P.underlying e = some (.int .u8)) (hd : P.underlying d = some .string)
    (hr : ∀ w, SL w0 O w L → Rd w (some ⟨b, j, none⟩) 1 (l.map u8c)) (hlen : l.length = len) : Yld P w0 O n D o V L (.string ⟨l.toArray⟩) := by
  intro a w ha hw
  subst hlen
  have := run_convert_bytes_back (P := P) w s d e ⟨b, j, none⟩ c l hs he hd (fun k hk => by
    obtain ⟨_, _, _, _, hc⟩ := (hr w hw).at_ k (u8c l[k]) (by rw [List.getElem?_map, List.getElem?_eq_getElem hk]; rfl)
    have := hc 0 (by decide)
    rw [add_none]
    simpa [ab, ao] using this)
  simp only [execOp, ho, ha.eval hx, Sem.run_bind, this, Result.andThen_ok, Sem.run_pure]

/-- copy within a block. -/
theorem op_copyBlk {x y : Operand} {t e : TypeId} {d g i j k m c1 c2 m2 : Nat} {cs : Array Value} {tt : TypeId} (cs' : Array Value) (ho : o.op = .call { callee := .builtin .copy, args := #[x, y], argTypes := #[t, t] }) (hd : o.dst = some d) (hdn : Nat.blt d n = true) (ht : SlT P t e 1) (hx : ev V x = some (.slice (some ⟨g, j, none⟩) m c1)) (hy : ev V y = some (.slice (some ⟨g, k, none⟩) m2 c2))
    (hL : L[i]? = some (.blk g (.cells cs tt (0, 0)))) (hm : m2 = m) (h1 : j + m ≤ cs.size) (h2 : k + m ≤ cs.size) (hone : ∀ v ∈ cs.toList, v.oneCell' = true) (hcs : cs.toList.take j ++ (cs.toList.drop k).take m ++ cs.toList.drop (j + m) = cs'.toList)
    (hT : T ((d, .int .i64 ((m : Nat) : Int)) :: V) (L.set i (.blk g (.cells cs' tt (0, 0))))) : OpS P w0 O n D o V L T := by
  intro a w ha hw
  subst hm
  have hg := hw.ents _ (List.mem_of_getElem? hL)
  obtain ⟨f, g1, g2, g3⟩ := ht
  have hl2 : ((cs.toList.drop k).take m2).length = m2 := by simp; omega
  have hr := run_copy_row (P := P) w t t o.type e g j m2 c1 ⟨g, k, none⟩ m2 c2 cs tt ((cs.toList.drop k).take m2) g1 (by rw [g2]; simp [g3]) hg (by rw [hl2]; simp) (fun q v hq => by
    have hql : q < m2 := by
      have := (List.getElem?_eq_some_iff.1 hq).1
      omega
    rw [add_none, cell_of_row w g _ cs tt _ hg]
    rw [List.getElem?_take_of_lt hql, List.getElem?_drop, Array.getElem?_toList] at hq
    exact hq) (by rw [hl2]; exact h1) (fun v hv => hone v (List.mem_of_mem_drop (List.mem_of_mem_take hv)))
  rw [hl2, hcs] at hr
  have hr' : (execOp a.eval o).run P w = .ok (.value (.int .i64 ((m2 : Nat) : Int))) (w.setRow g cs') := by
    simp only [execOp, ho, resolve, invoke, builtin, Sem.run_bind, Sem.run_pure, Result.andThen_ok, List.map_toArray, List.map_cons, List.map_nil, ha.eval hx, ha.eval hy, hr]
    rfl
  unfold Does
  rw [hr', hd]
  exact ⟨_, _, hT, ha.put hdn _, hw.setB hL (.cells cs' tt (0, 0)) (w' := w.setRow g cs') rfl rfl rfl (by simp) (setRow_heap w g cs cs' tt _ hg) (fun k hk => setRow_other w g k _ hk)⟩
/-- An array that lay ahead of the call, whole. -/
theorem y_loadGA {t : TypeId} {x : Operand} {b sz : Nat} {cs : Array Value} (ho : o.op = .load t x) (hx : ev V x = some (.pointer (some ⟨b, 0, none⟩))) (h1 : AggT P t sz) (hc : cs.size = sz ∧ 0 < sz ∧ ∀ i v, cs[i]? = some v → w0.cell? ⟨b, i, none⟩ = some v) (hO : b ∉ O) : Yld P w0 O n D o V L (.agg cs) := by
  intro a w ha hw
  have hb : b < w0.heap.size := by
    have := hc.2.2 0 cs[0] (by rw [Array.getElem?_eq_getElem])
    exact World.block_lt_of_cell? w0 _ this
  have := run_load_agg (P := P) (w := w) (b := b) (j := 0) (cs := cs.toList) h1 (by simpa using hc.1) (fun i v hv => by
    rw [hw.cell0 (p := ⟨b, 0 + i, none⟩) hb hO, Nat.zero_add]
    exact hc.2.2 i v (by simpa using hv))
  simp [execOp, ho, ha.eval hx, Instr.loadAt, Instr.sureAddr, this]
/-- The bytes of a block. -/
theorem SL.blkRd {w : World} (hw : SL w0 O w L) {i g : Nat} {cs : Array Value} {tt : TypeId} {fr : Nat × Nat} {l : List UInt8} (hL : L[i]? = some (.blk g (.cells cs tt fr))) (hcs : cs.toList = l.map u8v) : Rd w (some ⟨g, 0, none⟩) 1 (l.map u8c) := by
  have hg := hw.ents _ (List.mem_of_getElem? hL)
  have hg' : w.heap[g]? = some (.cells cs tt fr) := hg
  refine ⟨fun k c hk => ?_⟩
  rw [List.getElem?_map] at hk
  cases hx : l[k]? with
  | none => rw [hx] at hk; simp at hk
  | some x =>
    rw [hx] at hk
    simp only [Option.map_some, Option.some.injEq] at hk
    subst hk
    refine ⟨rfl, ⟨g, 0, rfl⟩, (Array.getElem?_eq_some_iff.1 hg').1, by intro u hu; simp at hu; subst hu; rfl, fun j hj => ?_⟩
    obtain rfl : j = 0 := by omega
    show w.cell? ⟨g, 0 + k * 1 + 0, none⟩ = _
    rw [cell_of_row w _ _ cs tt fr hg, ← Array.getElem?_toList, hcs]
    simp [hx]
end
end Go.Proofs.YtnadipjlhlbfoaaGreatDoor
namespace Go.Proofs.YtnadipjlhlbfoaaGreatDoor
set_option linter.all false

abbrev B := ByteArray
/-- The greatest power of two that is less than n. -/
def lft (n : Nat) : Nat := 2 ^ Nat.log2 (n - 1)
theorem lft_pos (n : Nat) : 1 ≤ lft n := Nat.one_le_two_pow
theorem lft_lt {n : Nat} (h : 2 ≤ n) : lft n < n := by
  have := Nat.log2_self_le (n := n - 1) (by omega)
  unfold lft; omega
theorem lft_ge {n : Nat} (h : 2 ≤ n) : n ≤ 2 * lft n := by
  have h1 : n - 1 < 2 ^ (Nat.log2 (n - 1) + 1) := Nat.lt_log2_self
  rw [Nat.pow_succ] at h1
  unfold lft; omega
/-- It is the only such power. -/
theorem lft_eq {n k : Nat} (h1 : 2 ^ k < n) (h2 : n ≤ 2 * 2 ^ k) : lft n = 2 ^ k := by
  unfold lft
  have h0 : 0 < 2 ^ k := Nat.two_pow_pos k
  rw [(Nat.log2_eq_iff (k := k) (by omega)).2 ⟨by omega, by rw [Nat.pow_succ]; omega⟩]
theorem lft_double (k : Nat) : lft (2 ^ k + 2 ^ k) = 2 ^ k := lft_eq (by have := Nat.two_pow_pos k; omega) (by omega)

section
variable (h : B → B)
def mark (n : UInt8) (s : B) : B := ByteArray.mk #[n] ++ s
def leafH (s : B) : B := h (mark 0 s)
def nodeH (a b : B) : B := h (mark 1 (a ++ b))
def chainH (a b : B) : B := h (mark 2 (a ++ b))

/-- The root, with fuel. -/
def rootF : Nat → List B → B
  | 0, _ => h .empty
  | k + 1, l => match l with
    | [] => h .empty
    | [s] => leafH h s
    | a :: b :: r => nodeH h (rootF k ((a :: b :: r).take (lft (r.length + 2)))) (rootF k ((a :: b :: r).drop (lft (r.length + 2))))
def root (l : List B) : B := rootF h l.length l
theorem rootF_succ (k : Nat) {l : List B} (hl : 2 ≤ l.length) : rootF h (k + 1) l = nodeH h (rootF h k (l.take (lft l.length))) (rootF h k (l.drop (lft l.length))) := by
  match l, hl with
  | a :: b :: r, _ => rfl
theorem rootF_fuel : ∀ (k j : Nat) (l : List B), l.length ≤ k → l.length ≤ j → rootF h k l = rootF h j l
  | 0, 0, _, _, _ => rfl
  | 0, j + 1, l, h1, _ => by
    have : l = [] := List.length_eq_zero_iff.1 (by omega)
    subst this; rfl
  | k + 1, 0, l, _, h2 => by
    have : l = [] := List.length_eq_zero_iff.1 (by omega)
    subst this; rfl
  | k + 1, j + 1, l, h1, h2 => by
    by_cases hl : 2 ≤ l.length
    · have hp := lft_pos l.length
      have hq := lft_lt hl
      rw [rootF_succ h k hl, rootF_succ h j hl, rootF_fuel k j (l.take _) (by simp; omega) (by simp; omega), rootF_fuel k j (l.drop _) (by simp; omega) (by simp; omega)]
    · match l, hl with
      | [], _ => rfl
      | [s], _ => rfl
      | a :: b :: r, hl => simp at hl
theorem root_of {k : Nat} {l : List B} (hl : l.length ≤ k) : rootF h k l = root h l := rootF_fuel h _ _ _ hl (Nat.le_refl _)
theorem root_nil : root h [] = h .empty := rfl
theorem root_one (s : B) : root h [s] = leafH h s := rfl
theorem root_two {l : List B} (hl : 2 ≤ l.length) : root h l = nodeH h (root h (l.take (lft l.length))) (root h (l.drop (lft l.length))) := by
  have hp := lft_pos l.length
  have hq := lft_lt hl
  obtain ⟨k, hk⟩ : ∃ k, l.length = k + 1 := ⟨l.length - 1, by omega⟩
  have e : root h l = rootF h (k + 1) l := by unfold root; rw [hk]
  rw [e, rootF_succ h k hl, root_of h (by simp; omega), root_of h (by simp; omega)]
theorem root_append {a b : List B} (ha : 1 ≤ a.length) (hb : 1 ≤ b.length) (hl : lft (a.length + b.length) = a.length) : root h (a ++ b) = nodeH h (root h a) (root h b) := by
  rw [root_two h (by simp; omega), List.length_append, hl]
  simp

/-! ### The stack of complete parts -/
def Pow2 (n : Nat) : Prop := ∃ k, n = 2 ^ k
theorem Pow2.pos {n : Nat} (h : Pow2 n) : 1 ≤ n := by obtain ⟨k, rfl⟩ := h; exact Nat.two_pow_pos k
theorem Pow2.one : Pow2 1 := ⟨0, rfl⟩
theorem Pow2.double {n : Nat} (h : Pow2 n) : Pow2 (n + n) := by obtain ⟨k, rfl⟩ := h; exact ⟨k + 1, by rw [Nat.pow_succ]; omega⟩
theorem Pow2.half_le {n m : Nat} (hn : Pow2 n) (hm : Pow2 m) (h : m < n) : 2 * m ≤ n := by
  obtain ⟨a, rfl⟩ := hn; obtain ⟨b, rfl⟩ := hm
  have hab : b < a := (Nat.pow_lt_pow_iff_right (by decide)).1 h
  have : 2 ^ (b + 1) ≤ 2 ^ a := Nat.pow_le_pow_right (by decide) hab
  rw [Nat.pow_succ] at this; omega
/-- Parts whose lengths are powers of two and descend. -/
def Parts (C : List (List B)) : Prop := (∀ c ∈ C, Pow2 c.length) ∧ C.Pairwise fun a b => b.length < a.length
/-- The parts behind one are shorter than it, together. -/
theorem Parts.rest : ∀ {C : List (List B)} {c : List B}, Parts (c :: C) → C.flatten.length < c.length
  | [], c, hp => by have := (hp.1 c List.mem_cons_self).pos; simp; omega
  | d :: C, c, hp => by
    have h1 : Parts (d :: C) := ⟨fun x hx => hp.1 x (List.mem_cons_of_mem _ hx), (List.pairwise_cons.1 hp.2).2⟩
    have h2 := Parts.rest h1
    have h3 := (List.pairwise_cons.1 hp.2).1 d List.mem_cons_self
    have h4 := (hp.1 c List.mem_cons_self).half_le (hp.1 d (List.mem_cons_of_mem _ List.mem_cons_self)) h3
    simp only [List.flatten_cons, List.length_append]
    omega
theorem Parts.top {c : List B} {C : List (List B)} (hp : Parts (c :: C)) (hC : C ≠ []) : root h (c :: C).flatten = nodeH h (root h c) (root h C.flatten) := by
  obtain ⟨d, D, rfl⟩ := List.exists_cons_of_ne_nil hC
  have h1 := Parts.rest hp
  have h2 := (hp.1 c List.mem_cons_self).pos
  have h3 := (hp.1 d (List.mem_cons_of_mem _ List.mem_cons_self)).pos
  rw [List.flatten_cons]
  refine root_append h h2 (by simp; omega) ?_
  obtain ⟨k, hk⟩ := hp.1 c List.mem_cons_self
  have h4 : 1 ≤ (d :: D).flatten.length := by simp; omega
  rw [hk]
  exact lft_eq (by omega) (by omega)
/-- The end: from the last part backwards. -/
theorem Parts.fold : ∀ {C : List (List B)}, Parts C → C ≠ [] → (C.dropLast.map (root h)).foldr (fun r out => nodeH h r out) (root h (C.getLast?.getD [])) = root h C.flatten
  | [], _, hn => absurd rfl hn
  | [c], _, _ => by simp
  | c :: d :: C, hp, _ => by
    have h1 : Parts (d :: C) := ⟨fun x hx => hp.1 x (List.mem_cons_of_mem _ hx), (List.pairwise_cons.1 hp.2).2⟩
    have h2 := Parts.fold h1 (by simp)
    rw [Parts.top h hp (by simp)]
    rw [← h2]
    simp [List.getLast?_cons_cons]
end
end Go.Proofs.YtnadipjlhlbfoaaGreatDoor
