/- Slices of the call's own, maps, strings: rules over symbolic frames and heaps. More rules: stores of whole blocks and of one cell, struct literals, cuts. Still more rules: maps with integers as keys, slicing, clearing, structs compared, arrays, shifts. Calls that are handed memory of the caller's; knowing entries anew; ranges over functions. Structs compared, field by field. Maps with keys of any comparable kind, as lists of keys and elements in the order in which the keys came. The rules of maps with keys of any kind; keys that are integers, or structs of two fields. Joined nodes: parents as a list of keys and elements, and what they represent. No program in it. Bytes as a string. Words of n bits: the operations on unsigned integers, over bit vectors. -/
import Derived.Test.YtpcfgoadkfajfaaK1
import Derived.Great.BuildSlice
import Derived.MapKept
import Derived.Laws.StructEq
import Derived.Laws.Slices
import Derived.Laws.Shifts
import Derived.RangeFuncIn
import Derived.Laws.Small
import Derived.Laws.BytesString
namespace Go.Proofs.Ytpcfgoadkfajfaa
set_option linter.all false
open Go Go.RowKit

section
variable {P : Program} {w0 : World} {O : List Nat} {n : Nat} {D : List Deferred} {o : Oper} {V : List (Nat × Value)} {L : List Ent} {T : List (Nat × Value) → List Ent → Prop}

theorem flat_nil : flat [] = [] := rfl
theorem flat_cons (c : Array Value) (xs : List (Array Value)) : flat (c :: xs) = c.toList ++ flat xs := by simp [flat]
theorem flat_append (xs ys : List (Array Value)) : flat (xs ++ ys) = flat xs ++ flat ys := by simp [flat]
theorem flat_length {sz : Nat} : ∀ {xs : List (Array Value)}, (∀ c ∈ xs, c.size = sz) → (flat xs).length = xs.length * sz
  | [], _ => by simp [flat]
  | c :: xs, h => by
    rw [flat_cons, List.length_append, flat_length (fun c hc => h c (List.mem_cons_of_mem _ hc)), List.length_cons, Nat.add_mul]
    have := h c List.mem_cons_self
    simp only [Array.length_toList]
    omega
theorem flat_get {sz : Nat} : ∀ {xs : List (Array Value)}, (∀ c ∈ xs, c.size = sz) → ∀ {k : Nat} {c : Array Value} {j : Nat}, xs[k]? = some c → j < sz → (flat xs)[k * sz + j]? = c[j]?
  | [], _, k, c, j, h, _ => by simp at h
  | d :: xs, hs, 0, c, j, h, hj => by
    have : d = c := by simpa using h
    subst this
    have := hs d List.mem_cons_self
    rw [flat_cons, Nat.zero_mul, Nat.zero_add, List.getElem?_append_left (by simp; omega)]
    simp
  | d :: xs, hs, k + 1, c, j, h, hj => by
    have hd := hs d List.mem_cons_self
    rw [flat_cons, List.getElem?_append_right (by simp [hd, Nat.add_mul]; omega)]
    rw [show (k + 1) * sz + j - d.toList.length = k * sz + j from by simp [hd, Nat.add_mul]; omega]
    exact flat_get (fun c hc => hs c (List.mem_cons_of_mem _ hc)) (by simpa using h) hj
theorem mem_flat {xs : List (Array Value)} {u : Value} : u ∈ flat xs ↔ ∃ c ∈ xs, u ∈ c.toList := by simp [flat]

/-- A slice of one's own reads as its elements. -/
theorem Ent.rd {w : World} {A : Option Addr} {cap : Nat} {e : TypeId} {sz : Nat} {xs : List (Array Value)} (h : (Ent.row A cap e sz xs).sat w) : Rd w A sz xs := by
  obtain ⟨⟨h1, h2⟩, h3⟩ := h
  refine ⟨fun k c hk => ?_⟩
  have hmem := List.mem_of_getElem? hk
  have hlen : 0 < xs.length := by
    have := (List.getElem?_eq_some_iff.1 hk).1
    omega
  rcases h2 with ⟨hv, hn⟩ | ⟨g, cp, cur, hv, _, hg, hnc, _, hcs, htake⟩
  · omega
  · injection hv with hA hn hc
    subst hA
    refine ⟨(h3 c hmem).1, ⟨g, 0, rfl⟩, (Array.getElem?_eq_some_iff.1 hg).1, (h3 c hmem).2, fun j hj => ?_⟩
    have hf := flat_get (fun c hc => (h3 c hc).1) hk hj
    show w.cell? ⟨g, 0 + k * sz + j, none⟩ = c[j]?
    rw [Nat.zero_add, cell_of_row w g _ cur e (0, 0) hg, ← hf, ← htake]
    have hk' := (List.getElem?_eq_some_iff.1 hk).1
    have hlt : k * sz + j < xs.length * sz := by
      have : (k + 1) * sz ≤ xs.length * sz := Nat.mul_le_mul_right _ hk'
      rw [Nat.add_mul] at this
      omega
    rw [List.getElem?_take_of_lt hlt]
    simp

/-- An element of a slice of one's own, whole; one cell of it. -/
theorem y_rowElem {t : TypeId} {x : Operand} {A : Option Addr} {cap : Nat} {e : TypeId} {sz k i : Nat} {xs : List (Array Value)} {c : Array Value} (ho : o.op = .load t x) (hx : ev V x = some (.pointer (some ⟨ab A, ao A + k * sz, none⟩))) (h1 : AggT P t sz)
    (hL : L[i]? = some (.row A cap e sz xs)) (hk : xs[k]? = some c) : Yld P w0 O n D o V L (.agg c) := by
  intro a w ha hw
  obtain ⟨hs, _, _, _, hc⟩ := (Ent.rd (hw.ents _ (List.mem_of_getElem? hL))).at_ k c hk
  have := run_load_agg (P := P) (w := w) (b := ab A) (j := ao A + k * sz) (cs := c.toList) h1 (by simpa using hs) (fun i v hv => by
    have hi : i < c.size := by
      have := (List.getElem?_eq_some_iff.1 hv).1
      simpa using this
    rw [hc i (by omega)]; simpa using hv)
  simp [execOp, ho, ha.eval hx, Instr.loadAt, Instr.sureAddr, this]
theorem y_rowElemF {t : TypeId} {x : Operand} {A : Option Addr} {cap : Nat} {e : TypeId} {sz k j i : Nat} {xs : List (Array Value)} {c : Array Value} {v : Value} (ho : o.op = .load t x) (hx : ev V x = some (.pointer (some ⟨ab A, ao A + k * sz + j, none⟩))) (h1 : One P t)
    (hL : L[i]? = some (.row A cap e sz xs)) (hk : xs[k]? = some c) (hv : c[j]? = some v) : Yld P w0 O n D o V L v := by
  intro a w ha hw
  obtain ⟨hs, _, _, _, hc⟩ := (Ent.rd (hw.ents _ (List.mem_of_getElem? hL))).at_ k c hk
  have hj : j < c.size := (Array.getElem?_eq_some_iff.1 hv).1
  have hcell : w.cell? ⟨ab A, ao A + k * sz + j, none⟩ = some v := by rw [hc j (by omega)]; exact hv
  simp [execOp, ho, ha.eval hx, Instr.loadAt, Instr.sureAddr, run_load_one h1 hcell]
theorem y_rowElem1 {t : TypeId} {x : Operand} {A : Option Addr} {cap : Nat} {e : TypeId} {k i : Nat} {xs : List (Array Value)} {v : Value} (ho : o.op = .load t x) (hx : ev V x = some (.pointer (some ⟨ab A, ao A + k * 1, none⟩))) (h1 : One P t)
    (hL : L[i]? = some (.row A cap e 1 xs)) (hk : xs[k]? = some #[v]) : Yld P w0 O n D o V L v :=
  y_rowElemF (j := 0) ho hx h1 hL hk rfl
theorem y_elem1 {t : TypeId} {x : Operand} {A : Option Addr} {k : Nat} {xs : List (Array Value)} {v : Value} (ho : o.op = .load t x) (hx : ev V x = some (.pointer (some ⟨ab A, ao A + k * 1, none⟩))) (h1 : One P t)
    (hr : Rd w0 A 1 xs) (hO : ab A ∉ O) (hk : xs[k]? = some #[v]) : Yld P w0 O n D o V L v :=
  y_elemF (j := 0) ho hx h1 hr hO hk rfl

/-! ### Slice literals -/
/-- A slice type, its element type, cells, bytes and zero value. -/
structure SlB (P : Program) (t e : TypeId) (sz bytes : Nat) (z : Value) : Prop where
  under : P.underlying t = some (.slice e)
  info : ∃ i, P.info? e = some i ∧ i.zero = some z ∧ i.size = sz ∧ i.bytes = bytes
  zs : z.cells.size = sz
  pos : 0 < sz
theorem SlB.slt {t e : TypeId} {sz bytes : Nat} {z : Value} (h : SlB P t e sz bytes z) : SlT P t e sz := by
  obtain ⟨i, h1, h2, h3, h4⟩ := h.info
  exact ⟨i, h.under, h1, h3⟩

theorem foldl_setAt : ∀ (c : List Value) (off k : Nat) (arr : Array Value), off + k + c.length ≤ arr.size →
    ((c.zipIdx k).foldl (fun cs (p : Value × Nat) => cs.setIfInBounds (off + p.2) p.1) arr).toList = arr.toList.take (off + k) ++ c ++ arr.toList.drop (off + k + c.length)
  | [], off, k, arr, h => by simp
  | x :: c, off, k, arr, h => by
    rw [List.zipIdx_cons, List.foldl_cons, foldl_setAt c off (k + 1) _ (by simp at h ⊢; omega)]
    simp only [List.length_cons] at h
    have hlt : off + k < arr.toList.length := by simp; omega
    simp only [Array.toList_setIfInBounds]
    have e1 : (arr.toList.set (off + k) x).take (off + (k + 1)) = arr.toList.take (off + k) ++ [x] := by
      rw [show off + (k + 1) = off + k + 1 from by omega, List.take_succ_eq_append_getElem (by simpa using hlt)]
      rw [List.take_set_of_le (by omega)]
      simp
    have e2 : (arr.toList.set (off + k) x).drop (off + (k + 1) + c.length) = arr.toList.drop (off + k + (c.length + 1)) := by
      rw [List.drop_set_of_lt (by omega)]
      congr 1; omega
    rw [e1, e2]
    simp

theorem fill_full {sz : Nat} : ∀ (vs : List Value) (k : Nat) (arr : Array Value), (∀ v ∈ vs, v.cells.size = sz) → (k + vs.length) * sz ≤ arr.size →
    ∃ out, Instr.fill (fun i => some (i * sz, sz)) arr ((vs.zipIdx k).map fun p => (p.2, p.1)) = some out ∧ out.toList = arr.toList.take (k * sz) ++ flat (vs.map Value.cells) ++ arr.toList.drop ((k + vs.length) * sz)
  | [], k, arr, _, _ => ⟨arr, rfl, by simp [flat]⟩
  | v :: vs, k, arr, hv, hs => by
    have h1 := hv v List.mem_cons_self
    have hle : (k + 1) * sz ≤ arr.size := Nat.le_trans (Nat.mul_le_mul_right _ (by simp)) hs
    rw [Nat.add_mul, Nat.one_mul] at hle
    have hfold : (v.cells.zipIdx.foldl (fun cs (p : Value × Nat) => cs.setIfInBounds (k * sz + p.2) p.1) arr).toList = arr.toList.take (k * sz) ++ v.cells.toList ++ arr.toList.drop (k * sz + sz) := by
      have := foldl_setAt v.cells.toList (k * sz) 0 arr (by simp [h1]; omega)
      rw [← Array.foldl_toList, Array.toList_zipIdx]
      simpa [h1] using this
    have hsz : (v.cells.zipIdx.foldl (fun cs (p : Value × Nat) => cs.setIfInBounds (k * sz + p.2) p.1) arr).size = arr.size := by
      rw [← Array.length_toList, hfold]
      simp [h1]; omega
    obtain ⟨out, ho, hl⟩ := fill_full vs (k + 1) (v.cells.zipIdx.foldl (fun cs (p : Value × Nat) => cs.setIfInBounds (k * sz + p.2) p.1) arr) (fun u hu => hv u (List.mem_cons_of_mem _ hu)) (by rw [hsz]; simpa [Nat.add_assoc, Nat.add_comm 1] using hs)
    refine ⟨out, ?_, ?_⟩
    · rw [List.zipIdx_cons, List.map_cons]
      simp only [Instr.fill]
      rw [if_neg]
      · exact ho
      · simp [h1]; omega
    · rw [hl, hfold]
      have e1 : (arr.toList.take (k * sz) ++ v.cells.toList ++ arr.toList.drop (k * sz + sz)).take ((k + 1) * sz) = arr.toList.take (k * sz) ++ v.cells.toList := by
        rw [List.take_left']
        simp [h1, Nat.add_mul]; omega
      have e2 : (arr.toList.take (k * sz) ++ v.cells.toList ++ arr.toList.drop (k * sz + sz)).drop ((k + 1 + vs.length) * sz) = arr.toList.drop ((k + (vs.length + 1)) * sz) := by
        rw [List.drop_append]
        have hlen : (arr.toList.take (k * sz) ++ v.cells.toList).length = (k + 1) * sz := by simp [h1, Nat.add_mul]; omega
        have hge : (k + 1) * sz ≤ (k + 1 + vs.length) * sz := Nat.mul_le_mul_right _ (by omega)
        rw [List.drop_eq_nil_of_le (by rw [hlen]; exact hge), hlen, List.drop_drop, List.nil_append]
        congr 1
        rw [show k + (vs.length + 1) = k + 1 + vs.length from by omega]
        rw [Nat.add_mul k 1 sz] at hge
        rw [Nat.add_mul k 1 sz]
        omega
      rw [e1, e2, List.map_cons, flat_cons]
      simp

/-- The parts of a literal, in order from 0 on. -/
def evParts (V : List (Nat × Value)) : Nat → List (Nat × Operand) → Option (List Value)
  | _, [] => some []
  | k, (i, x) :: r => bif Nat.beq i k then (match ev V x, evParts V (k + 1) r with | some v, some vs => some (v :: vs) | _, _ => none) else none

theorem evParts_spec {a : Act} (ha : Holds n D a V) : ∀ {k : Nat} {ps : List (Nat × Operand)} {vs : List Value}, evParts V k ps = some vs → ps.map (fun p => (p.1, a.eval p.2)) = (vs.zipIdx k).map fun p => (p.2, p.1)
  | k, [], vs, h => by
    obtain rfl : vs = [] := by simpa [evParts] using h.symm
    rfl
  | k, (i, x) :: r, vs, h => by
    simp only [evParts] at h
    cases hb : Nat.beq i k with
    | false => rw [hb] at h; simp at h
    | true =>
      rw [hb] at h
      simp only [cond_true] at h
      split at h
      · rename_i v vs' h1 h2
        obtain rfl : v :: vs' = vs := by simpa using h
        have : i = k := Nat.eq_of_beq_eq_true hb
        subst this
        rw [List.map_cons, evParts_spec ha h2, ha.eval h1, List.zipIdx_cons, List.map_cons]
      · cases h

theorem ownsRow_new {w : World} {cs : Array Value} {e : TypeId} {sz : Nat} {xs : List (Array Value)} (hcs : cs.toList = flat xs) (hxs : ∀ c ∈ xs, c.size = sz ∧ ∀ u ∈ c.toList, u.oneCell' = true) (hm : xs.length ≤ maxLen) :
    (Ent.row (some ⟨w.heap.size, 0, none⟩) xs.length e sz xs).sat (w.alloc (.cells cs e)) := by
  have hfl := flat_length (fun c hc => (hxs c hc).1)
  refine ⟨⟨hfl, .inr ⟨w.heap.size, xs.length, cs, rfl, Nat.zero_le _, heap_alloc_new w _, Nat.le_refl _, hm, ?_, ?_⟩⟩, hxs⟩
  · rw [← Array.length_toList, hcs, hfl]
  · rw [hcs, ← hfl, List.take_length]

theorem op_buildSlice {t e : TypeId} {len : Nat} {parts : Array (Nat × Operand)} {d sz bytes : Nat} {z : Value} {vs : List Value} (ho : o.op = .buildSlice t len parts) (hd : o.dst = some d) (hdn : Nat.blt d n = true) (ht : SlB P t e sz bytes z)
    (hp : evParts V 0 parts.toList = some vs) (hlen : vs.length = len) (hvs : ∀ v ∈ vs, v.cells.size = sz ∧ ∀ u ∈ v.cells.toList, u.oneCell' = true) (hsmall : len * sz ≤ 16777216)
    (hT : ∀ g, T ((d, .slice (some ⟨g, 0, none⟩) len len) :: V) (.row (some ⟨g, 0, none⟩) len e sz (vs.map Value.cells) :: L)) : OpS P w0 O n D o V L T := by
  intro a w ha hw
  obtain ⟨i, hi, hz, hsz, _⟩ := ht.info
  subst hsz
  have hps := evParts_spec ha hp
  have hpe : (parts.map fun (p : Nat × Operand) => (p.1, a.eval p.2)).toList = (vs.zipIdx 0).map fun p => (p.2, p.1) := by
    rw [Array.toList_map]; exact hps
  obtain ⟨cells, hrun, hcells⟩ : ∃ cells : Array Value, (Instr.buildSlice t len (parts.map fun (p : Nat × Operand) => (p.1, a.eval p.2))).run P w = .ok (.slice (some ⟨w.heap.size, 0, none⟩) len len) (w.alloc (.cells cells e)) ∧ cells.toList = flat (vs.map Value.cells) := by
    by_cases h0 : len * i.size = 0
    · have hl0 : len = 0 := by
        rcases Nat.mul_eq_zero.1 h0 with h | h
        · exact h
        · have := ht.pos; omega
      subst hl0
      have : vs = [] := List.eq_nil_of_length_eq_zero hlen
      subst this
      refine ⟨#[], ?_, rfl⟩
      have hpn : parts = #[] := by
        have : parts.toList = [] := by
          have := congrArg List.length hpe
          simp at this
          simpa using this
        exact Array.ext' (by simpa using this)
      subst hpn
      simp [Instr.buildSlice, run_underlying ht.under, sizeOf, typeInfo, hi, Instr.fill, newRow, Array.range_zero']
    · obtain ⟨out, hf, hout⟩ := fill_full (sz := i.size) vs 0 ((Array.range (len * i.size)).map (z.cells[· % z.cells.size]!)) (fun v hv => (hvs v hv).1) (by simp [hlen])
      refine ⟨out, run_buildSlice w t e len _ out i z ht.under hi hz (by omega) h0 (by rw [hpe]; exact hf), ?_⟩
      rw [hout, hlen]
      simp
  have hxs : ∀ c ∈ vs.map Value.cells, c.size = i.size ∧ ∀ u ∈ c.toList, u.oneCell' = true := by
    intro c hc
    obtain ⟨v, hv, rfl⟩ := List.mem_map.1 hc
    exact hvs v hv
  have hr : (execOp a.eval o).run P w = .ok (.value (.slice (some ⟨w.heap.size, 0, none⟩) len len)) (w.alloc (.cells cells e)) := by
    simp only [execOp, ho]
    simp only [Sem.run_bind, hrun, Result.andThen_ok, Sem.run_pure]
  unfold Does
  rw [hr, hd]
  refine ⟨_, _, hT w.heap.size, ha.put hdn _, ?_⟩
  have hlm : (vs.map Value.cells).length ≤ maxLen := by
    have : len ≤ len * i.size := Nat.le_mul_of_pos_right _ ht.pos
    simp [maxLen]; omega
  have hsat := ownsRow_new (w := w) (e := e) hcells hxs hlm
  have hall := hw.alloc (.cells cells e)
  have := hall.set (A := []) (R := L) (w' := w.alloc (.cells cells e)) (p := .blk w.heap.size (.cells cells e)) (p' := .row (some ⟨w.heap.size, 0, none⟩) len e i.size (vs.map Value.cells)) rfl rfl rfl rfl (Nat.le_refl _)
    (by rw [← hlen]; simpa using hsat) (by simp [Ent.blocks]) (fun b hb => .inl (by simpa [Ent.blocks] using hb)) (fun _ _ _ => rfl)
  simpa using this

/-! ### append -/
theorem run_append_nothing {w : World} (t ty e : TypeId) {A : Option Addr} {m cap : Nat} (c : Nat) (sz : Nat) {i : TypeInfo} (ht : P.underlying t = some (.slice e)) (hi : P.info? e = some i) (hc : m ≤ cap) (hA : A = none → m = 0) :
    (Builtin.append_ #[t, t] ty #[.slice A m cap, .slice none 0 c]).run P w = .ok (.slice A m cap) w := by
  cases A with
  | none => simp [Builtin.append_, run_underlying ht, sizeOf, typeInfo, hi, Builtin.lenOf, Builtin.firstCells, hc]
  | some a => simp [Builtin.append_, run_underlying ht, sizeOf, typeInfo, hi, Builtin.lenOf, Builtin.firstCells, hc, storeCells]

theorem run_append_rd {w : World} {t ty e : TypeId} {sz bytes : Nat} {z : Value} (ht : SlB P t e sz bytes z) {A : Option Addr} {cap : Nat} {xs : List (Array Value)} (hrow : (Ent.row A cap e sz xs).sat w)
    {B : Option Addr} {c : Nat} {ys : List (Array Value)} (hB : Rd w B sz ys) (h63 : xs.length + ys.length ≤ maxLen) (hby : (xs.length + ys.length) * bytes ≤ 140737488355328) :
    ∃ A' cap' w', (Builtin.append_ #[t, t] ty #[.slice A xs.length cap, .slice B ys.length c]).run P w = .ok (.slice A' (xs ++ ys).length cap') w' ∧ (Ent.row A' cap' e sz (xs ++ ys)).sat w' ∧ w.grownBy w' (Value.slice A xs.length cap).ownBlock ∧
      (A'.map Addr.block = A.map Addr.block ∨ A'.map Addr.block = some w.heap.size) := by
  obtain ⟨i, hi, hz, hsz, hbb⟩ := ht.info
  obtain ⟨hown, hxs⟩ := hrow
  rcases ys with _ | ⟨y, ys⟩
  · -- nothing is appended
    have hcap : xs.length ≤ cap ∧ (A = none → xs.length = 0) := by
      rcases hown.2 with ⟨hv, hn⟩ | ⟨g, cp, cur, hv, _, _, hnc, _⟩
      · injection hv with h1 h2 h3; exact ⟨by omega, fun _ => hn⟩
      · injection hv with h1 h2 h3; exact ⟨by omega, fun h => by rw [h1] at h; cases h⟩
    cases B with
    | none => exact ⟨A, cap, w, by simpa using run_append_nothing t ty e c sz ht.under hi hcap.1 hcap.2, by simpa using ⟨hown, hxs⟩, World.grownBy.refl w _, .inl rfl⟩
    | some b =>
      obtain ⟨v', w', h1, h2, h3, _, h5⟩ := run_append_own_at (P := P) w 0 t ty e i z sz bytes ht.under hi hz hsz hbb ht.zs ht.pos (.slice A xs.length cap) xs.length (flat xs) hown b 0 c [] (by simp) (by simp) (by simp) (by simpa using h63) (by simpa using hby) (Nat.zero_le _)
      simp only [Nat.add_zero, List.append_nil] at h2
      obtain ⟨A', cap', rfl⟩ : ∃ A' cap', v' = .slice A' xs.length cap' := by
        rcases h2.2 with ⟨hv, hn⟩ | ⟨g, cp, cur, hv, _⟩
        · exact ⟨none, 0, by rw [hv, hn]⟩
        · exact ⟨_, _, hv⟩
      refine ⟨A', cap', w', by simpa using h1, by simpa using ⟨h2, hxs⟩, h3, ?_⟩
      cases A' <;> cases A <;> simp [Value.ownBlock] at h5 ⊢ <;> exact h5
  · have hy := fun k c hk => hB.at_ k c hk
    obtain ⟨_, ⟨b, j, rfl⟩, _, _⟩ := hy 0 y (by simp)
    have hys : ∀ c ∈ (y :: ys), c.size = sz ∧ ∀ u ∈ c.toList, u.oneCell' = true := by
      intro c hc
      obtain ⟨k, hk⟩ := List.mem_iff_getElem?.1 hc
      exact ⟨(hy k c hk).1, (hy k c hk).2.2.2.1⟩
    have hfl := flat_length (fun c hc => (hys c hc).1)
    have hnews : ∀ q u, (flat (y :: ys))[q]? = some u → w.cell? ((⟨b, j, none⟩ : Addr).add q) = some u := by
      intro q u hq
      have hqlt : q < (y :: ys).length * sz := by
        have := (List.getElem?_eq_some_iff.1 hq).1
        omega
      have hk : q / sz < (y :: ys).length := Nat.div_lt_of_lt_mul (by rw [Nat.mul_comm]; exact hqlt)
      have hr : q % sz < sz := Nat.mod_lt _ ht.pos
      have hqe : q = q / sz * sz + q % sz := by rw [Nat.mul_comm]; exact (Nat.div_add_mod q sz).symm
      have hget := flat_get (fun c hc => (hys c hc).1) (List.getElem?_eq_getElem hk) hr
      rw [← hqe] at hget
      obtain ⟨_, _, _, _, hc⟩ := hy (q / sz) _ (List.getElem?_eq_getElem hk)
      have h1 := hc (q % sz) hr
      rw [add_none]
      rw [show ab (some ⟨b, j, none⟩) = b from rfl, show ao (some ⟨b, j, none⟩) = j from rfl, Nat.add_assoc, ← hqe] at h1
      rw [h1, ← hget, hq]
    obtain ⟨v', w', h1, h2, h3, _, h5⟩ := run_append_own_at (P := P) w 0 t ty e i z sz bytes ht.under hi hz hsz hbb ht.zs ht.pos (.slice A xs.length cap) xs.length (flat xs) hown ⟨b, j, none⟩ (y :: ys).length c (flat (y :: ys)) hfl hnews
      (fun u hu => by obtain ⟨c, hc, hcu⟩ := mem_flat.1 hu; exact (hys c hc).2 u hcu) h63 hby (Nat.zero_le _)
    rw [← flat_append] at h2
    obtain ⟨A', cap', rfl⟩ : ∃ A' cap', v' = .slice A' (xs.length + (y :: ys).length) cap' := by
      rcases h2.2 with ⟨hv, hn⟩ | ⟨g, cp, cur, hv, _⟩
      · simp at hn
      · exact ⟨_, _, hv⟩
    refine ⟨A', cap', w', by rw [List.length_append]; exact h1, ⟨by rw [List.length_append]; exact h2, ?_⟩, h3, ?_⟩
    · intro c hc
      rcases List.mem_append.1 hc with hc | hc
      · exact hxs c hc
      · exact hys c hc
    · cases A' <;> cases A <;> simp [Value.ownBlock] at h5 ⊢ <;> exact h5

theorem row_blocks_nodup {A : Option Addr} {cap : Nat} {e : TypeId} {sz : Nat} {xs : List (Array Value)} : (Ent.row A cap e sz xs).blocks.Nodup := by
  cases A <;> simp [Ent.blocks]

theorem op_append_core {x y : Operand} {t e : TypeId} {d sz bytes i : Nat} {z : Value} {A B : Option Addr} {cap c m : Nat} {xs ys : List (Array Value)}
    (ho : o.op = .call { callee := .builtin .append, args := #[x, y], argTypes := #[t, t] }) (hd : o.dst = some d) (hdn : Nat.blt d n = true) (ht : SlB P t e sz bytes z) (hx : ev V x = some (.slice A xs.length cap)) (hL : L[i]? = some (.row A cap e sz xs))
    (hy : ev V y = some (.slice B m c)) (hm : ys.length = m) (hB : ∀ w, SL w0 O w L → Rd w B sz ys) (h63 : xs.length + m ≤ 9223372036854775807) (hby : (xs.length + m) * bytes ≤ 140737488355328)
    (hT : ∀ A' cap', T ((d, .slice A' (xs ++ ys).length cap') :: V) (L.set i (.row A' cap' e sz (xs ++ ys)))) : OpS P w0 O n D o V L T := by
  intro a w ha hw
  subst hm
  obtain ⟨A', cap', w', hrun, hsat, hgr, hbl⟩ := run_append_rd (P := P) (w := w) (ty := o.type) (c := c) ht (hw.ents _ (List.mem_of_getElem? hL)) (hB w hw) (by unfold maxLen; omega) hby
  have hr : (execOp a.eval o).run P w = .ok (.value (.slice A' (xs ++ ys).length cap')) w' := by
    simp only [execOp, ho, resolve, invoke, builtin, Sem.run_bind, Sem.run_pure, Result.andThen_ok, List.map_toArray, List.map_cons, List.map_nil, ha.eval hx, ha.eval hy, hrun]
  unfold Does
  rw [hr, hd]
  refine ⟨_, _, hT A' cap', ha.put hdn _, hw.setI hL hgr.os hgr.tape hgr.output hgr.size hsat row_blocks_nodup ?_ ?_⟩
  · intro b hb
    have hb' : A'.map Addr.block = some b := by simpa [Ent.blocks] using hb
    rcases hbl with h | h
    · left; rw [h] at hb'; simpa [Ent.blocks] using hb'
    · right; rw [h] at hb'; simp at hb'; omega
  · intro k hk hkb
    refine hgr.block k hk ?_
    intro hkk
    apply hkb
    cases A with
    | none => simp [Value.ownBlock] at hkk
    | some a => simp [Value.ownBlock] at hkk; simp [Ent.blocks, hkk]

/-- append of elements that lie in a slice of one's own (a literal's): it is not wanted behind. -/
theorem op_append {x y : Operand} {t e : TypeId} {d sz bytes i j : Nat} {z : Value} {A B : Option Addr} {cap c capy m : Nat} {ey : TypeId} {xs ys : List (Array Value)}
    (ho : o.op = .call { callee := .builtin .append, args := #[x, y], argTypes := #[t, t] }) (hd : o.dst = some d) (hdn : Nat.blt d n = true) (ht : SlB P t e sz bytes z) (hx : ev V x = some (.slice A xs.length cap)) (hL : L[i]? = some (.row A cap e sz xs))
    (hy : ev V y = some (.slice B m c)) (hm : ys.length = m) (hLy : L[j]? = some (.row B capy ey sz ys)) (h63 : xs.length + m ≤ 9223372036854775807) (hby : (xs.length + m) * bytes ≤ 140737488355328)
    (hT : ∀ A' cap', T ((d, .slice A' (xs ++ ys).length cap') :: V) (L.set i (.row A' cap' e sz (xs ++ ys)))) : OpS P w0 O n D o V L T :=
  op_append_core ho hd hdn ht hx hL hy hm (fun w hw => Ent.rd (hw.ents _ (List.mem_of_getElem? hLy))) h63 hby hT
/-- .. of elements that lay ahead of the call. -/
theorem op_append0 {x y : Operand} {t e : TypeId} {d sz bytes i : Nat} {z : Value} {A B : Option Addr} {cap c m : Nat} {xs ys : List (Array Value)}
    (ho : o.op = .call { callee := .builtin .append, args := #[x, y], argTypes := #[t, t] }) (hd : o.dst = some d) (hdn : Nat.blt d n = true) (ht : SlB P t e sz bytes z) (hx : ev V x = some (.slice A xs.length cap)) (hL : L[i]? = some (.row A cap e sz xs))
    (hy : ev V y = some (.slice B m c)) (hm : ys.length = m) (hr : Rd w0 B sz ys) (hO : ab B ∉ O) (h63 : xs.length + m ≤ 9223372036854775807) (hby : (xs.length + m) * bytes ≤ 140737488355328)
    (hT : ∀ A' cap', T ((d, .slice A' (xs ++ ys).length cap') :: V) (L.set i (.row A' cap' e sz (xs ++ ys)))) : OpS P w0 O n D o V L T :=
  op_append_core ho hd hdn ht hx hL hy hm (fun w hw => hw.rd hr hO) h63 hby hT

theorem sat_nil (w : World) (e : TypeId) (sz : Nat) : (Ent.row none 0 e sz []).sat w := ⟨World.ownsRow_nil w 0 e sz, by simp⟩
/-- A nil slice is one of one's own. -/
theorem SL.rowNil {w : World} (h : SL w0 O w L) (e : TypeId) (sz : Nat) : SL w0 O w (.row none 0 e sz [] :: L) := by
  refine ⟨h.os, h.tape, h.output, h.size, h.same, ?_, ?_, ?_⟩
  · intro p hp
    rcases List.mem_cons.1 hp with rfl | hp
    · exact sat_nil w e sz
    · exact h.ents p hp
  · simpa [List.flatMap_cons, Ent.blocks] using h.nodup
  · intro p hp b hb
    rcases List.mem_cons.1 hp with rfl | hp
    · simp [Ent.blocks] at hb
    · exact h.own p hp b hb
theorem CX.rowNil {r : Option Nat} {Q : Exit → Act → World → Prop} {c : Code} (e : TypeId) (sz : Nat) (h : CX P r Q w0 O n D c V (.row none 0 e sz [] :: L)) : CX P r Q w0 O n D c V L :=
  fun a w ha hw => h a w ha (hw.rowNil e sz)

/-! ### A store into an element of a slice of one's own -/
theorem flat_set {sz : Nat} : ∀ {xs : List (Array Value)}, (∀ c ∈ xs, c.size = sz) → ∀ {k : Nat} {c : Array Value}, k < xs.length → c.size = sz → flat (xs.set k c) = (flat xs).take (k * sz) ++ c.toList ++ (flat xs).drop ((k + 1) * sz)
  | [], _, k, c, h, _ => by simp at h
  | d :: xs, hs, 0, c, _, hc => by
    have hd := hs d List.mem_cons_self
    simp only [List.set_cons_zero, flat_cons, Nat.zero_mul, List.take_zero, List.nil_append, Nat.zero_add, Nat.one_mul]
    rw [List.drop_left' (by simp [hd])]
  | d :: xs, hs, k + 1, c, h, hc => by
    have hd := hs d List.mem_cons_self
    simp only [List.set_cons_succ, flat_cons]
    rw [flat_set (fun c hc => hs c (List.mem_cons_of_mem _ hc)) (by simpa using h) hc]
    have e1 : (k + 1) * sz = d.toList.length + k * sz := by simp [hd, Nat.add_mul]; omega
    have e2 : (k + 1 + 1) * sz = d.toList.length + (k + 1) * sz := by simp [hd, Nat.add_mul]; omega
    have r1 : (d.toList ++ flat xs).take ((k + 1) * sz) = d.toList ++ (flat xs).take (k * sz) := by rw [e1, List.take_length_add_append]
    have r2 : (d.toList ++ flat xs).drop ((k + 1 + 1) * sz) = (flat xs).drop ((k + 1) * sz) := by rw [e2, List.drop_length_add_append]
    rw [r1, r2]
    simp only [List.append_assoc]

theorem op_storeElem {t e : TypeId} {x y : Operand} {A : Option Addr} {cap sz k i : Nat} {v : Value} {xs : List (Array Value)} (ho : o.op = .store t x y) (hd : o.dst = none) (hx : ev V x = some (.pointer (some ⟨ab A, ao A + k * sz, none⟩))) (hy : ev V y = some v) (hs : SzT P t sz)
    (hv : v.cells.size = sz) (h1 : ∀ u ∈ v.cells.toList, u.oneCell' = true) (hL : L[i]? = some (.row A cap e sz xs)) (hk : k < xs.length)
    (hT : T V (L.set i (.row A cap e sz (xs.set k v.cells)))) : OpS P w0 O n D o V L T := by
  intro a w ha hw
  have hsat := hw.ents _ (List.mem_of_getElem? hL)
  obtain ⟨⟨hl, h2⟩, hxs⟩ := hsat
  rcases h2 with ⟨hvv, hn⟩ | ⟨g, cp, cur, hvv, _, hg, hnc, hcm, hcs, htake⟩
  · omega
  · injection hvv with hA hn hc
    subst hA; subst hc
    have hfl := flat_length (fun c hc => (hxs c hc).1)
    have hle : (k + 1) * sz ≤ xs.length * sz := Nat.mul_le_mul_right _ hk
    have hle2 : xs.length * sz ≤ cap * sz := Nat.mul_le_mul_right _ hnc
    rw [Nat.add_mul, Nat.one_mul] at hle
    have hx' : a.eval x = .pointer (some ⟨g, k * sz, none⟩) := by
      rw [ha.eval hx]
      show Value.pointer (some ⟨g, 0 + k * sz, none⟩) = _
      rw [Nat.zero_add]
    have hr := run_store_row (P := P) (w := w) (g := g) (j := k * sz) hs hv h1 hg (by omega)
    have hr' : (execOp a.eval o).run P w = .ok .skip (w.setRow g (cur.toList.take (k * sz) ++ v.cells.toList ++ cur.toList.drop (k * sz + sz)).toArray) := by
      simp only [execOp, ho, hx', ha.eval hy, Instr.storeAt, Instr.sureAddr]
      simp only [Sem.run_bind, Sem.run_pure, Result.andThen_ok, hr]
    unfold Does
    rw [hr', hd]
    refine ⟨_, _, hT, ha, hw.setI hL rfl rfl rfl (by simp) ?_ row_blocks_nodup (fun b hb => .inl hb) (fun j _ hj => setRow_other w g j _ (by simpa [Ent.blocks] using hj))⟩
    have hxs' : ∀ c ∈ xs.set k v.cells, c.size = sz ∧ ∀ u ∈ c.toList, u.oneCell' = true := by
      intro c hc
      rcases List.mem_or_eq_of_mem_set hc with hc | rfl
      · exact hxs c hc
      · exact ⟨hv, h1⟩
    refine ⟨⟨by rw [flat_length (fun c hc => (hxs' c hc).1)], .inr ⟨g, cap, _, by simp, Nat.zero_le _, setRow_heap w g cur _ e _ hg, by simpa using hnc, hcm, ?_, ?_⟩⟩, hxs'⟩
    · simp [hv]; omega
    · rw [flat_set (fun c hc => (hxs c hc).1) hk hv, List.length_set, ← htake]
      simp only [List.toList_toArray]
      have hclen : cur.toList.length = cap * sz := by simpa using hcs
      rw [List.take_append, List.take_append]
      have e1 : (cur.toList.take (k * sz)).length = k * sz := by rw [List.length_take, hclen]; exact Nat.min_eq_left (by omega)
      have e2 : (cur.toList.take (k * sz) ++ v.cells.toList).length = k * sz + sz := by rw [List.length_append, e1]; simp [hv]
      rw [e1, e2]
      rw [List.take_take, List.take_take, Nat.min_eq_right (by omega), Nat.min_eq_left (by omega : k * sz ≤ xs.length * sz)]
      rw [List.take_of_length_le (l := v.cells.toList) (by simp [hv]; omega)]
      rw [List.drop_take, Nat.add_mul, Nat.one_mul]
end
end Go.Proofs.Ytpcfgoadkfajfaa
namespace Go.Proofs.Ytpcfgoadkfajfaa
set_option linter.all false
open Go Go.RowKit

section
variable {P : Program} {w0 : World} {O : List Nat} {n : Nat} {D : List Deferred} {o : Oper} {V : List (Nat × Value)} {L : List Ent} {T : List (Nat × Value) → List Ent → Prop}

theorem op_storeAll {t : TypeId} {x y : Operand} {g i sz : Nat} {v : Value} {cs : Array Value} {tt : TypeId} (ho : o.op = .store t x y) (hd : o.dst = none) (hx : ev V x = some (.pointer (some ⟨g, 0, none⟩))) (hy : ev V y = some v) (hs : SzT P t sz)
    (hv : v.cells.size = sz) (h1 : ∀ u ∈ v.cells.toList, u.oneCell' = true) (hL : L[i]? = some (.blk g (.cells cs tt (0, 0)))) (hsz : cs.size = sz)
    (hT : T V (L.set i (.blk g (.cells v.cells tt (0, 0))))) : OpS P w0 O n D o V L T :=
  op_store (cs' := v.cells) ho hd hx hy hs hv h1 hL (by omega) (by rw [List.take_zero, List.nil_append, List.drop_eq_nil_of_le (by simp; omega), List.append_nil]) hT

theorem op_store1 {t : TypeId} {x y : Operand} {g j i : Nat} {v : Value} {cs cs' : Array Value} {tt : TypeId} (ho : o.op = .store t x y) (hd : o.dst = none) (hx : ev V x = some (.pointer (some ⟨g, j, none⟩))) (hy : ev V y = some v) (hs : SzT P t 1)
    (hv : v.oneCell' = true) (hL : L[i]? = some (.blk g (.cells cs tt (0, 0)))) (hj : Nat.blt j cs.size = true) (hcs : cs.setIfInBounds j v = cs')
    (hT : T V (L.set i (.blk g (.cells cs' tt (0, 0))))) : OpS P w0 O n D o V L T := by
  subst hcs
  have hc : v.cells = #[v] := by cases v <;> simp [Value.oneCell'] at hv <;> rfl
  have hlt : j < cs.size := by simpa using hj
  refine op_store (cs' := cs.setIfInBounds j v) ho hd hx hy hs (by rw [hc]; rfl) (by rw [hc]; simpa using hv) hL (by omega) ?_ hT
  rw [hc, Array.toList_setIfInBounds, List.set_eq_take_append_cons_drop]
  simp [hlt]

theorem yw_build {t : TypeId} {parts : Array (Nat × Operand)} {v : Value} {pv : List (Nat × Value)} (ho : o.op = .build t parts) (hp : parts.toList.mapM (fun p => (ev V p.2).map (fun v => (p.1, v))) = some pv)
    (hb : ∀ w, (Instr.build t pv.toArray).run P w = .ok v w) : YldW P n D o V v := by
  intro a w ha
  have key : ∀ (l : List (Nat × Operand)) (pv : List (Nat × Value)), l.mapM (fun p => (ev V p.2).map (fun v => (p.1, v))) = some pv → l.map (fun p => (p.1, a.eval p.2)) = pv := by
    intro l
    induction l with
    | nil => intro pv h; simp at h; simp [h]
    | cons p l ih =>
      intro pv h
      rw [List.mapM_cons] at h
      cases h1 : ev V p.2 with
      | none => rw [h1] at h; simp at h
      | some u =>
        rw [h1] at h
        cases h2 : l.mapM (fun p => (ev V p.2).map (fun v => (p.1, v))) with
        | none => rw [h2] at h; simp at h
        | some q =>
          rw [h2] at h
          simp at h
          subst h
          rw [List.map_cons, ih q h2, ha.eval h1]
  have e : (parts.map fun (p : Nat × Operand) => (p.1, a.eval p.2)) = pv.toArray := Array.ext' (by rw [Array.toList_map]; exact key _ _ hp)
  simp only [execOp, ho]
  simp only [e, Sem.run_bind, hb, Result.andThen_ok, Sem.run_pure]

/-- One state, of a family. -/
def Met {σ : Type} (Vx : σ → List (Nat × Value)) (Lx : σ → List Ent) (I : σ → Prop) (w0 : World) (O : List Nat) (n : Nat) (D : List Deferred) (e : Exit) (a : Act) (w : World) : Prop :=
  e = .normal ∧ ∃ x, I x ∧ Holds n D a (Vx x) ∧ SL w0 O w (Lx x)

theorem CX.cut {r : Option Nat} {Q : Exit → Act → World → Prop} {σ : Type} (Vx : σ → List (Nat × Value)) (Lx : σ → List Ent) (I : σ → Prop) {c d : Code} (h1 : CX P r (Met Vx Lx I w0 O n D) w0 O n D c V L) (h2 : ∀ x, I x → CX P r Q w0 O n D d (Vx x) (Lx x)) :
    CX P r Q w0 O n D (.seq c d) V L := by
  intro a w ha hw
  refine wpIn_seq (wpIn_mono (h1 a w ha hw) ?_)
  rintro e a' w' ⟨rfl, x, hI, ha', hw'⟩
  exact h2 x hI a' w' ha' hw'
theorem XX.meet {σ : Type} {Vx : σ → List (Nat × Value)} {Lx : σ → List Ent} {I : σ → Prop} (x : σ) (hI : I x) (hV : Sub V (Vx x)) (hL : (Lx x).Sublist L) : XX (Met Vx Lx I w0 O n D) w0 O n D .normal V L :=
  fun a w ha hw => ⟨rfl, x, hI, ha.sub hV, hw.sub hL⟩
theorem XX.know {Q : Exit → Act → World → Prop} {e : Exit} {t : Nat} {v u : Value} (hv : lk V t = some v) (h : v = u) (hx : XX Q w0 O n D e ((t, u) :: V) L) : XX Q w0 O n D e V L :=
  fun a w ha hw => hx a w (ha.cons hv h) hw
theorem XX.ents {Q : Exit → Act → World → Prop} {e : Exit} {L' : List Ent} (h : L = L') (hx : XX Q w0 O n D e V L') : XX Q w0 O n D e V L := h ▸ hx
theorem RX.ents {r : Option Nat} {ops : Array Oper} {Q : Exit → Act → World → Prop} {l : List Oper} {L' : List Ent} (h : L = L') (hx : RX P r ops Q w0 O n D l V L') : RX P r ops Q w0 O n D l V L := h ▸ hx
theorem CX.ents {r : Option Nat} {Q : Exit → Act → World → Prop} {c : Code} {L' : List Ent} (h : L = L') (hx : CX P r Q w0 O n D c V L') : CX P r Q w0 O n D c V L := h ▸ hx
end

/-- A call of a function with a body is entered. -/
theorem enters_of {P : Program} {f : FuncId} {fn : Func} {c : Code} (hf : P.funcs[f]? = some fn) (hname : (fn.name == "runtime.NumGoroutine") = false) (hb : fn.body = some c) (args : Array Value) (w : World) :
    (callFunc f args).run P w = .ok (.enter f args) w := by
  have h1 : fn.name ≠ "runtime.NumGoroutine" := by simpa using hname
  simp [callFunc, hf, h1, hb]
end Go.Proofs.Ytpcfgoadkfajfaa
namespace Go.Proofs.Ytpcfgoadkfajfaa
set_option linter.all false
open Go Go.RowKit

section
variable {P : Program} {w0 : World} {O : List Nat} {n : Nat} {D : List Deferred} {o : Oper} {V : List (Nat × Value)} {L : List Ent} {T : List (Nat × Value) → List Ent → Prop}

theorem plain_of {v : Value} (h : (v.cells.toList.all fun u => u.oneCell') = true) : ∀ u ∈ v.cells.toList, u.oneCell' = true := List.all_eq_true.1 h

/-! ### Maps -/
/-- A map type with keys of type int; its element's zero value. -/
def MapT (P : Program) (t : TypeId) (z : Value) : Prop := ∃ k e i, P.underlying t = some (.map k e) ∧ P.underlying k = some (.int .i64) ∧ P.info? e = some i ∧ i.zero = some z

theorem findNow_int (k : Int) : ∀ (l : List MapEntry) (i : Nat), (∀ e ∈ l, ∃ a, e.key = .int .i64 a) →
    (Instr.findNow (.int .i64) (.int .i64 k) l i = some none ∧ mget k l = none) ∨
    ∃ j e, Instr.findNow (.int .i64) (.int .i64 k) l i = some (some (i + j, e.val)) ∧ l[j]? = some e ∧ e.key = .int .i64 k ∧ mget k l = some e.val ∧
      ∀ (u : Value) k', mget k' (l.modify j fun e => { e with key := .int .i64 k, val := u }) = if k' = k then some u else mget k' l
  | [], i, _ => .inl ⟨rfl, rfl⟩
  | e :: r, i, h => by
    obtain ⟨a, ha⟩ := h e List.mem_cons_self
    by_cases hak : a = k
    · subst hak
      refine .inr ⟨0, e, ?_, rfl, ha, by simp [mget, ha], ?_⟩
      · simp [Instr.findNow, Instr.sameNow, ha]
      · intro u k'
        simp only [List.modify_zero_cons, mget, ha]
        by_cases hk : a = k'
        · simp [hk]
        · simp [hk, Ne.symm hk]
    · have hne : ¬ k = a := fun e => hak e.symm
      have hs : Instr.sameNow (.int .i64) (.int .i64 k) (.int .i64 a) = some false := by simp [Instr.sameNow, hne]
      rcases findNow_int k r (i + 1) (fun e he => h e (List.mem_cons_of_mem _ he)) with ⟨h1, h2⟩ | ⟨j, e', h1, h2, h3, h4, h5⟩
      · exact .inl ⟨by simp [Instr.findNow, ha, hs, h1], by simp [mget, ha, hak, h2]⟩
      · refine .inr ⟨j + 1, e', by simp [Instr.findNow, ha, hs, h1]; omega, by simpa using h2, h3, by simp [mget, ha, hak, h4], ?_⟩
        intro u k'
        simp only [List.modify_succ_cons, mget, ha, h5]
        by_cases hk : a = k'
        · subst hk; simp [hak]
        · simp [hk]

theorem mget_append (k' k : Int) (u : Value) (b : Nat) : ∀ (l : List MapEntry), mget k l = none → (∀ e ∈ l, ∃ a, e.key = .int .i64 a) → mget k' (l ++ [{ key := .int .i64 k, val := u, born := b }]) = if k' = k then some u else mget k' l
  | [], _, _ => by
    by_cases h : k = k'
    · simp [mget, h]
    · simp [mget, h, Ne.symm h]
  | e :: r, h, hk => by
    obtain ⟨a, ha⟩ := hk e List.mem_cons_self
    simp only [mget, ha] at h
    by_cases hak : a = k
    · simp [hak] at h
    · simp only [hak, if_false] at h
      simp only [List.cons_append, mget, ha, mget_append k' k u b r h (fun e he => hk e (List.mem_cons_of_mem _ he))]
      by_cases hak' : a = k'
      · subst hak'; simp [hak]
      · simp [hak']

theorem isKey_int (k : Int) : MapKept.IsKey (.int .i64) (.int .i64 k) := by simp [MapKept.IsKey]

theorem run_lookup_int {w : World} {t : TypeId} {z : Value} {g : Nat} {f : Int → Option Value} (ht : MapT P t z) (h : MapAt w g f) (k : Int) (b : Bool) :
    (Instr.lookup t (.map (some g)) (.int .i64 k) b).run P w = .ok (if b then .tuple #[(f k).getD z, .bool (f k).isSome] else (f k).getD z) w := by
  obtain ⟨kt, et, i, h1, h2, h3, h4⟩ := ht
  obtain ⟨es, clock, hg, hk, hf⟩ := h
  have hz : (zeroValue et).run P w = .ok z w := by simp [zeroValue, typeInfo, h3, h4]
  rcases findNow_int k es.toList 0 hk with ⟨h5, h6⟩ | ⟨j, e, h5, h6, h7, h8, _⟩
  · have : f k = none := by rw [← hf, h6]
    cases b <;> simp [Instr.lookup, run_underlying h1, MapKept.run_getObj_map hg, MapKept.run_checkKey h2 (isKey_int k), MapKept.run_findKey h2 h5, hz, Result.andThen, this]
  · have : f k = some e.val := by rw [← hf, h8]
    cases b <;> simp [Instr.lookup, run_underlying h1, MapKept.run_getObj_map hg, MapKept.run_checkKey h2 (isKey_int k), MapKept.run_findKey h2 h5, hz, Result.andThen, this]

theorem y_lookup {t : TypeId} {m x : Operand} {g i : Nat} {f : Int → Option Value} {k : Int} {z : Value} (ho : o.op = .lookup t m x false) (hm : ev V m = some (.map (some g))) (hx : ev V x = some (.int .i64 k)) (ht : MapT P t z) (hL : L[i]? = some (.imap g f)) :
    Yld P w0 O n D o V L ((f k).getD z) := by
  intro a w ha hw
  have h := run_lookup_int (P := P) ht (hw.ents _ (List.mem_of_getElem? hL)) k false
  simp [execOp, ho, ha.eval hm, ha.eval hx, h]
theorem y_lookupOk {t : TypeId} {m x : Operand} {g i : Nat} {f : Int → Option Value} {k : Int} {z : Value} (ho : o.op = .lookup t m x true) (hm : ev V m = some (.map (some g))) (hx : ev V x = some (.int .i64 k)) (ht : MapT P t z) (hL : L[i]? = some (.imap g f)) :
    Yld P w0 O n D o V L (.tuple #[(f k).getD z, .bool (f k).isSome]) := by
  intro a w ha hw
  have h := run_lookup_int (P := P) ht (hw.ents _ (List.mem_of_getElem? hL)) k true
  simp [execOp, ho, ha.eval hm, ha.eval hx, h]

theorem run_mapUpdate_int {w : World} {t : TypeId} {z : Value} {g : Nat} {f : Int → Option Value} (ht : MapT P t z) (h : MapAt w g f) (k : Int) (u : Value) :
    ∃ es' clock', (Instr.mapUpdate t (.map (some g)) (.int .i64 k) u).run P w = .ok () { w with heap := w.heap.setIfInBounds g (.map es' clock') } ∧
      (∀ e ∈ es'.toList, ∃ a, e.key = .int .i64 a) ∧ ∀ k', mget k' es'.toList = if k' = k then some u else f k' := by
  obtain ⟨kt, et, i, h1, h2, h3, h4⟩ := ht
  obtain ⟨es, clock, hg, hk, hf⟩ := h
  rcases findNow_int k es.toList 0 hk with ⟨h5, h6⟩ | ⟨j, e, h5, h6, h7, h8, h9⟩
  · refine ⟨es.push { key := .int .i64 k, val := u, born := clock }, clock + 1, ?_, ?_, ?_⟩
    · simp [Instr.mapUpdate, run_underlying h1, MapKept.run_getObj_map hg, MapKept.run_checkKey h2 (isKey_int k), MapKept.run_findKey h2 h5, MapKept.run_setObj_map _ hg, Result.andThen]
    · intro e he
      rw [Array.toList_push] at he
      rcases List.mem_append.1 he with he | he
      · exact hk e he
      · rw [List.mem_singleton] at he; subst he; exact ⟨k, rfl⟩
    · intro k'
      rw [Array.toList_push, mget_append k' k u clock es.toList h6 hk, hf]
  · have hj : es[j]? = some e := by simpa using h6
    refine ⟨es.modify j fun e => { e with key := .int .i64 k, val := u }, clock, ?_, ?_, ?_⟩
    · simp only [Nat.zero_add] at h5
      simp [Instr.mapUpdate, run_underlying h1, MapKept.run_getObj_map hg, MapKept.run_checkKey h2 (isKey_int k), MapKept.run_findKey h2 h5, hj, h7, MapKept.run_keyThatStays (isKey_int k), MapKept.run_setObj_map _ hg, Result.andThen]
    · intro e' he
      rw [Array.toList_modify] at he
      obtain ⟨m, hm⟩ := List.mem_iff_getElem?.1 he
      rw [List.getElem?_modify] at hm
      cases hq : es.toList[m]? with
      | none => rw [hq] at hm; simp at hm
      | some e0 =>
        rw [hq] at hm
        simp at hm
        split at hm
        · subst hm; exact ⟨k, rfl⟩
        · subst hm; exact hk e0 (List.mem_of_getElem? hq)
    · intro k'
      rw [Array.toList_modify, h9, hf]

theorem SL.setM {w w' : World} (h : SL w0 O w L) {i g : Nat} {f f' : Int → Option Value} (hL : L[i]? = some (.imap g f)) (hos : w'.os = w.os) (ht : w'.tape = w.tape) (hou : w'.output = w.output)
    (hsz : w'.heap.size = w.heap.size) (hg : MapAt w' g f') (hk : ∀ k, k ≠ g → w'.heap[k]? = w.heap[k]?) : SL w0 O w' (L.set i (.imap g f')) :=
  h.setI hL hos ht hou (Nat.le_of_eq hsz.symm) hg (by simp [Ent.blocks]) (fun b hb => .inl (by simpa [Ent.blocks] using hb)) (fun k _ hkb => hk k (by simpa [Ent.blocks] using hkb))

theorem setMap_SL {w : World} (hw : SL w0 O w L) {i g : Nat} {f f' : Int → Option Value} (hL : L[i]? = some (.imap g f)) {es' : Array MapEntry} {clock' : Nat} (h1 : ∀ e ∈ es'.toList, ∃ a, e.key = .int .i64 a) (h2 : ∀ k, mget k es'.toList = f' k) :
    SL w0 O { w with heap := w.heap.setIfInBounds g (.map es' clock') } (L.set i (.imap g f')) := by
  obtain ⟨es, clock, hg, _, _⟩ : MapAt w g f := hw.ents _ (List.mem_of_getElem? hL)
  exact hw.setM hL rfl rfl rfl (by simp) ⟨es', clock', (MapKept.heap_set hg).1, h1, h2⟩ (fun k hk => (MapKept.heap_set hg).2 k hk)

theorem op_mapUpdate {t : TypeId} {m x y : Operand} {g i : Nat} {f : Int → Option Value} {k : Int} {u z : Value} (ho : o.op = .mapUpdate t m x y ∨ o.op = .insert t m x y) (hd : o.dst = none) (hm : ev V m = some (.map (some g))) (hx : ev V x = some (.int .i64 k)) (hy : ev V y = some u)
    (ht : MapT P t z) (hL : L[i]? = some (.imap g f)) (hT : T V (L.set i (.imap g fun k' => if k' = k then some u else f k'))) : OpS P w0 O n D o V L T := by
  intro a w ha hw
  obtain ⟨es', clock', h1, h2, h3⟩ := run_mapUpdate_int (P := P) ht (hw.ents _ (List.mem_of_getElem? hL)) k u
  have hr : (execOp a.eval o).run P w = .ok .skip { w with heap := w.heap.setIfInBounds g (.map es' clock') } := by
    rcases ho with ho | ho <;> simp [execOp, ho, ha.eval hm, ha.eval hx, ha.eval hy, h1]
  unfold Does
  rw [hr, hd]
  exact ⟨_, _, hT, ha, setMap_SL hw hL h2 h3⟩

theorem op_clearMap {t : TypeId} {x : Operand} {g i : Nat} {f : Int → Option Value} {z : Value} (ho : o.op = .call { callee := .builtin .clear, args := #[x], argTypes := #[t] }) (hd : o.dst = none) (hx : ev V x = some (.map (some g)))
    (ht : MapT P t z) (hL : L[i]? = some (.imap g f)) (hT : T V (L.set i (.imap g fun _ => none))) : OpS P w0 O n D o V L T := by
  intro a w ha hw
  obtain ⟨kt, et, _, h1, _⟩ := ht
  obtain ⟨es, clock, hg, _, _⟩ : MapAt w g f := hw.ents _ (List.mem_of_getElem? hL)
  have hr : (execOp a.eval o).run P w = .ok (.value (.tuple #[])) { w with heap := w.heap.setIfInBounds g (.map #[] clock) } := by
    simp [execOp, ho, resolve, invoke, builtin, ha.eval hx, Builtin.clear_, run_underlying h1, MapKept.run_getObj_map hg, MapKept.run_setObj_map _ hg, Result.andThen]
  unfold Does
  rw [hr, hd]
  exact ⟨_, _, hT, ha, setMap_SL hw hL (by simp) (fun k => rfl)⟩

/-! ### Slicing -/
theorem add_zero' (A : Option Addr) : A.map (·.add 0) = A := by
  cases A with
  | none => rfl
  | some a => simp [Addr.add]

/-- x[:hi] -/
theorem yw_sliceTo {t e : TypeId} {x h : Operand} {A : Option Addr} {len cap sz k : Nat} {q : Int} (ho : o.op = .slice t x none (some h) none) (ht : SlT P t e sz) (hx : ev V x = some (.slice A len cap)) (hy : ev V h = some (.int .i64 q)) (hq : q = (k : Int)) (hk : k ≤ cap) :
    YldW P n D o V (.slice A k cap) := by
  intro a w ha
  obtain ⟨i, h1, h2, h3⟩ := ht
  subst hq
  have e1 : (if cap = 0 then A else A.map (·.add (0 * i.size))) = A := by split <;> simp [add_zero']
  have hk' : (k : Int) ≤ (cap : Int) := by omega
  simp [execOp, ho, ha.eval hx, ha.eval hy, Instr.sliceAt, Instr.slice, run_underlying h1, Instr.sliceBounds, Instr.sliceBound, asIntOf, hk, sizeOf, typeInfo, h2]
  simpa using e1

/-- x[lo:] -/
theorem yw_sliceFrom {t e : TypeId} {x l : Operand} {A : Option Addr} {len cap sz k : Nat} {q : Int} (ho : o.op = .slice t x (some l) none none) (ht : SlT P t e sz) (hx : ev V x = some (.slice A len cap)) (hy : ev V l = some (.int .i64 q)) (hq : q = (k : Int)) (hk : k ≤ len) :
    YldW P n D o V (.slice (if cap = k then A else A.map (·.add (k * sz))) (len - k) (cap - k)) := by
  intro a w ha
  obtain ⟨i, h1, h2, h3⟩ := ht
  subst hq
  subst h3
  have hk' : (k : Int) ≤ (len : Int) := by omega
  simp [execOp, ho, ha.eval hx, ha.eval hy, Instr.sliceAt, Instr.slice, run_underlying h1, Instr.sliceBounds, Instr.sliceBound, asIntOf, hk, sizeOf, typeInfo, h2]

/-- s[:hi] -/
theorem yw_strTo {t : TypeId} {x h : Operand} {s : ByteArray} {k : Nat} {q : Int} (ho : o.op = .slice t x none (some h) none) (ht : P.underlying t = some .string) (hx : ev V x = some (.string s)) (hy : ev V h = some (.int .i64 q)) (hq : q = (k : Int)) (hk : k ≤ s.size) :
    YldW P n D o V (.string (s.extract 0 k)) := by
  intro a w ha
  subst hq
  simp [execOp, ho, ha.eval hx, ha.eval hy, Instr.sliceAt, Instr.slice, run_underlying ht, Instr.sliceBounds, Instr.sliceBound, asIntOf, hk]

/-! ### Structs compared -/
theorem yw_eqlAgg {t u : TypeId} {x y : Operand} {xs ys : Array Value} {b : Bool} (ho : o.op = .binOp .eql t x y u) (hx : ev V x = some (.agg xs)) (hy : ev V y = some (.agg ys)) (hm : P.eqGuardType P.depth t = false)
    (h : ∀ w, (Op.equalIn 10000 t (.agg xs) (.agg ys)).run P w = .ok b w) : YldW P n D o V (.bool b) := by
  intro a w ha
  have h1 := run_eqGuard_agg (P := P) (w := w) .eql t x y xs ys hm
  have h2 := run_eql_struct (P := P) (w := w) t xs ys
  simp [execOp, ho, ha.eval hx, ha.eval hy, h1, h2, h]
theorem yw_neqAgg {t u : TypeId} {x y : Operand} {xs ys : Array Value} {b : Bool} (ho : o.op = .binOp .neq t x y u) (hx : ev V x = some (.agg xs)) (hy : ev V y = some (.agg ys)) (hm : P.eqGuardType P.depth t = false)
    (h : ∀ w, (Op.equalIn 10000 t (.agg xs) (.agg ys)).run P w = .ok b w) : YldW P n D o V (.bool (!b)) := by
  intro a w ha
  have h1 := run_eqGuard_agg (P := P) (w := w) .neq t x y xs ys hm
  have h2 := run_neq_struct (P := P) (w := w) t xs ys
  simp [execOp, ho, ha.eval hx, ha.eval hy, h1, h2, h]

/-! ### An array behind a pointer -/
/-- Element k of the array of sz-cell elements that begins at block b. -/
theorem yw_indexArr {t e : TypeId} {x y : Operand} {b len sz k : Nat} {q : Int} (ho : o.op = .indexAddr t x y) (ht : P.underlying t = some (.array len e)) (hs : SzT P e sz) (hx : ev V x = some (.pointer (some ⟨b, 0, none⟩))) (hy : ev V y = some (.int .i64 q)) (hq : q = (k : Int)) (hk : k < len) :
    YldW P n D o V (.pointer (some ⟨b, k * sz, none⟩)) := by
  intro a w ha
  obtain ⟨i, h2, h3⟩ := hs
  subst hq
  have h4 : (0 : Int) ≤ (k : Int) ∧ (k : Int) < (len : Int) := by omega
  simp [execOp, ho, ha.eval hx, ha.eval hy, Instr.indexAt, Instr.sureAddr, asIntOf, run_underlying ht, sizeOf, typeInfo, h2, h3, hk, add_none]

/-- A cell that lay ahead of the call. -/
theorem y_loadG {t : TypeId} {x : Operand} {b j : Nat} {v : Value} (ho : o.op = .load t x) (hx : ev V x = some (.pointer (some ⟨b, j, none⟩))) (h1 : One P t) (hc : w0.cell? ⟨b, j, none⟩ = some v) (hO : b ∉ O) : Yld P w0 O n D o V L v := by
  intro a w ha hw
  have hb : (⟨b, j, none⟩ : Addr).block < w0.heap.size := World.block_lt_of_cell? w0 _ hc
  have hcell : w.cell? ⟨b, j, none⟩ = some v := by rw [hw.cell0 hb hO]; exact hc
  simp [execOp, ho, ha.eval hx, Instr.loadAt, Instr.sureAddr, run_load_one h1 hcell]

/-! ### Shifts -/
theorem yw_shr1 {t u : TypeId} {x y : Operand} {k : IntKind} {a : Int} (ho : o.op = .binOp .shr t x y u) (hx : ev V x = some (.int .u64 a)) (hy : ev V y = some (.int k 1)) : YldW P n D o V (.int .u64 (a / 2)) := by
  intro c w ha
  have := shift_shr_any .u64 k a 1 (by decide)
  have e : min (1 : Int).toNat IntKind.u64.bits = 1 := by decide
  rw [e] at this
  simp [execOp, ho, ha.eval hx, ha.eval hy, eqGuard, binOp, this]

/-! ### Clearing a slice's tail -/
theorem Ent.take {w : World} {A : Option Addr} {cap : Nat} {e : TypeId} {sz : Nat} {xs : List (Array Value)} (h : (Ent.row A cap e sz xs).sat w) (k : Nat) (hk : k ≤ xs.length) : (Ent.row A cap e sz (xs.take k)).sat w := by
  obtain ⟨⟨h1, h2⟩, h3⟩ := h
  have hlen : (xs.take k).length = k := by simp; omega
  have h3' : ∀ c ∈ xs.take k, c.size = sz ∧ ∀ u ∈ c.toList, u.oneCell' = true := fun c hc => h3 c (List.mem_of_mem_take hc)
  have hfl := flat_length (fun c hc => (h3 c hc).1)
  have hft : flat (xs.take k) = (flat xs).take (k * sz) := by
    have e0 : flat xs = flat (xs.take k) ++ flat (xs.drop k) := by rw [← flat_append, List.take_append_drop]
    have e1 : (flat (xs.take k)).length = k * sz := by rw [flat_length (fun c hc => (h3' c hc).1), hlen]
    rw [e0, List.take_append_of_le_length (Nat.le_of_eq e1.symm), List.take_of_length_le (Nat.le_of_eq e1)]
  refine ⟨⟨flat_length (fun c hc => (h3' c hc).1), ?_⟩, h3'⟩
  rcases h2 with ⟨hv, hn⟩ | ⟨g, cp, cur, hv, hb, hg, hnc, hcm, hcs, ht⟩
  · injection hv with hA _ hc
    subst hA; subst hc
    exact .inl ⟨by simp; omega, by omega⟩
  · injection hv with hA _ hc
    subst hA; subst hc
    refine .inr ⟨g, cap, cur, rfl, hb, hg, by omega, hcm, hcs, ?_⟩
    rw [hft, hlen, ← ht, List.take_take, Nat.min_eq_left (Nat.mul_le_mul_right _ hk)]

theorem op_clearTail {t e : TypeId} {x : Operand} {A : Option Addr} {cap sz bytes k i len : Nat} {z : Value} {xs : List (Array Value)} (ho : o.op = .call { callee := .builtin .clear, args := #[x], argTypes := #[t] }) (hd : o.dst = none)
    (ht : SlB P t e sz bytes z) (hz1 : ∀ u ∈ z.cells.toList, u.oneCell' = true)
    (hx : ev V x = some (.slice (if cap = k then A else A.map (·.add (k * sz))) (len - k) (cap - k))) (hL : L[i]? = some (.row A cap e sz xs)) (hlen : xs.length = len) (hk : k ≤ len)
    (hT : T V (L.set i (.row A cap e sz (xs.take k)))) : OpS P w0 O n D o V L T := by
  intro a w ha hw
  subst hlen
  have hzs := ht.zs
  have hsat := hw.ents _ (List.mem_of_getElem? hL)
  have hsat' := Ent.take hsat k hk
  unfold Does
  by_cases hfull : xs.length - k = 0
  · have hr : (execOp a.eval o).run P w = .ok (.value (.tuple #[])) w := by
      have h0 := ht.under
      have hx' := ha.eval hx
      generalize (if cap = k then A else A.map (·.add (k * sz))) = B at hx'
      rw [hfull] at hx'
      cases B <;> simp [execOp, ho, resolve, hx', invoke, builtin, Builtin.clear_, run_underlying h0]
    rw [hr, hd]
    exact ⟨_, _, hT, ha, hw.setI hL rfl rfl rfl (Nat.le_refl _) hsat' row_blocks_nodup (fun b hb => .inl hb) (fun _ _ _ => rfl)⟩
  · obtain ⟨⟨hl, h2⟩, hxs⟩ := hsat
    rcases h2 with ⟨hvv, hn⟩ | ⟨g, cp, cur, hvv, _, hg, hnc, hcm, hcs, htake⟩
    · omega
    · injection hvv with hA hn hc
      subst hA; subst hc
      have hne : cap ≠ k := by omega
      have hx' : a.eval x = .slice (some ⟨g, k * sz, none⟩) (xs.length - k) (cap - k) := by
        rw [ha.eval hx, if_neg hne]
        simp [add_none]
      obtain ⟨m, hm⟩ : ∃ m, xs.length - k = m + 1 := ⟨xs.length - k - 1, by omega⟩
      have hzl : (Builtin.zeroCells z.cells (xs.length - k)).toList.length = (xs.length - k) * sz := by simp [Builtin.zeroCells, hzs]
      have hz1' : ∀ u ∈ (Builtin.zeroCells z.cells (xs.length - k)).toList, u.oneCell' = true := by
        intro u hu
        simp only [Builtin.zeroCells, Array.toList_map, List.mem_map, Array.mem_toList_iff, Array.mem_range] at hu
        obtain ⟨j, hj, rfl⟩ := hu
        have hpos : 0 < z.cells.size := by
          rcases Nat.eq_zero_or_pos z.cells.size with h | h
          · rw [h] at hj; omega
          · exact h
        have hlt := Nat.mod_lt j hpos
        rw [getElem!_pos z.cells (j % z.cells.size) hlt]
        exact hz1 _ (by simp)
      have hle : xs.length * sz ≤ cap * sz := Nat.mul_le_mul_right _ hnc
      have hsub : (xs.length - k) * sz = xs.length * sz - k * sz := Nat.sub_mul _ _ _
      have hkle : k * sz ≤ xs.length * sz := Nat.mul_le_mul_right _ hk
      have hst := run_storeCells_at P g (k * sz) e (Builtin.zeroCells z.cells (xs.length - k)).toList 0 cur w hg (by rw [hzl]; omega) hz1'
      have hr : (execOp a.eval o).run P w = .ok (.value (.tuple #[])) (w.setRow g (cur.toList.take (k * sz) ++ (Builtin.zeroCells z.cells (xs.length - k)).toList ++ cur.toList.drop (k * sz + (xs.length - k) * sz)).toArray) := by
        have h0 := ht.under
        obtain ⟨inf, hi, hzz, _, _⟩ := ht.info
        have hzv : (zeroValue e).run P w = .ok z w := by simp [zeroValue, typeInfo, hi, hzz]
        rw [hm] at hst hx'
        simp only [Nat.add_zero] at hst
        simp [execOp, ho, resolve, invoke, builtin, hx', Builtin.clear_, run_underlying h0, hzv, hst]
        rw [← hm, Array.length_toList] at *
        simp [hm] at hzl ⊢
        rw [hzl]
      rw [hr, hd]
      refine ⟨_, _, hT, ha, hw.setI hL rfl rfl rfl (by simp) ?_ row_blocks_nodup (fun b hb => .inl hb) (fun j _ hj => setRow_other w g j _ (by simpa [Ent.blocks] using hj))⟩
      have hlen : (xs.take k).length = k := by simp; omega
      obtain ⟨⟨h1', h2'⟩, h3'⟩ := hsat'
      refine ⟨⟨h1', .inr ⟨g, cap, _, rfl, Nat.zero_le _, setRow_heap w g cur _ e _ hg, by omega, hcm, ?_, ?_⟩⟩, h3'⟩
      · have : (Builtin.zeroCells z.cells (xs.length - k)).size = (xs.length - k) * sz := by simpa using hzl
        simp [this]; omega
      · rcases h2' with ⟨hv, _⟩ | ⟨g', cp', cur', hv, _, hg', _, _, _, ht'⟩
        · cases hv
        · injection hv with hA' _ _
          injection hA' with hA'
          injection hA' with hgg _ _
          subst hgg
          have : cur' = cur := by
            rw [hg] at hg'; injection hg' with hg'; injection hg' with hg' _; exact hg'.symm
          subst this
          rw [← ht', hlen]
          have hclen : cur'.toList.length = cap * sz := by simpa using hcs
          simp only [List.toList_toArray, List.append_assoc]
          rw [List.take_append_of_le_length (by rw [List.length_take, hclen]; omega), List.take_take, Nat.min_self]
end
end Go.Proofs.Ytpcfgoadkfajfaa
namespace Go.Proofs.Ytpcfgoadkfajfaa
set_option linter.all false
open Go Go.RowKit

theorem perm_pick {α : Type} : ∀ {l : List α} (i : Nat) {p : α}, l[i]? = some p → l.Perm (p :: l.eraseIdx i)
  | [], i, p, h => by simp at h
  | a :: l, 0, p, h => by
    have : a = p := by simpa using h
    subst this; exact List.Perm.refl _
  | a :: l, i + 1, p, h => by
    have h' : l[i]? = some p := by simpa using h
    exact ((perm_pick i h').cons a).trans (List.Perm.swap _ _ _)
theorem perm_pick2 {α : Type} {l : List α} (i j : Nat) {p q : α} (h : l[i]? = some p) (h' : (l.eraseIdx i)[j]? = some q) : l.Perm ([p, q] ++ (l.eraseIdx i).eraseIdx j) :=
  (perm_pick i h).trans ((perm_pick j h').cons _)
theorem perm_pick1 {α : Type} {l : List α} (i : Nat) {p : α} (h : l[i]? = some p) : l.Perm ([p] ++ l.eraseIdx i) := perm_pick i h

section
variable {P : Program} {w0 : World} {O : List Nat} {n : Nat} {D : List Deferred} {o : Oper} {V : List (Nat × Value)} {L : List Ent} {T : List (Nat × Value) → List Ent → Prop}

/-- The entries M, as another call finds them. -/
theorem SL.restart {w : World} (h : SL w0 O w L) {M R : List Ent} (hL : L.Perm (M ++ R)) : SL w (M.flatMap Ent.blocks) w M := by
  have h' := h.perm hL
  refine SL.start w M (fun p hp => h'.ents p (List.mem_append_left _ hp)) ?_
  have := h'.nodup
  rw [List.flatMap_append] at this
  exact (List.nodup_append.1 this).1

/-- A callee that is handed the entries M. -/
theorem op_callP {f : Operand} {xs : Array Operand} {ts : Array TypeId} {k d : Nat} {cap : Array Value} {vs : List Value} {σ : Type} {val : σ → Value} {LL : σ → List Ent} {post : σ → Prop} (M R : List Ent)
    (ho : o.op = .call { callee := .value f, args := xs, argTypes := ts }) (hd : o.dst = some d) (hdn : Nat.blt d n = true) (hf : ev V f = some (.func (.func k) #[] cap)) (hx : evs V xs.toList = some vs)
    (ent : ∀ args w, (callFunc k args).run P w = .ok (.enter k args) w) (hL : L.Perm (M ++ R))
    (hc : ∀ w, SL w0 O w (M ++ R) → SL w (M.flatMap Ent.blocks) w M → Calls P k (vs.toArray ++ cap) w fun e w' => ∃ x, post x ∧ e = .returned (val x) ∧ SL w (M.flatMap Ent.blocks) w' (LL x))
    (hT : ∀ x, post x → T ((d, val x) :: V) (LL x ++ R)) : OpS P w0 O n D o V L T := by
  have h := op_call (P := P) (w0 := w0) (O := O) (n := n) (D := D) (o := o) (V := V) (L := M ++ R) (T := T) ho hd hdn hf hx ent rfl (fun w hw => hc w hw (hw.restart (List.Perm.refl _))) hT
  intro a w ha hw
  exact h a w ha (hw.perm hL)

/-- An entry known otherwise. -/
theorem RX.know1 {r : Option Nat} {ops : Array Oper} {Q : Exit → Act → World → Prop} {l : List Oper} (i : Nat) {p q : Ent} (hL : L[i]? = some p) (e : p = q) (h : RX P r ops Q w0 O n D l V (L.set i q)) : RX P r ops Q w0 O n D l V L := by
  subst e
  have : L.set i p = L := by
    obtain ⟨hi, h⟩ := List.getElem?_eq_some_iff.1 hL
    subst h; exact List.set_getElem_self hi
  rw [this] at h
  exact h

theorem SL.pick {w : World} (h : SL w0 O w L) {L' R : List Ent} (hL : L.Perm (L' ++ R)) : SL w0 O w L' := (h.perm hL).sub (List.sublist_append_left _ _)

theorem XX.meetP {σ : Type} {Vx : σ → List (Nat × Value)} {Lx : σ → List Ent} {I : σ → Prop} (R : List Ent) (x : σ) (hI : I x) (hV : Sub V (Vx x)) (hL : L.Perm (Lx x ++ R)) : XX (Met Vx Lx I w0 O n D) w0 O n D .normal V L :=
  fun a w ha hw => ⟨rfl, x, hI, ha.sub hV, hw.pick hL⟩
theorem XX.againP {Q : Exit → Act → World → Prop} {σ : Type} {Vx : σ → List (Nat × Value)} {Lx : σ → List Ent} {I : σ → Prop} {m : σ → Nat} {k : Nat} (R : List Ent) (x : σ) (hm : m x < k) (hI : I x) (hV : Sub V (Vx x)) (hL : L.Perm (Lx x ++ R)) :
    XX (Exit.then (Again Vx Lx I m w0 O n D k) Q) w0 O n D .normal V L :=
  fun a w ha hw => ⟨m x, hm, x, rfl, hI, ha.sub hV, hw.pick hL⟩
theorem CX.drawL {r : Option Nat} {Q : Exit → Act → World → Prop} {id : Nat} {l : List Oper} (th : Nat) (LS : List Ent) (tab : Tab) (hm : P.follows .mixedOrders = true) (ht : tabOf l.toArray = tab) (hs : Region.noSelect l.toArray = true) (h : DX P l.toArray tab Q w0 O n D th LS l.toArray.size 0 V L) : CX P r Q w0 O n D (.region id l.toArray true) V L := by
  intro a w ha hw
  refine wpIn_region_any hm ?_
  rw [← maskA_zero]
  exact wpAnyN.sound _ _ _ _ (h (Fits.start hs ht) a _ ha (hw.drew _))
theorem y_lookupE {t : TypeId} {m x : Operand} {g i : Nat} {f : Int → Option Value} {k : Int} {z v : Value} (ho : o.op = .lookup t m x false) (hm : ev V m = some (.map (some g))) (hx : ev V x = some (.int .i64 k)) (ht : MapT P t z) (hL : L[i]? = some (.imap g f)) (hv : (f k).getD z = v) :
    Yld P w0 O n D o V L v := hv ▸ y_lookup ho hm hx ht hL
end
end Go.Proofs.Ytpcfgoadkfajfaa
namespace Go.Proofs.Ytpcfgoadkfajfaa
set_option linter.all false
open Go Go.RowKit
section
variable {P : Program} {w : World}
theorem fieldsOf_of {t : TypeId} {fs : Array Field} (h : P.underlying t = some (.struct fs)) : P.fieldsOf t = fs := by simp [Program.fieldsOf, h]
theorem run_part_one {t : TypeId} {xs : Array Value} {off : Nat} {v : Value} (h : One P t) (hx : xs[off]? = some v) : (part t xs off).run P w = .ok v w := by
  obtain ⟨d, hd, h1⟩ := h
  have : (isAgg t).run P w = .ok false w := by
    simp only [isAgg, Sem.run_bind, run_underlying hd, Result.andThen_ok]
    cases d <;> simp [oneB] at h1 ⊢
  simp [part, Sem.run_bind, this, hx]
theorem eqF_nil {d : Nat} {xs ys : Array Value} : (Op.eqFields (d + 1) xs ys []).run P w = .ok true w := by simp [Op.eqFields]
theorem eqF_int {d : Nat} {xs ys : Array Value} {f : Field} {fs : List Field} {k k' : IntKind} {a b : Int} {r : Bool} (hn : (f.name == "_") = false) (ht : P.underlying f.type = some (.int k')) (hx : xs[f.offset]? = some (.int k a)) (hy : ys[f.offset]? = some (.int k b))
    (h : (Op.eqFields (d + 1) xs ys fs).run P w = .ok r w) : (Op.eqFields (d + 1) xs ys (f :: fs)).run P w = .ok (a == b && r) w := by
  have hn' : f.name ≠ "_" := by simpa using hn
  have h1 : One P f.type := ⟨_, ht, rfl⟩
  simp only [Op.eqFields, hn', ne_eq, not_false_eq_true, if_true, Sem.run_bind, run_part_one h1 hx, run_part_one h1 hy, Result.andThen_ok, run_equalIn_int w d f.type k k' a b ht]
  cases a == b <;> simp [h]
theorem eqF_str {d : Nat} {xs ys : Array Value} {f : Field} {fs : List Field} {a b : ByteArray} {r : Bool} (hn : (f.name == "_") = false) (ht : P.underlying f.type = some .string) (hx : xs[f.offset]? = some (.string a)) (hy : ys[f.offset]? = some (.string b))
    (h : (Op.eqFields (d + 1) xs ys fs).run P w = .ok r w) : (Op.eqFields (d + 1) xs ys (f :: fs)).run P w = .ok (a.toList == b.toList && r) w := by
  have hn' : f.name ≠ "_" := by simpa using hn
  have h1 : One P f.type := ⟨_, ht, rfl⟩
  simp only [Op.eqFields, hn', ne_eq, not_false_eq_true, if_true, Sem.run_bind, run_part_one h1 hx, run_part_one h1 hy, Result.andThen_ok, run_equalIn_string w d f.type a b ht]
  cases a.toList == b.toList <;> simp [h]
theorem equal_of {d : Nat} {t : TypeId} {xs ys : Array Value} {fs : Array Field} {r : Bool} (ht : P.underlying t = some (.struct fs)) (hp : P.stoodInHeld t = false) (h : (Op.eqFields d xs ys fs.toList).run P w = .ok r w) : (Op.equalIn (d + 1) t (.agg xs) (.agg ys)).run P w = .ok r w := by
  have e := fieldsOf_of ht
  rw [run_equalIn_agg w d t xs ys (by rw [e]; exact ht) hp, e]
  exact h
theorem y_lookupOkE {w0 : World} {O : List Nat} {n : Nat} {D : List Deferred} {o : Oper} {V : List (Nat × Value)} {L : List Ent} {t : TypeId} {m x : Operand} {g i : Nat} {f : Int → Option Value} {k : Int} {z v : Value} (ho : o.op = .lookup t m x true) (hm : ev V m = some (.map (some g))) (hx : ev V x = some (.int .i64 k)) (ht : MapT P t z) (hL : L[i]? = some (.imap g f)) (hf : f k = some v) :
    Yld P w0 O n D o V L (.tuple #[v, .bool true]) := by
  have := y_lookupOk (P := P) (w0 := w0) (O := O) (n := n) (D := D) ho hm hx ht hL
  rw [hf] at this
  exact this
theorem SL.cellOf {w0 : World} {O : List Nat} {L : List Ent} (hw : SL w0 O w L) {g i j : Nat} {cs : Array Value} {t : TypeId} {fr : Nat × Nat} {v : Value} (hL : L[i]? = some (.blk g (.cells cs t fr))) (hv : cs[j]? = some v) : w.cell? ⟨g, j, none⟩ = some v := by
  rw [cell_of_row w g j cs t fr (hw.ents _ (List.mem_of_getElem? hL))]; exact hv
end
theorem op_storeElemE {P : Program} {w0 : World} {O : List Nat} {n : Nat} {D : List Deferred} {o : Oper} {V : List (Nat × Value)} {L : List Ent} {T : List (Nat × Value) → List Ent → Prop} {t e : TypeId} {x y : Operand} {A : Option Addr} {cap sz k i : Nat} {v : Value} {xs ys : List (Array Value)} (ho : o.op = .store t x y) (hd : o.dst = none) (hx : ev V x = some (.pointer (some ⟨ab A, ao A + k * sz, none⟩))) (hy : ev V y = some v) (hs : SzT P t sz)
    (hv : v.cells.size = sz) (h1 : ∀ u ∈ v.cells.toList, u.oneCell' = true) (hL : L[i]? = some (.row A cap e sz xs)) (hk : k < xs.length) (hset : xs.set k v.cells = ys)
    (hT : T V (L.set i (.row A cap e sz ys))) : OpS P w0 O n D o V L T :=
  op_storeElem ho hd hx hy hs hv h1 hL hk (by rw [hset]; exact hT)
/-! ### Append, of elements under an encoding -/
section
variable {P : Program} {w0 : World} {O : List Nat} {n : Nat} {D : List Deferred} {o : Oper} {V : List (Nat × Value)} {L : List Ent} {T : List (Nat × Value) → List Ent → Prop}
theorem op_appendM {α : Type} (enc : α → Array Value) {x y : Operand} {t e : TypeId} {d sz bytes i j : Nat} {z : Value} {A B : Option Addr} {cap c capy m : Nat} {ey : TypeId} {xs : List α} (ys : List α) {yc : List (Array Value)}
    (ho : o.op = .call { callee := .builtin .append, args := #[x, y], argTypes := #[t, t] }) (hd : o.dst = some d) (hdn : Nat.blt d n = true) (ht : SlB P t e sz bytes z) (hx : ev V x = some (.slice A xs.length cap)) (hL : L[i]? = some (.row A cap e sz (xs.map enc)))
    (hy : ev V y = some (.slice B m c)) (hm : ys.length = m) (hLy : L[j]? = some (.row B capy ey sz yc)) (hyc : ys.map enc = yc) (h63 : xs.length + ys.length ≤ 9223372036854775807) (hby : (xs.length + ys.length) * bytes ≤ 140737488355328)
    (hT : ∀ A' cap', T ((d, .slice A' (xs ++ ys).length cap') :: V) (L.set i (.row A' cap' e sz ((xs ++ ys).map enc)))) : OpS P w0 O n D o V L T := by
  subst hyc
  subst hm
  have e1 : (xs.map enc).length = xs.length := List.length_map _
  have e2 : (xs.map enc ++ ys.map enc) = (xs ++ ys).map enc := List.map_append.symm
  refine op_append (xs := xs.map enc) (ys := ys.map enc) ho hd hdn ht (by rw [e1]; exact hx) hL hy (List.length_map _) hLy (by rw [e1]; exact h63) (by rw [e1]; exact hby) fun A' cap' => ?_
  rw [e2, List.length_map]
  exact hT A' cap'
theorem op_appendM0 {α : Type} (enc : α → Array Value) {x y : Operand} {t e : TypeId} {d sz bytes i : Nat} {z : Value} {A B : Option Addr} {cap c m : Nat} {xs : List α} (ys : List α)
    (ho : o.op = .call { callee := .builtin .append, args := #[x, y], argTypes := #[t, t] }) (hd : o.dst = some d) (hdn : Nat.blt d n = true) (ht : SlB P t e sz bytes z) (hx : ev V x = some (.slice A xs.length cap)) (hL : L[i]? = some (.row A cap e sz (xs.map enc)))
    (hy : ev V y = some (.slice B m c)) (hm : ys.length = m) (hr : Rd w0 B sz (ys.map enc)) (hO : ab B ∉ O) (h63 : xs.length + ys.length ≤ 9223372036854775807) (hby : (xs.length + ys.length) * bytes ≤ 140737488355328)
    (hT : ∀ A' cap', T ((d, .slice A' (xs ++ ys).length cap') :: V) (L.set i (.row A' cap' e sz ((xs ++ ys).map enc)))) : OpS P w0 O n D o V L T := by
  subst hm
  have e1 : (xs.map enc).length = xs.length := List.length_map _
  have e2 : (xs.map enc ++ ys.map enc) = (xs ++ ys).map enc := List.map_append.symm
  refine op_append0 (xs := xs.map enc) (ys := ys.map enc) ho hd hdn ht (by rw [e1]; exact hx) hL hy (List.length_map _) hr hO (by rw [e1]; exact h63) (by rw [e1]; exact hby) fun A' cap' => ?_
  rw [e2, List.length_map]
  exact hT A' cap'
theorem RX.rowNil {r : Option Nat} {ops : Array Oper} {Q : Exit → Act → World → Prop} {l : List Oper} (e : TypeId) (sz : Nat) (h : RX P r ops Q w0 O n D l V (.row none 0 e sz [] :: L)) : RX P r ops Q w0 O n D l V L :=
  fun a w ha hw => h a w ha (hw.rowNil e sz)
theorem Ent.some {w : World} {A : Option Addr} {cap : Nat} {e : TypeId} {sz : Nat} {xs : List (Array Value)} (h : (Ent.row A cap e sz xs).sat w) (hl : 0 < xs.length) : ∃ b j, A = Option.some ⟨b, j, none⟩ := by
  obtain ⟨⟨_, h2⟩, _⟩ := h
  rcases h2 with ⟨_, hn⟩ | ⟨g, _, _, hv, _⟩
  · omega
  · injection hv with hA _ _
    exact ⟨g, 0, hA⟩
/-- A slice's address, known ahead of a step. -/
theorem RX.rowSome {r : Option Nat} {ops : Array Oper} {Q : Exit → Act → World → Prop} {l : List Oper} (i : Nat) {A : Option Addr} {cap : Nat} {e : TypeId} {sz : Nat} {xs : List (Array Value)} (hL : L[i]? = Option.some (.row A cap e sz xs)) (hl : 0 < xs.length)
    (h : (∃ b j, A = Option.some ⟨b, j, none⟩) → RX P r ops Q w0 O n D l V L) : RX P r ops Q w0 O n D l V L :=
  fun a w ha hw => h (Ent.some (hw.ents _ (List.mem_of_getElem? hL)) hl) a w ha hw
theorem CX.rowSome {r : Option Nat} {Q : Exit → Act → World → Prop} {c : Code} (i : Nat) {A : Option Addr} {cap : Nat} {e : TypeId} {sz : Nat} {xs : List (Array Value)} (hL : L[i]? = Option.some (.row A cap e sz xs)) (hl : 0 < xs.length)
    (h : (∃ b j, A = Option.some ⟨b, j, none⟩) → CX P r Q w0 O n D c V L) : CX P r Q w0 O n D c V L :=
  fun a w ha hw => h (Ent.some (hw.ents _ (List.mem_of_getElem? hL)) hl) a w ha hw
end
end Go.Proofs.Ytpcfgoadkfajfaa
namespace Go.Proofs.Ytpcfgoadkfajfaa
set_option linter.all false
open Go Go.RowKit

section
variable {κ α : Type} [DecidableEq κ]
def kget (x : κ) : List (κ × α) → Option α
  | [] => none
  | p :: r => if x = p.1 then some p.2 else kget x r
def kset (x : κ) (v : α) : List (κ × α) → List (κ × α)
  | [] => [(x, v)]
  | p :: r => if x = p.1 then (x, v) :: r else p :: kset x v r
theorem kget_kset (x y : κ) (v : α) : ∀ l : List (κ × α), kget y (kset x v l) = if y = x then some v else kget y l
  | [] => rfl
  | p :: r => by
    unfold kset
    by_cases h : x = p.1
    · rw [if_pos h]
      show (if y = x then some v else kget y r) = _
      by_cases h2 : y = x
      · rw [if_pos h2, if_pos h2]
      · rw [if_neg h2, if_neg h2, kget, if_neg (by rw [← h]; exact h2)]
    · rw [if_neg h]
      show (if y = p.1 then some p.2 else kget y (kset x v r)) = _
      rw [kget_kset x y v r]
      by_cases h2 : y = x
      · subst h2; rw [if_neg h, if_pos rfl, if_pos rfl]
      · rw [if_neg h2, if_neg h2]; rfl
theorem kset_length (x : κ) (v : α) : ∀ l : List (κ × α), (kset x v l).length = if (kget x l).isSome then l.length else l.length + 1
  | [] => rfl
  | p :: r => by
    unfold kset kget
    by_cases h : x = p.1
    · simp [h]
    · simp only [if_neg h, List.length_cons, kset_length x v r]
      split <;> rfl
/-- Where a key lies. -/
def kfind (encV : α → Value) (x : κ) : List (κ × α) → Nat → Option (Nat × Value)
  | [], _ => none
  | p :: r, i => if x = p.1 then some (i, encV p.2) else kfind encV x r (i + 1)
theorem kfind_spec (encV : α → Value) (x : κ) : ∀ (l : List (κ × α)) (i : Nat), (kfind encV x l i = none ∧ kget x l = none) ∨ ∃ j v, kfind encV x l i = some (i + j, encV v) ∧ kget x l = some v ∧ l[j]? = some (x, v) ∧ ∀ u, kset x u l = l.modify j fun _ => (x, u)
  | [], i => .inl ⟨rfl, rfl⟩
  | p :: r, i => by
    unfold kfind kget
    by_cases h : x = p.1
    · refine .inr ⟨0, p.2, by rw [if_pos h]; rfl, by rw [if_pos h], by rw [h]; rfl, fun u => by unfold kset; rw [if_pos h]; rfl⟩
    · rw [if_neg h, if_neg h]
      rcases kfind_spec encV x r (i + 1) with h1 | ⟨j, v, h1, h2, h3, h4⟩
      · exact .inl h1
      · refine .inr ⟨j + 1, v, by rw [h1]; congr 2; omega, h2, by simpa using h3, fun u => by unfold kset; rw [if_neg h, h4]; rfl⟩
theorem kset_none {x : κ} {u : α} : ∀ {l : List (κ × α)}, kget x l = none → kset x u l = l ++ [(x, u)]
  | [], _ => rfl
  | p :: r, h => by
    unfold kget at h
    by_cases hx : x = p.1
    · rw [if_pos hx] at h; cases h
    · rw [if_neg hx] at h
      unfold kset; rw [if_neg hx, kset_none h]; rfl

/-- What the model asks of a key. -/
structure KeyOk (P : Program) (encK : κ → Value) (k : TypeId) : Prop where
  chk : ∀ (b : Bool) (x : κ) (w : World), (Instr.checkKey b 10000 k (encK x)).run P w = .ok () w
  eq : ∀ (x y : κ) (w : World), (Op.equal k (encK x) (encK y)).run P w = .ok (decide (x = y)) w
  now : ∃ d, P.underlying k = some d ∧ ∀ x y, Instr.sameNow d (encK x) (encK y) = none ∨ Instr.sameNow d (encK x) (encK y) = some (decide (x = y))
  stays : ∀ (x : κ) (w : World), (Instr.keyThatStays (encK x) (encK x)).run P w = .ok (encK x) w
variable {P : Program} {encK : κ → Value} {encV : α → Value} {k : TypeId}
/-- The entries of a map are those of a list. -/
def Ents (encK : κ → Value) (encV : α → Value) (l : List MapEntry) (kv : List (κ × α)) : Prop := l.map (fun e => (e.key, e.val)) = kv.map fun p => (encK p.1, encV p.2)
theorem findNow_or (d : TypeDesc) (hd : ∀ x y : κ, Instr.sameNow d (encK x) (encK y) = none ∨ Instr.sameNow d (encK x) (encK y) = some (decide (x = y))) (x : κ) : ∀ (l : List MapEntry) (kv : List (κ × α)) (i : Nat), Ents encK encV l kv →
    Instr.findNow d (encK x) l i = none ∨ Instr.findNow d (encK x) l i = some (kfind encV x kv i)
  | [], [], i, _ => .inr rfl
  | [], p :: r, i, h => by simp [Ents] at h
  | e :: l, [], i, h => by simp [Ents] at h
  | e :: l, p :: r, i, h => by
    simp only [Ents, List.map_cons, List.cons.injEq, Prod.mk.injEq] at h
    obtain ⟨⟨h1, h2⟩, h3⟩ := h
    unfold Instr.findNow kfind
    rw [h1]
    rcases hd x p.1 with h4 | h4
    · rw [h4]; exact .inl rfl
    · rw [h4]
      by_cases hx : x = p.1
      · rw [decide_eq_true hx, if_pos hx, h2]; exact .inr rfl
      · rw [decide_eq_false hx, if_neg hx]; exact findNow_or d hd x l r (i + 1) h3
theorem findAsking_is (hk : KeyOk P encK k) (x : κ) (w : World) : ∀ (l : List MapEntry) (kv : List (κ × α)) (i : Nat), Ents encK encV l kv → (Instr.findAsking k (encK x) l i).run P w = .ok (kfind encV x kv i) w
  | [], [], i, _ => rfl
  | [], p :: r, i, h => by simp [Ents] at h
  | e :: l, [], i, h => by simp [Ents] at h
  | e :: l, p :: r, i, h => by
    simp only [Ents, List.map_cons, List.cons.injEq, Prod.mk.injEq] at h
    obtain ⟨⟨h1, h2⟩, h3⟩ := h
    unfold Instr.findAsking kfind
    rw [h1]
    by_cases hx : x = p.1
    · simp [hk.eq, Result.andThen, hx, h2]
    · simp [hk.eq, Result.andThen, hx, findAsking_is hk x w l r (i + 1) h3]
theorem findKey_is (hk : KeyOk P encK k) (x : κ) (w : World) {l : List MapEntry} {kv : List (κ × α)} (h : Ents encK encV l kv) : (Instr.findKey k (encK x) l).run P w = .ok (kfind encV x kv 0) w := by
  obtain ⟨d, hd, hn⟩ := hk.now
  unfold Instr.findKey
  rcases findNow_or d hn x l kv 0 h with h1 | h1
  · simp [run_underlying hd, Result.andThen, h1, findAsking_is hk x w l kv 0 h]
  · simp [run_underlying hd, Result.andThen, h1]

/-- A map's type: its key's and its element's. -/
def KMapT (P : Program) (encK : κ → Value) (t : TypeId) (z : Value) : Prop := ∃ k e i, P.underlying t = some (.map k e) ∧ KeyOk P encK k ∧ P.info? e = some i ∧ i.zero = some z
/-- Each entry has a stamp of its own, of an earlier time. -/
def Births (l : List MapEntry) (clock : Nat) : Prop := (l.map (·.born)).Nodup ∧ ∀ e ∈ l, e.born < clock
theorem Births.push {l : List MapEntry} {clock : Nat} (h : Births l clock) {e : MapEntry} (he : e.born = clock) : Births (l ++ [e]) (clock + 1) := by
  refine ⟨?_, fun x hx => ?_⟩
  · rw [List.map_append, List.nodup_append]
    refine ⟨h.1, by simp, fun a ha b hb e2 => ?_⟩
    obtain ⟨x, hx, rfl⟩ := List.mem_map.1 ha
    have := h.2 x hx
    rw [List.map_singleton, List.mem_singleton] at hb
    omega
  · rcases List.mem_append.1 hx with hx | hx
    · have := h.2 x hx; omega
    · rw [List.mem_singleton.1 hx]; omega
theorem modify_map {α β : Type} {f : α → α} {g : α → β} (h : ∀ a, g (f a) = g a) (l : List α) (j : Nat) : (l.modify j f).map g = l.map g := by
  apply List.ext_getElem?
  intro m
  simp only [List.getElem?_map, List.getElem?_modify]
  split <;> cases l[m]? <;> simp [h]
theorem Births.modify {l : List MapEntry} {clock : Nat} (h : Births l clock) {f : MapEntry → MapEntry} (hf : ∀ e, (f e).born = e.born) (j : Nat) : Births (l.modify j f) clock := by
  have h1 : (l.modify j f).map (·.born) = l.map (·.born) := modify_map (g := fun e : MapEntry => e.born) hf l j
  refine ⟨by rw [h1]; exact h.1, fun e he => ?_⟩
  have : e.born ∈ (l.modify j f).map (·.born) := List.mem_map.2 ⟨e, he, rfl⟩
  rw [h1] at this
  obtain ⟨x, hx, e2⟩ := List.mem_map.1 this
  have := h.2 x hx
  have e3 : x.born = e.born := e2
  omega
def KAt (encK : κ → Value) (encV : α → Value) (w : World) (g : Nat) (kv : List (κ × α)) : Prop := ∃ es clock, w.heap[g]? = some (.map es clock) ∧ Ents encK encV es.toList kv ∧ Births es.toList clock
/-- A map as an entry of the heap. -/
def kmap (encK : κ → Value) (encV : α → Value) (g : Nat) (kv : List (κ × α)) : Ent :=
  .gen [g] (fun w => KAt encK encV w g kv) (fun w ⟨_, _, h, _⟩ b hb => by obtain rfl := List.mem_singleton.1 hb; exact (Array.getElem?_eq_some_iff.1 h).1) (fun w w' ⟨es, c, h, h2⟩ hk => ⟨es, c, by rw [hk g (List.mem_singleton.2 rfl)]; exact h, h2⟩)

theorem run_klookup {w : World} {t : TypeId} {z : Value} {g : Nat} {kv : List (κ × α)} (ht : KMapT P encK t z) (h : KAt encK encV w g kv) (x : κ) (b : Bool) :
    (Instr.lookup t (.map (some g)) (encK x) b).run P w = .ok (if b then .tuple #[((kget x kv).map encV).getD z, .bool (kget x kv).isSome] else ((kget x kv).map encV).getD z) w := by
  obtain ⟨kt, et, i, h1, h2, h3, h4⟩ := ht
  obtain ⟨es, clock, hg, hk, hbi⟩ := h
  have hz : (zeroValue et).run P w = .ok z w := by simp [zeroValue, typeInfo, h3, h4]
  rcases kfind_spec encV x kv 0 with ⟨h5, h6⟩ | ⟨j, v, h5, h6, _, _⟩
  · cases b <;> simp [Instr.lookup, run_underlying h1, MapKept.run_getObj_map hg, h2.chk, findKey_is h2 x w hk, h5, hz, Result.andThen, h6]
  · cases b <;> simp [Instr.lookup, run_underlying h1, MapKept.run_getObj_map hg, h2.chk, findKey_is h2 x w hk, h5, hz, Result.andThen, h6]
theorem run_kupdate {w : World} {t : TypeId} {z : Value} {g : Nat} {kv : List (κ × α)} (ht : KMapT P encK t z) (h : KAt encK encV w g kv) (x : κ) (u : α) :
    ∃ es' clock', (Instr.mapUpdate t (.map (some g)) (encK x) (encV u)).run P w = .ok () { w with heap := w.heap.setIfInBounds g (.map es' clock') } ∧ Ents encK encV es'.toList (kset x u kv) ∧ Births es'.toList clock' := by
  obtain ⟨kt, et, i, h1, h2, h3, h4⟩ := ht
  obtain ⟨es, clock, hg, hk, hbi⟩ := h
  rcases kfind_spec encV x kv 0 with ⟨h5, h6⟩ | ⟨j, v, h5, h6, h7, h8⟩
  · refine ⟨es.push { key := encK x, val := encV u, born := clock }, clock + 1, ?_, ?_, by rw [Array.toList_push]; exact hbi.push rfl⟩
    · simp [Instr.mapUpdate, run_underlying h1, MapKept.run_getObj_map hg, h2.chk, findKey_is h2 x w hk, h5, MapKept.run_setObj_map _ hg, Result.andThen]
    · rw [Ents, Array.toList_push, List.map_append, hk, kset_none h6, List.map_append]; rfl
  · have hj : ∃ e, es[j]? = some e ∧ e.key = encK x := by
      have h9 := congrArg (·[j]?) hk
      simp only [List.getElem?_map, h7, Option.map_some] at h9
      cases he : es.toList[j]? with
      | none => rw [he] at h9; cases h9
      | some e =>
        rw [he, Option.map_some, Option.some.injEq, Prod.mk.injEq] at h9
        exact ⟨e, by simpa using he, h9.1⟩
    obtain ⟨e, he, hek⟩ := hj
    refine ⟨es.modify j fun e => { e with key := encK x, val := encV u }, clock, ?_, ?_, by rw [Array.toList_modify]; exact hbi.modify (f := fun e => { e with key := encK x, val := encV u }) (fun _ => rfl) j⟩
    · simp only [Nat.zero_add] at h5
      simp [Instr.mapUpdate, run_underlying h1, MapKept.run_getObj_map hg, h2.chk, findKey_is h2 x w hk, h5, he, hek, h2.stays, MapKept.run_setObj_map _ hg, Result.andThen]
    · rw [Ents, Array.toList_modify, h8]
      apply List.ext_getElem?
      intro m
      have h9 := congrArg (·[m]?) hk
      simp only [List.getElem?_map] at h9
      simp only [List.getElem?_map, List.getElem?_modify]
      by_cases hm : j = m
      · subst hm
        simp only [if_pos]
        cases hq : es.toList[j]? <;> cases hq2 : kv[j]? <;> simp_all
      · simp only [if_neg hm, Option.map_id', id_eq]
        simpa using h9
end
end Go.Proofs.Ytpcfgoadkfajfaa
namespace Go.Proofs.Ytpcfgoadkfajfaa
set_option linter.all false
open Go Go.RowKit

section
variable {P : Program} {w0 : World} {O : List Nat} {n : Nat} {D : List Deferred} {o : Oper} {V : List (Nat × Value)} {L : List Ent} {T : List (Nat × Value) → List Ent → Prop} {κ α : Type} [DecidableEq κ] {encK : κ → Value} {encV : α → Value}

theorem y_klookup {t : TypeId} {m x : Operand} {g i : Nat} {kv : List (κ × α)} {k : κ} {z : Value} (ho : o.op = .lookup t m x false) (hm : ev V m = some (.map (some g))) (hx : ev V x = some (encK k)) (ht : KMapT P encK t z) (hL : L[i]? = some (kmap encK encV g kv)) :
    Yld P w0 O n D o V L (((kget k kv).map encV).getD z) := by
  intro a w ha hw
  have h := run_klookup (P := P) ht (hw.ents _ (List.mem_of_getElem? hL)) k false
  simp [execOp, ho, ha.eval hm, ha.eval hx, h]
theorem y_klookupOk {t : TypeId} {m x : Operand} {g i : Nat} {kv : List (κ × α)} {k : κ} {z : Value} (ho : o.op = .lookup t m x true) (hm : ev V m = some (.map (some g))) (hx : ev V x = some (encK k)) (ht : KMapT P encK t z) (hL : L[i]? = some (kmap encK encV g kv)) :
    Yld P w0 O n D o V L (.tuple #[((kget k kv).map encV).getD z, .bool (kget k kv).isSome]) := by
  intro a w ha hw
  have h := run_klookup (P := P) ht (hw.ents _ (List.mem_of_getElem? hL)) k true
  simp [execOp, ho, ha.eval hm, ha.eval hx, h]
theorem setK_SL {w : World} (hw : SL w0 O w L) {i g : Nat} {kv kv' : List (κ × α)} (hL : L[i]? = some (kmap encK encV g kv)) {es' : Array MapEntry} {clock' : Nat} (h1 : Ents encK encV es'.toList kv' ∧ Births es'.toList clock') :
    SL w0 O { w with heap := w.heap.setIfInBounds g (.map es' clock') } (L.set i (kmap encK encV g kv')) := by
  obtain ⟨es, clock, hg, _⟩ : KAt encK encV w g kv := hw.ents _ (List.mem_of_getElem? hL)
  exact hw.setI hL rfl rfl rfl (by simp) (show KAt encK encV _ g kv' from ⟨es', clock', (MapKept.heap_set hg).1, h1⟩) (by simp [Ent.blocks, kmap]) (fun b hb => .inl (by simpa [Ent.blocks, kmap] using hb)) (fun k _ hkb => (MapKept.heap_set hg).2 k (by simpa [Ent.blocks, kmap] using hkb))
theorem op_kupdate {t : TypeId} {m x y : Operand} {g i : Nat} {kv : List (κ × α)} {k : κ} {u : α} {z : Value} (ho : o.op = .mapUpdate t m x y ∨ o.op = .insert t m x y) (hd : o.dst = none) (hm : ev V m = some (.map (some g))) (hx : ev V x = some (encK k)) (hy : ev V y = some (encV u))
    (ht : KMapT P encK t z) (hL : L[i]? = some (kmap encK encV g kv)) (hT : T V (L.set i (kmap encK encV g (kset k u kv)))) : OpS P w0 O n D o V L T := by
  intro a w ha hw
  obtain ⟨es', clock', h1, h2⟩ := run_kupdate (P := P) ht (hw.ents _ (List.mem_of_getElem? hL)) k u
  have hr : (execOp a.eval o).run P w = .ok .skip { w with heap := w.heap.setIfInBounds g (.map es' clock') } := by
    rcases ho with ho | ho <;> simp [execOp, ho, ha.eval hm, ha.eval hx, ha.eval hy, h1]
  unfold Does
  rw [hr, hd]
  exact ⟨_, _, hT, ha, setK_SL hw hL h2⟩
theorem op_kmake {t : TypeId} {d : Nat} (encK : κ → Value) (encV : α → Value) (ho : o.op = .makeMap t none) (hd : o.dst = some d) (hdn : Nat.blt d n = true)
    (hT : ∀ g, T ((d, .map (some g)) :: V) (kmap encK encV g [] :: L)) : OpS P w0 O n D o V L T := by
  intro a w ha hw
  have hr : (execOp a.eval o).run P w = .ok (.value (.map (some w.heap.size))) (w.alloc (.map #[] 0)) := by
    simp [execOp, ho, Instr.makeMap]
  have h1 := hw.alloc (.map #[] 0)
  have h2 : SL w0 O (w.alloc (.map #[] 0)) (kmap encK encV w.heap.size [] :: L) := by
    refine ⟨h1.os, h1.tape, h1.output, h1.size, h1.same, ?_, h1.nodup, ?_⟩
    · intro p hp
      rcases List.mem_cons.1 hp with rfl | hp
      · exact ⟨#[], 0, h1.ents _ List.mem_cons_self, rfl, by simp [Births]⟩
      · exact h1.ents p (List.mem_cons_of_mem _ hp)
    · intro p hp
      rcases List.mem_cons.1 hp with rfl | hp
      · exact h1.own (.blk w.heap.size (.map #[] 0)) List.mem_cons_self
      · exact h1.own p (List.mem_cons_of_mem _ hp)
  unfold Does
  rw [hr, hd]
  exact ⟨_, _, hT _, ha.put hdn _, h2⟩
theorem ents_len {l : List MapEntry} {kv : List (κ × α)} (h : Ents encK encV l kv) : l.length = kv.length := by
  have := congrArg List.length h; simpa using this
theorem y_klen {t k e : TypeId} {x : Operand} {g i : Nat} {kv : List (κ × α)} (ho : o.op = .call { callee := .builtin .len, args := #[x], argTypes := #[t] }) (ht : P.underlying t = some (.map k e)) (hx : ev V x = some (.map (some g))) (hL : L[i]? = some (kmap encK encV g kv)) :
    Yld P w0 O n D o V L (.int .i64 ((kv.length : Nat) : Int)) := by
  intro a w ha hw
  obtain ⟨es, clock, hg, hk, _⟩ : KAt encK encV w g kv := hw.ents _ (List.mem_of_getElem? hL)
  have h1 := ents_len hk
  have h2 : es.size = kv.length := by simpa using h1
  simp [execOp, ho, resolve, invoke, builtin, ha.eval hx, Builtin.len_, run_underlying ht, MapKept.run_getObj_map hg, Result.andThen, goInt, h2]
end

section
variable {P : Program} {k : TypeId}
theorem keyOk_int (hk : P.underlying k = some (.int .i64)) : KeyOk P (fun x : Int => Value.int .i64 x) k where
  chk := fun b x w => MapKept.run_checkKey hk (isKey_int x) b 9999
  eq := fun x y w => by
    have := run_equalIn_int w 9999 k .i64 .i64 x y hk
    rw [show (x == y) = decide (x = y) from rfl] at this
    exact this
  now := ⟨_, hk, fun x y => .inr (by simp [Instr.sameNow]; rfl)⟩
  stays := fun x w => MapKept.run_keyThatStays (isKey_int x)
theorem chk2 {f0 f1 : Field} (ht : P.underlying k = some (.struct #[f0, f1])) (n0 : f0.name ≠ "_") (n1 : f1.name ≠ "_") {d0 d1 : TypeDesc} (h0 : P.underlying f0.type = some d0) (h1 : P.underlying f1.type = some d1) {v0 v1 : Value} (k0 : MapKept.IsKey d0 v0) (k1 : MapKept.IsKey d1 v1) (o0 : One P f0.type) (o1 : One P f1.type)
    {xs : Array Value} (x0 : xs[f0.offset]? = some v0) (x1 : xs[f1.offset]? = some v1) (b : Bool) (w : World) : (Instr.checkKey b 10000 k (.agg xs)).run P w = .ok () w := by
  show (Instr.checkKey b (9998 + 1 + 1) k (.agg xs)).run P w = _
  rw [Instr.checkKey]
  simp [run_underlying ht, Result.andThen, n0, n1, run_part_one o0 x0, run_part_one o1 x1, MapKept.run_checkKey h0 k0, MapKept.run_checkKey h1 k1]
theorem stays2 {v0 v1 : Value} {d0 d1 : TypeDesc} (k0 : MapKept.IsKey d0 v0) (k1 : MapKept.IsKey d1 v1) (w : World) : (Instr.keyThatStays (.agg #[v0, v1]) (.agg #[v0, v1])).run P w = .ok (.agg #[v0, v1]) w := by
  have hs : Instr.sameBits 10000 (.agg #[v0, v1]) (.agg #[v0, v1]) = true := by
    show Instr.sameBits (9999 + 1) _ _ = true
    simp [Instr.sameBits, MapKept.sameBits_self k0, MapKept.sameBits_self k1]
  simp [Instr.keyThatStays, hs]
theorem eqF_bool {w : World} {d : Nat} {xs ys : Array Value} {f : Field} {fs : List Field} {a b : Bool} {r : Bool} (hn : (f.name == "_") = false) (ht : P.underlying f.type = some .bool) (hx : xs[f.offset]? = some (.bool a)) (hy : ys[f.offset]? = some (.bool b))
    (h : (Op.eqFields (d + 1) xs ys fs).run P w = .ok r w) : (Op.eqFields (d + 1) xs ys (f :: fs)).run P w = .ok (a == b && r) w := by
  have hn' : f.name ≠ "_" := by simpa using hn
  have h1 : One P f.type := ⟨_, ht, rfl⟩
  simp only [Op.eqFields, hn', ne_eq, not_false_eq_true, if_true, Sem.run_bind, run_part_one h1 hx, run_part_one h1 hy, Result.andThen_ok, run_equalIn_bool' w d f.type a b ht]
  cases a == b <;> simp [h]
/-- Two integers as a key. -/
def key2 (x : Int × Int) : Value := .agg #[.int .i64 x.1, .int .i64 x.2]
theorem keyOk_two {f0 f1 : Field} (ht : P.underlying k = some (.struct #[f0, f1])) (hp : P.stoodInHeld k = false) (n0 : (f0.name == "_") = false) (n1 : (f1.name == "_") = false) (h0 : P.underlying f0.type = some (.int .i64)) (h1 : P.underlying f1.type = some (.int .i64)) (z0 : f0.offset = 0) (z1 : f1.offset = 1) : KeyOk P key2 k where
  chk := fun b x w => chk2 ht (by simpa using n0) (by simpa using n1) h0 h1 (isKey_int x.1) (isKey_int x.2) ⟨_, h0, rfl⟩ ⟨_, h1, rfl⟩ (by rw [z0]; rfl) (by rw [z1]; rfl) b w
  eq := fun x y w => by
    have := equal_of (d := 9999) ht hp (eqF_int (d := 9998) (xs := #[.int .i64 x.1, .int .i64 x.2]) (ys := #[.int .i64 y.1, .int .i64 y.2]) (w := w) n0 h0 (by rw [z0]; rfl) (by rw [z0]; rfl) (eqF_int n1 h1 (by rw [z1]; rfl) (by rw [z1]; rfl) eqF_nil))
    rw [show (x.1 == y.1 && (x.2 == y.2 && true)) = decide (x = y) from by rw [Bool.and_true, Bool.eq_iff_iff]; simp [Prod.ext_iff]] at this
    exact this
  now := ⟨_, ht, fun x y => .inl rfl⟩
  stays := fun x w => stays2 (isKey_int x.1) (isKey_int x.2) w
/-- A bool and an integer as a key. -/
def keyB (x : Bool × Int) : Value := .agg #[.bool x.1, .int .i64 x.2]
theorem isKey_bool (b : Bool) : MapKept.IsKey .bool (.bool b) := by simp [MapKept.IsKey]
theorem keyOk_boolInt {f0 f1 : Field} (ht : P.underlying k = some (.struct #[f0, f1])) (hp : P.stoodInHeld k = false) (n0 : (f0.name == "_") = false) (n1 : (f1.name == "_") = false) (h0 : P.underlying f0.type = some .bool) (h1 : P.underlying f1.type = some (.int .i64)) (z0 : f0.offset = 0) (z1 : f1.offset = 1) : KeyOk P keyB k where
  chk := fun b x w => chk2 ht (by simpa using n0) (by simpa using n1) h0 h1 (isKey_bool x.1) (isKey_int x.2) ⟨_, h0, rfl⟩ ⟨_, h1, rfl⟩ (by rw [z0]; rfl) (by rw [z1]; rfl) b w
  eq := fun x y w => by
    have := equal_of (d := 9999) ht hp (eqF_bool (d := 9998) (xs := #[.bool x.1, .int .i64 x.2]) (ys := #[.bool y.1, .int .i64 y.2]) (w := w) n0 h0 (by rw [z0]; rfl) (by rw [z0]; rfl) (eqF_int n1 h1 (by rw [z1]; rfl) (by rw [z1]; rfl) eqF_nil))
    rw [show (x.1 == y.1 && (x.2 == y.2 && true)) = decide (x = y) from by rw [Bool.and_true, Bool.eq_iff_iff]; simp [Prod.ext_iff]] at this
    exact this
  now := ⟨_, ht, fun x y => .inl rfl⟩
  stays := fun x w => stays2 (isKey_bool x.1) (isKey_int x.2) w
end
end Go.Proofs.Ytpcfgoadkfajfaa
namespace Go.Proofs.Ytpcfgoadkfajfaa
set_option linter.all false
/-- An account (false), or a device (true). -/
abbrev Nd := Bool × Int
/-- R is what the parents p represent; the rank falls from a node to its parent. -/
structure Forest (p : List (Nd × Nd)) (R : Nd → Nd) (rk : Nd → Nat) : Prop where
  dec : ∀ x y, kget x p = some y → rk y < rk x ∧ R x = R y
  top : ∀ x, kget x p = none → R x = x
  fix : ∀ x, kget (R x) p = none
variable {p : List (Nd × Nd)} {R : Nd → Nd} {rk : Nd → Nat}
theorem Forest.nil : Forest [] id fun _ => 0 := ⟨fun _ _ h => (by simp [kget] at h), fun _ _ => rfl, fun _ => rfl⟩
theorem Forest.idem (h : Forest p R rk) (x : Nd) : R (R x) = R x := h.top _ (h.fix x)
theorem Forest.le (h : Forest p R rk) : ∀ (n : Nat) (x : Nd), rk x ≤ n → rk (R x) ≤ rk x
  | n, x, hn => by
    cases hx : kget x p with
    | none => rw [h.top x hx]; exact Nat.le_refl _
    | some y =>
      obtain ⟨h1, h2⟩ := h.dec x y hx
      cases n with
      | zero => omega
      | succ n => rw [h2]; have := Forest.le h n y (by omega); omega
theorem Forest.lt (h : Forest p R rk) {x y : Nd} (hx : kget x p = some y) : rk (R x) < rk x := by
  obtain ⟨h1, h2⟩ := h.dec x y hx
  rw [h2]; have := h.le _ y (Nat.le_refl _); omega
/-- A path that is shortened. -/
theorem Forest.short (h : Forest p R rk) {x : Nd} (hlt : rk (R x) < rk x) : Forest (kset x (R x) p) R rk := by
  refine ⟨fun y z hy => ?_, fun y hy => ?_, fun z => ?_⟩
  · rw [kget_kset] at hy
    by_cases hyx : y = x
    · rw [if_pos hyx] at hy
      obtain rfl := Option.some.inj hy
      subst hyx
      exact ⟨hlt, (h.idem _).symm⟩
    · rw [if_neg hyx] at hy; exact h.dec y z hy
  · rw [kget_kset] at hy
    by_cases hyx : y = x
    · rw [if_pos hyx] at hy; cases hy
    · rw [if_neg hyx] at hy; exact h.top y hy
  · rw [kget_kset, if_neg, h.fix z]
    intro e
    have h1 : R x = x := by rw [← e, h.idem z]
    rw [h1] at hlt; omega
/-- What two joined nodes make of the representatives. -/
def joinR (R : Nd → Nd) (a b : Nd) : Nd → Nd := fun y => if R y = R a then R b else R y
theorem joinR_same {a b : Nd} (h : R a = R b) : joinR R a b = R := by
  funext y; unfold joinR; split
  · rename_i h1; rw [h1, h]
  · rfl
theorem Forest.join (h : Forest p R rk) {a b : Nd} (hne : R a ≠ R b) : Forest (kset (R a) (R b) p) (joinR R a b) (fun y => if R y = R a then rk y + rk (R b) + 1 else rk y) := by
  have ha := h.idem a
  have hb := h.idem b
  refine ⟨fun y z hy => ?_, fun y hy => ?_, fun z => ?_⟩
  · rw [kget_kset] at hy
    by_cases hya : y = R a
    · rw [if_pos hya] at hy
      obtain rfl := Option.some.inj hy
      subst hya
      refine ⟨?_, ?_⟩
      · show (if R (R b) = R a then _ else rk (R b)) < (if R (R a) = R a then _ else _)
        rw [hb, if_neg (fun e => hne e.symm), if_pos ha]; omega
      · unfold joinR; rw [if_pos ha, hb, if_neg (fun e => hne e.symm)]
    · rw [if_neg hya] at hy
      obtain ⟨h1, h2⟩ := h.dec y z hy
      refine ⟨?_, ?_⟩
      · show (if R z = R a then _ else _) < (if R y = R a then _ else _)
        rw [h2]; split <;> omega
      · unfold joinR; rw [h2]
  · rw [kget_kset] at hy
    by_cases hya : y = R a
    · rw [if_pos hya] at hy; cases hy
    · rw [if_neg hya] at hy
      unfold joinR
      rw [h.top y hy, if_neg hya]
  · rw [kget_kset]
    unfold joinR
    by_cases hz : R z = R a
    · rw [if_pos hz, if_neg (fun e => hne e.symm)]; exact h.fix b
    · rw [if_neg hz, if_neg hz]; exact h.fix z
/-- What the edges of a graph represent. -/
def rep (E : List (Int × Int)) : Nd → Nd := E.foldl (fun R e => joinR R (false, e.1) (true, e.2)) id
theorem rep_snoc (E : List (Int × Int)) (e : Int × Int) : rep (E ++ [e]) = joinR (rep E) (false, e.1) (true, e.2) := by simp [rep]
/-- Joined by the edges: the least relation that joins each edge's ends. -/
inductive Conn (E : List (Int × Int)) : Nd → Nd → Prop where
  | refl (x : Nd) : Conn E x x
  | edge {e : Int × Int} (h : e ∈ E) : Conn E (false, e.1) (true, e.2)
  | symm {x y : Nd} (h : Conn E x y) : Conn E y x
  | trans {x y z : Nd} (h : Conn E x y) (h2 : Conn E y z) : Conn E x z
theorem Conn.mono {E F : List (Int × Int)} (hs : ∀ e ∈ E, e ∈ F) {x y : Nd} (h : Conn E x y) : Conn F x y := by
  induction h with
  | refl x => exact .refl x
  | edge h => exact .edge (hs _ h)
  | symm _ ih => exact ih.symm
  | trans _ _ i1 i2 => exact i1.trans i2
theorem rep_conn : ∀ (n : Nat) (E : List (Int × Int)), E.length = n → (∀ x, Conn E x (rep E x)) ∧ (∀ x y, Conn E x y → rep E x = rep E y) := by
  intro n
  induction n with
  | zero =>
    intro E hE
    obtain rfl := List.eq_nil_of_length_eq_zero hE
    refine ⟨fun x => .refl x, fun x y h => ?_⟩
    have : ∀ x y, Conn [] x y → x = y := fun x y h => by
      induction h with
      | refl => rfl
      | edge h => cases h
      | symm _ ih => exact ih.symm
      | trans _ _ i1 i2 => exact i1.trans i2
    rw [this x y h]
  | succ n ih =>
    intro E hE
    obtain ⟨F, e, rfl⟩ : ∃ F e, E = F ++ [e] := ⟨E.dropLast, E.getLast (by intro h; simp [h] at hE), (List.dropLast_concat_getLast _).symm⟩
    obtain ⟨h1, h2⟩ := ih F (by simpa using hE)
    have hm : ∀ {x y}, Conn F x y → Conn (F ++ [e]) x y := fun h => h.mono fun a ha => List.mem_append_left _ ha
    have he : Conn (F ++ [e]) (false, e.1) (true, e.2) := .edge (List.mem_append_right _ (List.mem_singleton.2 rfl))
    rw [rep_snoc]
    refine ⟨fun x => ?_, fun x y h => ?_⟩
    · unfold joinR
      split
      · rename_i hx
        have a1 : Conn (F ++ [e]) x (rep F (false, e.1)) := by rw [← hx]; exact hm (h1 x)
        exact (a1.trans ((hm (h1 _)).symm)).trans (he.trans (hm (h1 _)))
      · exact hm (h1 x)
    · induction h with
      | refl => rfl
      | @edge d hd =>
        rcases List.mem_append.1 hd with hd | hd
        · have := h2 _ _ (.edge hd)
          unfold joinR; rw [this]
        · obtain rfl := List.mem_singleton.1 hd
          unfold joinR
          rw [if_pos rfl]
          split <;> rfl
      | symm _ ih => exact ih.symm
      | trans _ _ i1 i2 => exact i1.trans i2
theorem rep_eq {E : List (Int × Int)} {x y : Nd} : rep E x = rep E y ↔ Conn E x y := by
  obtain ⟨h1, h2⟩ := rep_conn _ E rfl
  refine ⟨fun h => ?_, h2 x y⟩
  have := h1 y
  rw [← h] at this
  exact (h1 x).trans this.symm
end Go.Proofs.Ytpcfgoadkfajfaa
namespace Go.Proofs.Ytpcfgoadkfajfaa
set_option linter.all false
open Go Go.RowKit
section
variable {P : Program} {w0 : World} {O : List Nat} {n : Nat} {D : List Deferred} {o : Oper} {V : List (Nat × Value)} {L : List Ent}
def bytesOf (ns : List Int) : ByteArray := ns.foldl (fun r n => r.push (UInt8.ofNat n.toNat)) ByteArray.empty
theorem y_bytesStr {s d e : TypeId} {x : Operand} {A : Option Addr} {cap i len c : Nat} {ey : TypeId} {xs : List (Array Value)} (ns : List Int) (ho : o.op = .convert s d x) (hx : ev V x = some (.slice A len c)) (hs : P.underlying s = some (.slice e)) (he : P.underlying e = some (.int .u8)) (hd : P.underlying d = some .string)
    (hL : L[i]? = some (.row A cap ey 1 xs)) (hxs : xs = ns.map fun n => #[.int .u8 n]) (hlen : ns.length = len) (hpos : 0 < len) : Yld P w0 O n D o V L (.string (bytesOf ns)) := by
  intro a w ha hw
  subst hxs
  subst hlen
  have hr := Ent.rd (hw.ents _ (List.mem_of_getElem? hL))
  obtain ⟨b, j, rfl⟩ := hr.some (k := 0) (by simpa using hpos)
  have hl := run_loadCells_list (P := P) (w := w) ⟨b, j, none⟩ (ns.map (Value.int .u8)) (fun k v hv => by
    rw [List.getElem?_map] at hv
    cases hk : ns[k]? with
    | none => rw [hk] at hv; simp at hv
    | some m =>
      rw [hk] at hv
      simp at hv
      subst hv
      obtain ⟨_, _, _, _, hc⟩ := hr.at_ k #[.int .u8 m] (by rw [List.getElem?_map, hk]; rfl)
      have := hc 0 (by decide)
      rw [add_none]
      simpa [ab, ao] using this)
  rw [List.length_map] at hl
  have h2 := run_bytesToString (P := P) w ⟨b, j, none⟩ ns.length c ns hl
  have h3 := run_convert_bytes_string (P := P) w s d e (some ⟨b, j, none⟩) ns.length c hs he hd
  simp only [execOp, ho, ha.eval hx, Sem.run_bind, h3, h2, Result.andThen_ok, Sem.run_pure]
  rfl
end
end Go.Proofs.Ytpcfgoadkfajfaa
namespace Go.Proofs.Ytpcfgoadkfajfaa
set_option linter.all false
open Go Go.RowKit
/-- A word as a value. -/
abbrev wi {n : Nat} (x : BitVec n) : Int := ((x.toNat : Nat) : Int)
/-- An unsigned kind of n bits. -/
def UK (k : IntKind) (n : Nat) : Prop := k.bits = n ∧ k.signed = false
theorem UK.u8 : UK .u8 8 := ⟨rfl, rfl⟩
theorem UK.u32 : UK .u32 32 := ⟨rfl, rfl⟩
theorem UK.u64 : UK .u64 64 := ⟨rfl, rfl⟩
theorem UK.wrap {k : IntKind} {n : Nat} (h : UK k n) (a : Int) : k.wrap a = a % 2 ^ n := by
  obtain ⟨h1, h2⟩ := h
  unfold IntKind.wrap
  rw [h1, h2]; simp
theorem wi_lt {n : Nat} (x : BitVec n) : wi x < 2 ^ n := by
  have := x.isLt
  have h : ((2 ^ n : Nat) : Int) = 2 ^ n := by simp
  rw [← h]; exact Int.ofNat_lt.2 this
theorem wi_nn {n : Nat} (x : BitVec n) : 0 ≤ wi x := Int.natCast_nonneg _
theorem UK.wrap_id {k : IntKind} {n : Nat} (h : UK k n) (x : BitVec n) : k.wrap (wi x) = wi x := by
  rw [h.wrap]; exact Int.emod_eq_of_lt (wi_nn x) (wi_lt x)
theorem ofInt_wi {n : Nat} (x : BitVec n) : BitVec.ofInt n (wi x) = x := by
  apply BitVec.eq_of_toNat_eq
  simp
theorem UK.wrap_nat {k : IntKind} {n : Nat} (h : UK k n) (a : Nat) : k.wrap (a : Int) = wi (BitVec.ofNat n a) := by
  rw [h.wrap]
  simp [wi]
theorem UK.wrap_int {k : IntKind} {n : Nat} (h : UK k n) (a : Int) : k.wrap a = wi (BitVec.ofInt n a) := by
  rw [h.wrap]
  have h0 : (0 : Int) < 2 ^ n := Int.pow_pos (by decide)
  have := Int.emod_nonneg a (Int.ne_of_gt h0)
  simp [wi, BitVec.toNat_ofInt]
  omega
section
variable {P : Program} {n : Nat} {D : List Deferred} {o : Oper} {V : List (Nat × Value)} {t u : TypeId} {x y : Operand} {k : IntKind} {m : Nat}
theorem bits_and {a b : BitVec m} (h : UK k m) : bits .and k (wi a) (wi b) = wi (a &&& b) := by
  unfold bits
  obtain ⟨h1, h2⟩ := h
  subst h1
  simp only [ofInt_wi]
  exact UK.wrap_id ⟨rfl, h2⟩ _
theorem bits_or {a b : BitVec m} (h : UK k m) : bits .or k (wi a) (wi b) = wi (a ||| b) := by
  unfold bits
  obtain ⟨h1, h2⟩ := h
  subst h1
  simp only [ofInt_wi]
  exact UK.wrap_id ⟨rfl, h2⟩ _
theorem bits_xor {a b : BitVec m} (h : UK k m) : bits .xor k (wi a) (wi b) = wi (a ^^^ b) := by
  unfold bits
  obtain ⟨h1, h2⟩ := h
  subst h1
  simp only [ofInt_wi]
  exact UK.wrap_id ⟨rfl, h2⟩ _
theorem yw_bvAnd {a b : BitVec m} (h : UK k m) (ho : o.op = .binOp .and t x y u) (hx : ev V x = some (.int k (wi a))) (hy : ev V y = some (.int k (wi b))) : YldW P n D o V (.int k (wi (a &&& b))) := by
  intro c w ha
  simp [execOp, ho, ha.eval hx, ha.eval hy, eqGuard, binOp, intBits_and, bits_and h]
theorem yw_bvOr {a b : BitVec m} (h : UK k m) (ho : o.op = .binOp .or t x y u) (hx : ev V x = some (.int k (wi a))) (hy : ev V y = some (.int k (wi b))) : YldW P n D o V (.int k (wi (a ||| b))) := by
  intro c w ha
  simp [execOp, ho, ha.eval hx, ha.eval hy, eqGuard, binOp, intBits_or, bits_or h]
theorem yw_bvXor {a b : BitVec m} (h : UK k m) (ho : o.op = .binOp .xor t x y u) (hx : ev V x = some (.int k (wi a))) (hy : ev V y = some (.int k (wi b))) : YldW P n D o V (.int k (wi (a ^^^ b))) := by
  intro c w ha
  simp [execOp, ho, ha.eval hx, ha.eval hy, eqGuard, binOp, intBits_xor, bits_xor h]
theorem yw_bvAdd {a b : BitVec m} (h : UK k m) (ho : o.op = .binOp .add t x y u) (hx : ev V x = some (.int k (wi a))) (hy : ev V y = some (.int k (wi b))) : YldW P n D o V (.int k (wi (a + b))) := by
  intro c w ha
  have e : k.wrap (wi a + wi b) = wi (a + b) := by rw [h.wrap]; simp [wi, BitVec.toNat_add]
  simp [execOp, ho, ha.eval hx, ha.eval hy, eqGuard, binOp, Op.intArith, e]
theorem yw_bvSub {a b : BitVec m} (h : UK k m) (ho : o.op = .binOp .sub t x y u) (hx : ev V x = some (.int k (wi a))) (hy : ev V y = some (.int k (wi b))) : YldW P n D o V (.int k (wi (a - b))) := by
  intro c w ha
  have e : k.wrap (wi a - wi b) = wi (a - b) := by
    rw [h.wrap]
    have hb := wi_lt b
    have hb' : b.toNat ≤ 2 ^ m := Nat.le_of_lt b.isLt
    have e1 : wi (a - b) = ((2 ^ m - b.toNat + a.toNat : Nat) : Int) % 2 ^ m := by simp [wi, BitVec.toNat_sub]
    have e2 : ((2 ^ m - b.toNat + a.toNat : Nat) : Int) = (wi a - wi b) + 2 ^ m := by
      rw [Int.natCast_add, Int.ofNat_sub hb']
      simp only [wi, Int.natCast_pow]
      have : ((2 : Nat) : Int) = 2 := rfl
      rw [this]; omega
    rw [e1, e2, Int.add_emod_right]
  simp [execOp, ho, ha.eval hx, ha.eval hy, eqGuard, binOp, Op.intArith, e]
theorem yw_bvMul {a b : BitVec m} (h : UK k m) (ho : o.op = .binOp .mul t x y u) (hx : ev V x = some (.int k (wi a))) (hy : ev V y = some (.int k (wi b))) : YldW P n D o V (.int k (wi (a * b))) := by
  intro c w ha
  have e : k.wrap (wi a * wi b) = wi (a * b) := by rw [h.wrap]; simp [wi, BitVec.toNat_mul]
  simp [execOp, ho, ha.eval hx, ha.eval hy, eqGuard, binOp, Op.intArith, e]
theorem shl_min {a : BitVec m} (j : Nat) : a <<< min j m = a <<< j := by
  by_cases hj : j ≤ m
  · rw [Nat.min_eq_left hj]
  · rw [Nat.min_eq_right (by omega)]
    apply BitVec.eq_of_toNat_eq
    simp [BitVec.toNat_shiftLeft, Nat.shiftLeft_eq]
    obtain ⟨d, rfl⟩ : ∃ d, j = m + d := ⟨j - m, by omega⟩
    rw [Nat.pow_add, ← Nat.mul_assoc, Nat.mul_right_comm]
    simp
theorem yw_bvShl {a : BitVec m} {ky : IntKind} {q : Int} (j : Nat) (h : UK k m) (ho : o.op = .binOp .shl t x y u) (hx : ev V x = some (.int k (wi a))) (hy : ev V y = some (.int ky q)) (hq : q = (j : Int)) : YldW P n D o V (.int k (wi (a <<< j))) := by
  intro c w ha
  subst hq
  have := shift_shl_any k ky (wi a) (j : Int) (by omega)
  have e : k.wrap (wi a * 2 ^ min (j : Int).toNat k.bits) = wi (a <<< j) := by
    rw [h.wrap, h.1, Int.toNat_natCast, ← shl_min]
    simp [wi, BitVec.toNat_shiftLeft, Nat.shiftLeft_eq]
  rw [e] at this
  simp [execOp, ho, ha.eval hx, ha.eval hy, eqGuard, binOp, this]
theorem shr_min {a : BitVec m} (j : Nat) : a >>> min j m = a >>> j := by
  by_cases hj : j ≤ m
  · rw [Nat.min_eq_left hj]
  · rw [Nat.min_eq_right (by omega)]
    apply BitVec.eq_of_toNat_eq
    rw [BitVec.toNat_ushiftRight, BitVec.toNat_ushiftRight, Nat.shiftRight_eq_div_pow, Nat.shiftRight_eq_div_pow, Nat.div_eq_of_lt a.isLt, Nat.div_eq_of_lt]
    exact Nat.lt_of_lt_of_le a.isLt (Nat.pow_le_pow_right (by decide) (by omega))
theorem yw_bvShr {a : BitVec m} {ky : IntKind} {q : Int} (j : Nat) (h : UK k m) (ho : o.op = .binOp .shr t x y u) (hx : ev V x = some (.int k (wi a))) (hy : ev V y = some (.int ky q)) (hq : q = (j : Int)) : YldW P n D o V (.int k (wi (a >>> j))) := by
  intro c w ha
  subst hq
  have := shift_shr_any k ky (wi a) (j : Int) (by omega)
  have e : wi a / 2 ^ min (j : Int).toNat k.bits = wi (a >>> j) := by
    rw [h.1, Int.toNat_natCast, ← shr_min]
    simp [wi, BitVec.toNat_ushiftRight, Nat.shiftRight_eq_div_pow]
  rw [e] at this
  simp [execOp, ho, ha.eval hx, ha.eval hy, eqGuard, binOp, this]
theorem yw_bvNot {a : BitVec m} (h : UK k m) (ho : o.op = .unOp .xor t x) (hx : ev V x = some (.int k (wi a))) : YldW P n D o V (.int k (wi (~~~a))) := by
  intro c w ha
  have hm : k.max = wi (BitVec.allOnes m) := by
    obtain ⟨h1, h2⟩ := h
    unfold IntKind.max
    rw [h1, h2]
    have : (1 : Nat) ≤ 2 ^ m := Nat.one_le_two_pow
    simp only [wi, BitVec.toNat_allOnes]
    rw [Int.ofNat_sub this]; simp
  have e : bits .xor k k.max (wi a) = wi (~~~a) := by
    rw [hm, bits_xor h, BitVec.allOnes_xor]
  simp [execOp, ho, ha.eval hx, unary_xor, h.2, intBits_xor, e]
/-- From any integer to an unsigned one. -/
theorem yw_bvOf {k1 : IntKind} {a : Int} {s d : TypeId} {sd : TypeDesc} (h : UK k m) (ho : o.op = .convert s d x) (hx : ev V x = some (.int k1 a)) (hs : P.underlying s = some sd) (hd : P.underlying d = some (.int k)) : YldW P n D o V (.int k (wi (BitVec.ofInt m a))) := by
  rw [← h.wrap_int]
  exact yw_conv ho hx hs hd
theorem yw_bvConv {k1 : IntKind} {m1 : Nat} {a : BitVec m1} {s d : TypeId} {sd : TypeDesc} (h : UK k m) (ho : o.op = .convert s d x) (hx : ev V x = some (.int k1 (wi a))) (hs : P.underlying s = some sd) (hd : P.underlying d = some (.int k)) : YldW P n D o V (.int k (wi (a.setWidth m))) := by
  have e : BitVec.ofInt m (wi a) = a.setWidth m := by
    apply BitVec.eq_of_toNat_eq
    simp [wi]
  rw [← e]
  exact yw_bvOf h ho hx hs hd
/-- .. to an int. -/
theorem yw_bvInt {k1 : IntKind} {m1 : Nat} {a : BitVec m1} {s d : TypeId} {sd : TypeDesc} (hm : m1 ≤ 63) (ho : o.op = .convert s d x) (hx : ev V x = some (.int k1 (wi a))) (hs : P.underlying s = some sd) (hd : P.underlying d = some (.int .i64)) : YldW P n D o V (.int .i64 (wi a)) := by
  have h1 := wi_lt a
  have h2 := wi_nn a
  have h3 : (2 : Int) ^ m1 ≤ 2 ^ 63 := by
    have : (2 : Nat) ^ m1 ≤ 2 ^ 63 := Nat.pow_le_pow_right (by decide) hm
    have h : ((2 ^ m1 : Nat) : Int) ≤ ((2 ^ 63 : Nat) : Int) := Int.ofNat_le.2 this
    simpa using h
  have e : IntKind.i64.wrap (wi a) = wi a := by rw [IntKind.wrap_i64]; omega
  have := yw_conv (P := P) (n := n) (D := D) ho hx hs hd
  rw [e] at this
  exact this
theorem yw_neg {a : Int} (ho : o.op = .unOp .neg t x) (hx : ev V x = some (.int .i64 a)) (h1 : -9223372036854775807 ≤ a) (h2 : a ≤ 9223372036854775807) : YldW P n D o V (.int .i64 (-a)) := by
  intro c w ha
  have : IntKind.i64.wrap (-a) = -a := by rw [IntKind.wrap_i64]; omega
  simp [execOp, ho, ha.eval hx, Op.unary, Op.intArith, this]
/-- 1 shifted left, as an int. -/
theorem yw_one_shl {ky : IntKind} {q : Int} (j : Nat) (ho : o.op = .binOp .shl t x y u) (hx : ev V x = some (.int .i64 1)) (hy : ev V y = some (.int ky q)) (hq : q = (j : Int)) (hj : j ≤ 62) : YldW P n D o V (.int .i64 ((2 ^ j : Nat) : Int)) := by
  intro c w ha
  subst hq
  have := shift_shl_any .i64 ky 1 (j : Int) (by omega)
  have hp : (2 : Nat) ^ j ≤ 2 ^ 62 := Nat.pow_le_pow_right (by decide) hj
  have e : IntKind.i64.wrap (1 * 2 ^ min (j : Int).toNat IntKind.i64.bits) = ((2 ^ j : Nat) : Int) := by
    have e1 : min (j : Int).toNat IntKind.i64.bits = j := by
      rw [Int.toNat_natCast]; exact Nat.min_eq_left (by show j ≤ 64; omega)
    have e2 : (1 * 2 ^ j : Int) = ((2 ^ j : Nat) : Int) := by simp
    have key : ∀ N : Nat, N ≤ 4611686018427387904 → IntKind.i64.wrap (N : Int) = N := fun N hN => by rw [IntKind.wrap_i64]; omega
    rw [e1, e2, key _ hp]
  rw [e] at this
  simp only [execOp, ho, ha.eval hx, ha.eval hy, eqGuard, binOp, Sem.run_bind, Sem.run_pure, this]
  simp
/-- An int shifted right. -/
theorem yw_shr_i {ky : IntKind} {a q : Int} (j : Nat) (ho : o.op = .binOp .shr t x y u) (hx : ev V x = some (.int .i64 a)) (hy : ev V y = some (.int ky q)) (hq : q = (j : Int)) (hj : j ≤ 64) : YldW P n D o V (.int .i64 (a / 2 ^ j)) := by
  intro c w ha
  subst hq
  have := shift_shr_any .i64 ky a (j : Int) (by omega)
  have e1 : min (j : Int).toNat IntKind.i64.bits = j := by
    rw [Int.toNat_natCast]; exact Nat.min_eq_left (by show j ≤ 64; exact hj)
  rw [e1] at this
  simp [execOp, ho, ha.eval hx, ha.eval hy, eqGuard, binOp, this]
end
end Go.Proofs.Ytpcfgoadkfajfaa
