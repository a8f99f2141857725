/- Slices of the call's own, maps, strings: rules over symbolic frames and heaps. More rules: stores of whole blocks and of one cell, struct literals, cuts. Still more rules: maps with integers as keys, slicing, clearing, structs compared, arrays, shifts. Calls that are handed memory of the caller's; knowing entries anew; ranges over functions. Structs compared, field by field. Plain lists: stable insertion sort, and what a stable merge of sorted parts is. No program. Plain Lean: facts, streams, what a session is; no program. Facts and streams as cells. Plain lists: the stable sort is unique; what merges do. No program. -/
import Derived.Test.YtpcfgoadkfajfaaGreatDoorK1
import Derived.Great.BuildSlice
import Derived.MapKept
import Derived.Laws.StructEq
import Derived.Laws.Slices
import Derived.Laws.Shifts
import Derived.RangeFuncIn
namespace Go.Proofs.YtpcfgoadkfajfaaGreatDoor
set_option linter.all false
open Go Go.RowKit

section
variable {P : Program} {w0 : World} {O : List Nat} {n : Nat} {D : List Deferred} {o : Oper} {V : List (Nat × Value)} {L : List Ent} {T : List (Nat × Value) → List Ent → Prop}

theorem flat_nil : flat [] = [] := rfl
theorem flat_cons (c : Array Value) (xs : List (Array Value)) : flat (c :: xs) = c.toList ++ flat xs := by simp [flat]
theorem flat_append (xs ys : List (Array Value)) : flat (xs ++ ys) = flat xs ++ flat ys := by simp [flat]
theorem flat_length {sz : Nat} : ∀ {xs : List (Array Value)}, (∀ c ∈ xs, c.size = sz) → (flat xs).length = xs.length * sz
  | [], _ => by simp [flat]
  | c :: xs, h => by
    rw [flat_cons, List.length_append, flat_length (fun c hc => h c (List.mem_cons_of_mem _ hc)), List.length_cons, Nat.add_mul]
    have := h c List.mem_cons_self
    simp only [Array.length_toList]
    omega
theorem flat_get {sz : Nat} : ∀ {xs : List (Array Value)}, (∀ c ∈ xs, c.size = sz) → ∀ {k : Nat} {c : Array Value} {j : Nat}, xs[k]? = some c → j < sz → (flat xs)[k * sz + j]? = c[j]?
  | [], _, k, c, j, h, _ => by simp at h
  | d :: xs, hs, 0, c, j, h, hj => by
    have : d = c := by simpa using h
    subst this
    have := hs d List.mem_cons_self
    rw [flat_cons, Nat.zero_mul, Nat.zero_add, List.getElem?_append_left (by simp; omega)]
    simp
  | d :: xs, hs, k + 1, c, j, h, hj => by
    have hd := hs d List.mem_cons_self
    rw [flat_cons, List.getElem?_append_right (by simp [hd, Nat.add_mul]; omega)]
    rw [show (k + 1) * sz + j - d.toList.length = k * sz + j from by simp [hd, Nat.add_mul]; omega]
    exact flat_get (fun c hc => hs c (List.mem_cons_of_mem _ hc)) (by simpa using h) hj
theorem mem_flat {xs : List (Array Value)} {u : Value} : u ∈ flat xs ↔ ∃ c ∈ xs, u ∈ c.toList := by simp [flat]

/-- A slice of one's own reads as its elements. -/
theorem Ent.rd {w : World} {A : Option Addr} {cap : Nat} {e : TypeId} {sz : Nat} {xs : List (Array Value)} (h : (Ent.row A cap e sz xs).sat w) : Rd w A sz xs := by
  obtain ⟨⟨h1, h2⟩, h3⟩ := h
  refine ⟨fun k c hk => ?_⟩
  have hmem := List.mem_of_getElem? hk
  have hlen : 0 < xs.length := by
    have := (List.getElem?_eq_some_iff.1 hk).1
    omega
  rcases h2 with ⟨hv, hn⟩ | ⟨g, cp, cur, hv, _, hg, hnc, _, hcs, htake⟩
  · omega
  · injection hv with hA hn hc
    subst hA
    refine ⟨(h3 c hmem).1, ⟨g, 0, rfl⟩, (Array.getElem?_eq_some_iff.1 hg).1, (h3 c hmem).2, fun j hj => ?_⟩
    have hf := flat_get (fun c hc => (h3 c hc).1) hk hj
    show w.cell? ⟨g, 0 + k * sz + j, none⟩ = c[j]?
    rw [Nat.zero_add, cell_of_row w g _ cur e (0, 0) hg, ← hf, ← htake]
    have hk' := (List.getElem?_eq_some_iff.1 hk).1
    have hlt : k * sz + j < xs.length * sz := by
      have : (k + 1) * sz ≤ xs.length * sz := Nat.mul_le_mul_right _ hk'
      rw [Nat.add_mul] at this
      omega
    rw [List.getElem?_take_of_lt hlt]
    simp

/-- An element of a slice of one's own, whole; one cell of it. -/
theorem y_rowElem {t : TypeId} {x : Operand} {A : Option Addr} {cap : Nat} {e : TypeId} {sz k i : Nat} {xs : List (Array Value)} {c : Array Value} (ho : o.op = .load t x) (hx : ev V x = some (.pointer (some ⟨ab A, ao A + k * sz, none⟩))) (h1 : AggT P t sz)
    (hL : L[i]? = some (.row A cap e sz xs)) (hk : xs[k]? = some c) : Yld P w0 O n D o V L (.agg c) := by
  intro a w ha hw
  obtain ⟨hs, _, _, _, hc⟩ := (Ent.rd (hw.ents _ (List.mem_of_getElem? hL))).at_ k c hk
  have := run_load_agg (P := P) (w := w) (b := ab A) (j := ao A + k * sz) (cs := c.toList) h1 (by simpa using hs) (fun i v hv => by
    have hi : i < c.size := by
      have := (List.getElem?_eq_some_iff.1 hv).1
      simpa using this
    rw [hc i (by omega)]; simpa using hv)
  simp [execOp, ho, ha.eval hx, Instr.loadAt, Instr.sureAddr, this]
theorem y_rowElemF {t : TypeId} {x : Operand} {A : Option Addr} {cap : Nat} {e : TypeId} {sz k j i : Nat} {xs : List (Array Value)} {c : Array Value} {v : Value} (ho : o.op = .load t x) (hx : ev V x = some (.pointer (some ⟨ab A, ao A + k * sz + j, none⟩))) (h1 : One P t)
    (hL : L[i]? = some (.row A cap e sz xs)) (hk : xs[k]? = some c) (hv : c[j]? = some v) : Yld P w0 O n D o V L v := by
  intro a w ha hw
  obtain ⟨hs, _, _, _, hc⟩ := (Ent.rd (hw.ents _ (List.mem_of_getElem? hL))).at_ k c hk
  have hj : j < c.size := (Array.getElem?_eq_some_iff.1 hv).1
  have hcell : w.cell? ⟨ab A, ao A + k * sz + j, none⟩ = some v := by rw [hc j (by omega)]; exact hv
  simp [execOp, ho, ha.eval hx, Instr.loadAt, Instr.sureAddr, run_load_one h1 hcell]
theorem y_rowElem1 {t : TypeId} {x : Operand} {A : Option Addr} {cap : Nat} {e : TypeId} {k i : Nat} {xs : List (Array Value)} {v : Value} (ho : o.op = .load t x) (hx : ev V x = some (.pointer (some ⟨ab A, ao A + k * 1, none⟩))) (h1 : One P t)
    (hL : L[i]? = some (.row A cap e 1 xs)) (hk : xs[k]? = some #[v]) : Yld P w0 O n D o V L v :=
  y_rowElemF (j := 0) ho hx h1 hL hk rfl
theorem y_elem1 {t : TypeId} {x : Operand} {A : Option Addr} {k : Nat} {xs : List (Array Value)} {v : Value} (ho : o.op = .load t x) (hx : ev V x = some (.pointer (some ⟨ab A, ao A + k * 1, none⟩))) (h1 : One P t)
    (hr : Rd w0 A 1 xs) (hO : ab A ∉ O) (hk : xs[k]? = some #[v]) : Yld P w0 O n D o V L v :=
  y_elemF (j := 0) ho hx h1 hr hO hk rfl

/-! ### Slice literals -/
/-- A slice type, its element type, cells, bytes and zero value. -/
structure SlB (P : Program) (t e : TypeId) (sz bytes : Nat) (z : Value) : Prop where
  under : P.underlying t = some (.slice e)
  info : ∃ i, P.info? e = some i ∧ i.zero = some z ∧ i.size = sz ∧ i.bytes = bytes
  zs : z.cells.size = sz
  pos : 0 < sz
theorem SlB.slt {t e : TypeId} {sz bytes : Nat} {z : Value} (h : SlB P t e sz bytes z) : SlT P t e sz := by
  obtain ⟨i, h1, h2, h3, h4⟩ := h.info
  exact ⟨i, h.under, h1, h3⟩

theorem foldl_setAt : ∀ (c : List Value) (off k : Nat) (arr : Array Value), off + k + c.length ≤ arr.size →
    ((c.zipIdx k).foldl (fun cs (p : Value × Nat) => cs.setIfInBounds (off + p.2) p.1) arr).toList = arr.toList.take (off + k) ++ c ++ arr.toList.drop (off + k + c.length)
  | [], off, k, arr, h => by simp
  | x :: c, off, k, arr, h => by
    rw [List.zipIdx_cons, List.foldl_cons, foldl_setAt c off (k + 1) _ (by simp at h ⊢; omega)]
    simp only [List.length_cons] at h
    have hlt : off + k < arr.toList.length := by simp; omega
    simp only [Array.toList_setIfInBounds]
    have e1 : (arr.toList.set (off + k) x).take (off + (k + 1)) = arr.toList.take (off + k) ++ [x] := by
      rw [show off + (k + 1) = off + k + 1 from by omega, List.take_succ_eq_append_getElem (by simpa using hlt)]
      rw [List.take_set_of_le (by omega)]
      simp
    have e2 : (arr.toList.set (off + k) x).drop (off + (k + 1) + c.length) = arr.toList.drop (off + k + (c.length + 1)) := by
      rw [List.drop_set_of_lt (by omega)]
      congr 1; omega
    rw [e1, e2]
    simp

theorem fill_full {sz : Nat} : ∀ (vs : List Value) (k : Nat) (arr : Array Value), (∀ v ∈ vs, v.cells.size = sz) → (k + vs.length) * sz ≤ arr.size →
    ∃ out, Instr.fill (fun i => some (i * sz, sz)) arr ((vs.zipIdx k).map fun p => (p.2, p.1)) = some out ∧ out.toList = arr.toList.take (k * sz) ++ flat (vs.map Value.cells) ++ arr.toList.drop ((k + vs.length) * sz)
  | [], k, arr, _, _ => ⟨arr, rfl, by simp [flat]⟩
  | v :: vs, k, arr, hv, hs => by
    have h1 := hv v List.mem_cons_self
    have hle : (k + 1) * sz ≤ arr.size := Nat.le_trans (Nat.mul_le_mul_right _ (by simp)) hs
    rw [Nat.add_mul, Nat.one_mul] at hle
    have hfold : (v.cells.zipIdx.foldl (fun cs (p : Value × Nat) => cs.setIfInBounds (k * sz + p.2) p.1) arr).toList = arr.toList.take (k * sz) ++ v.cells.toList ++ arr.toList.drop (k * sz + sz) := by
      have := foldl_setAt v.cells.toList (k * sz) 0 arr (by simp [h1]; omega)
      rw [← Array.foldl_toList, Array.toList_zipIdx]
      simpa [h1] using this
    have hsz : (v.cells.zipIdx.foldl (fun cs (p : Value × Nat) => cs.setIfInBounds (k * sz + p.2) p.1) arr).size = arr.size := by
      rw [← Array.length_toList, hfold]
      simp [h1]; omega
    obtain ⟨out, ho, hl⟩ := fill_full vs (k + 1) (v.cells.zipIdx.foldl (fun cs (p : Value × Nat) => cs.setIfInBounds (k * sz + p.2) p.1) arr) (fun u hu => hv u (List.mem_cons_of_mem _ hu)) (by rw [hsz]; simpa [Nat.add_assoc, Nat.add_comm 1] using hs)
    refine ⟨out, ?_, ?_⟩
    · rw [List.zipIdx_cons, List.map_cons]
      simp only [Instr.fill]
      rw [if_neg]
      · exact ho
      · simp [h1]; omega
    · rw [hl, hfold]
      have e1 : (arr.toList.take (k * sz) ++ v.cells.toList ++ arr.toList.drop (k * sz + sz)).take ((k + 1) * sz) = arr.toList.take (k * sz) ++ v.cells.toList := by
        rw [List.take_left']
        simp [h1, Nat.add_mul]; omega
      have e2 : (arr.toList.take (k * sz) ++ v.cells.toList ++ arr.toList.drop (k * sz + sz)).drop ((k + 1 + vs.length) * sz) = arr.toList.drop ((k + (vs.length + 1)) * sz) := by
        rw [List.drop_append]
        have hlen : (arr.toList.take (k * sz) ++ v.cells.toList).length = (k + 1) * sz := by simp [h1, Nat.add_mul]; omega
        have hge : (k + 1) * sz ≤ (k + 1 + vs.length) * sz := Nat.mul_le_mul_right _ (by omega)
        rw [List.drop_eq_nil_of_le (by rw [hlen]; exact hge), hlen, List.drop_drop, List.nil_append]
        congr 1
        rw [show k + (vs.length + 1) = k + 1 + vs.length from by omega]
        rw [Nat.add_mul k 1 sz] at hge
        rw [Nat.add_mul k 1 sz]
        omega
      rw [e1, e2, List.map_cons, flat_cons]
      simp

/-- The parts of a literal, in order from 0 on. -/
def evParts (V : List (Nat × Value)) : Nat → List (Nat × Operand) → Option (List Value)
  | _, [] => some []
  | k, (i, x) :: r => bif Nat.beq i k then (match ev V x, evParts V (k + 1) r with | some v, some vs => some (v :: vs) | _, _ => none) else none

theorem evParts_spec {a : Act} (ha : Holds n D a V) : ∀ {k : Nat} {ps : List (Nat × Operand)} {vs : List Value}, evParts V k ps = some vs → ps.map (fun p => (p.1, a.eval p.2)) = (vs.zipIdx k).map fun p => (p.2, p.1)
  | k, [], vs, h => by
    obtain rfl : vs = [] := by simpa [evParts] using h.symm
    rfl
  | k, (i, x) :: r, vs, h => by
    simp only [evParts] at h
    cases hb : Nat.beq i k with
    | false => rw [hb] at h; simp at h
    | true =>
      rw [hb] at h
      simp only [cond_true] at h
      split at h
      · rename_i v vs' h1 h2
        obtain rfl : v :: vs' = vs := by simpa using h
        have : i = k := Nat.eq_of_beq_eq_true hb
        subst this
        rw [List.map_cons, evParts_spec ha h2, ha.eval h1, List.zipIdx_cons, List.map_cons]
      · cases h

theorem ownsRow_new {w : World} {cs : Array Value} {e : TypeId} {sz : Nat} {xs : List (Array Value)} (hcs : cs.toList = flat xs) (hxs : ∀ c ∈ xs, c.size = sz ∧ ∀ u ∈ c.toList, u.oneCell' = true) (hm : xs.length ≤ maxLen) :
    (Ent.row (some ⟨w.heap.size, 0, none⟩) xs.length e sz xs).sat (w.alloc (.cells cs e)) := by
  have hfl := flat_length (fun c hc => (hxs c hc).1)
  refine ⟨⟨hfl, .inr ⟨w.heap.size, xs.length, cs, rfl, Nat.zero_le _, heap_alloc_new w _, Nat.le_refl _, hm, ?_, ?_⟩⟩, hxs⟩
  · rw [← Array.length_toList, hcs, hfl]
  · rw [hcs, ← hfl, List.take_length]

theorem op_buildSlice {t e : TypeId} {len : Nat} {parts : Array (Nat × Operand)} {d sz bytes : Nat} {z : Value} {vs : List Value} (ho : o.op = .buildSlice t len parts) (hd : o.dst = some d) (hdn : Nat.blt d n = true) (ht : SlB P t e sz bytes z)
    (hp : evParts V 0 parts.toList = some vs) (hlen : vs.length = len) (hvs : ∀ v ∈ vs, v.cells.size = sz ∧ ∀ u ∈ v.cells.toList, u.oneCell' = true) (hsmall : len * sz ≤ 16777216)
    (hT : ∀ g, T ((d, .slice (some ⟨g, 0, none⟩) len len) :: V) (.row (some ⟨g, 0, none⟩) len e sz (vs.map Value.cells) :: L)) : OpS P w0 O n D o V L T := by
  intro a w ha hw
  obtain ⟨i, hi, hz, hsz, _⟩ := ht.info
  subst hsz
  have hps := evParts_spec ha hp
  have hpe : (parts.map fun (p : Nat × Operand) => (p.1, a.eval p.2)).toList = (vs.zipIdx 0).map fun p => (p.2, p.1) := by
    rw [Array.toList_map]; exact hps
  obtain ⟨cells, hrun, hcells⟩ : ∃ cells : Array Value, (Instr.buildSlice t len (parts.map fun (p : Nat × Operand) => (p.1, a.eval p.2))).run P w = .ok (.slice (some ⟨w.heap.size, 0, none⟩) len len) (w.alloc (.cells cells e)) ∧ cells.toList = flat (vs.map Value.cells) := by
    by_cases h0 : len * i.size = 0
    · have hl0 : len = 0 := by
        rcases Nat.mul_eq_zero.1 h0 with h | h
        · exact h
        · have := ht.pos; omega
      subst hl0
      have : vs = [] := List.eq_nil_of_length_eq_zero hlen
      subst this
      refine ⟨#[], ?_, rfl⟩
      have hpn : parts = #[] := by
        have : parts.toList = [] := by
          have := congrArg List.length hpe
          simp at this
          simpa using this
        exact Array.ext' (by simpa using this)
      subst hpn
      simp [Instr.buildSlice, run_underlying ht.under, sizeOf, typeInfo, hi, Instr.fill, newRow, Array.range_zero']
    · obtain ⟨out, hf, hout⟩ := fill_full (sz := i.size) vs 0 ((Array.range (len * i.size)).map (z.cells[· % z.cells.size]!)) (fun v hv => (hvs v hv).1) (by simp [hlen])
      refine ⟨out, run_buildSlice w t e len _ out i z ht.under hi hz (by omega) h0 (by rw [hpe]; exact hf), ?_⟩
      rw [hout, hlen]
      simp
  have hxs : ∀ c ∈ vs.map Value.cells, c.size = i.size ∧ ∀ u ∈ c.toList, u.oneCell' = true := by
    intro c hc
    obtain ⟨v, hv, rfl⟩ := List.mem_map.1 hc
    exact hvs v hv
  have hr : (execOp a.eval o).run P w = .ok (.value (.slice (some ⟨w.heap.size, 0, none⟩) len len)) (w.alloc (.cells cells e)) := by
    simp only [execOp, ho]
    simp only [Sem.run_bind, hrun, Result.andThen_ok, Sem.run_pure]
  unfold Does
  rw [hr, hd]
  refine ⟨_, _, hT w.heap.size, ha.put hdn _, ?_⟩
  have hlm : (vs.map Value.cells).length ≤ maxLen := by
    have : len ≤ len * i.size := Nat.le_mul_of_pos_right _ ht.pos
    simp [maxLen]; omega
  have hsat := ownsRow_new (w := w) (e := e) hcells hxs hlm
  have hall := hw.alloc (.cells cells e)
  have := hall.set (A := []) (R := L) (w' := w.alloc (.cells cells e)) (p := .blk w.heap.size (.cells cells e)) (p' := .row (some ⟨w.heap.size, 0, none⟩) len e i.size (vs.map Value.cells)) rfl rfl rfl rfl (Nat.le_refl _)
    (by rw [← hlen]; simpa using hsat) (by simp [Ent.blocks]) (fun b hb => .inl (by simpa [Ent.blocks] using hb)) (fun _ _ _ => rfl)
  simpa using this

/-! ### append -/
theorem run_append_nothing {w : World} (t ty e : TypeId) {A : Option Addr} {m cap : Nat} (c : Nat) (sz : Nat) {i : TypeInfo} (ht : P.underlying t = some (.slice e)) (hi : P.info? e = some i) (hc : m ≤ cap) (hA : A = none → m = 0) :
    (Builtin.append_ #[t, t] ty #[.slice A m cap, .slice none 0 c]).run P w = .ok (.slice A m cap) w := by
  cases A with
  | none => simp [Builtin.append_, run_underlying ht, sizeOf, typeInfo, hi, Builtin.lenOf, Builtin.firstCells, hc]
  | some a => simp [Builtin.append_, run_underlying ht, sizeOf, typeInfo, hi, Builtin.lenOf, Builtin.firstCells, hc, storeCells]

theorem run_append_rd {w : World} {t ty e : TypeId} {sz bytes : Nat} {z : Value} (ht : SlB P t e sz bytes z) {A : Option Addr} {cap : Nat} {xs : List (Array Value)} (hrow : (Ent.row A cap e sz xs).sat w)
    {B : Option Addr} {c : Nat} {ys : List (Array Value)} (hB : Rd w B sz ys) (h63 : xs.length + ys.length ≤ maxLen) (hby : (xs.length + ys.length) * bytes ≤ 140737488355328) :
    ∃ A' cap' w', (Builtin.append_ #[t, t] ty #[.slice A xs.length cap, .slice B ys.length c]).run P w = .ok (.slice A' (xs ++ ys).length cap') w' ∧ (Ent.row A' cap' e sz (xs ++ ys)).sat w' ∧ w.grownBy w' (Value.slice A xs.length cap).ownBlock ∧
      (A'.map Addr.block = A.map Addr.block ∨ A'.map Addr.block = some w.heap.size) := by
  obtain ⟨i, hi, hz, hsz, hbb⟩ := ht.info
  obtain ⟨hown, hxs⟩ := hrow
  rcases ys with _ | ⟨y, ys⟩
  · -- nothing is appended
    have hcap : xs.length ≤ cap ∧ (A = none → xs.length = 0) := by
      rcases hown.2 with ⟨hv, hn⟩ | ⟨g, cp, cur, hv, _, _, hnc, _⟩
      · injection hv with h1 h2 h3; exact ⟨by omega, fun _ => hn⟩
      · injection hv with h1 h2 h3; exact ⟨by omega, fun h => by rw [h1] at h; cases h⟩
    cases B with
    | none => exact ⟨A, cap, w, by simpa using run_append_nothing t ty e c sz ht.under hi hcap.1 hcap.2, by simpa using ⟨hown, hxs⟩, World.grownBy.refl w _, .inl rfl⟩
    | some b =>
      obtain ⟨v', w', h1, h2, h3, _, h5⟩ := run_append_own_at (P := P) w 0 t ty e i z sz bytes ht.under hi hz hsz hbb ht.zs ht.pos (.slice A xs.length cap) xs.length (flat xs) hown b 0 c [] (by simp) (by simp) (by simp) (by simpa using h63) (by simpa using hby) (Nat.zero_le _)
      simp only [Nat.add_zero, List.append_nil] at h2
      obtain ⟨A', cap', rfl⟩ : ∃ A' cap', v' = .slice A' xs.length cap' := by
        rcases h2.2 with ⟨hv, hn⟩ | ⟨g, cp, cur, hv, _⟩
        · exact ⟨none, 0, by rw [hv, hn]⟩
        · exact ⟨_, _, hv⟩
      refine ⟨A', cap', w', by simpa using h1, by simpa using ⟨h2, hxs⟩, h3, ?_⟩
      cases A' <;> cases A <;> simp [Value.ownBlock] at h5 ⊢ <;> exact h5
  · have hy := fun k c hk => hB.at_ k c hk
    obtain ⟨_, ⟨b, j, rfl⟩, _, _⟩ := hy 0 y (by simp)
    have hys : ∀ c ∈ (y :: ys), c.size = sz ∧ ∀ u ∈ c.toList, u.oneCell' = true := by
      intro c hc
      obtain ⟨k, hk⟩ := List.mem_iff_getElem?.1 hc
      exact ⟨(hy k c hk).1, (hy k c hk).2.2.2.1⟩
    have hfl := flat_length (fun c hc => (hys c hc).1)
    have hnews : ∀ q u, (flat (y :: ys))[q]? = some u → w.cell? ((⟨b, j, none⟩ : Addr).add q) = some u := by
      intro q u hq
      have hqlt : q < (y :: ys).length * sz := by
        have := (List.getElem?_eq_some_iff.1 hq).1
        omega
      have hk : q / sz < (y :: ys).length := Nat.div_lt_of_lt_mul (by rw [Nat.mul_comm]; exact hqlt)
      have hr : q % sz < sz := Nat.mod_lt _ ht.pos
      have hqe : q = q / sz * sz + q % sz := by rw [Nat.mul_comm]; exact (Nat.div_add_mod q sz).symm
      have hget := flat_get (fun c hc => (hys c hc).1) (List.getElem?_eq_getElem hk) hr
      rw [← hqe] at hget
      obtain ⟨_, _, _, _, hc⟩ := hy (q / sz) _ (List.getElem?_eq_getElem hk)
      have h1 := hc (q % sz) hr
      rw [add_none]
      rw [show ab (some ⟨b, j, none⟩) = b from rfl, show ao (some ⟨b, j, none⟩) = j from rfl, Nat.add_assoc, ← hqe] at h1
      rw [h1, ← hget, hq]
    obtain ⟨v', w', h1, h2, h3, _, h5⟩ := run_append_own_at (P := P) w 0 t ty e i z sz bytes ht.under hi hz hsz hbb ht.zs ht.pos (.slice A xs.length cap) xs.length (flat xs) hown ⟨b, j, none⟩ (y :: ys).length c (flat (y :: ys)) hfl hnews
      (fun u hu => by obtain ⟨c, hc, hcu⟩ := mem_flat.1 hu; exact (hys c hc).2 u hcu) h63 hby (Nat.zero_le _)
    rw [← flat_append] at h2
    obtain ⟨A', cap', rfl⟩ : ∃ A' cap', v' = .slice A' (xs.length + (y :: ys).length) cap' := by
      rcases h2.2 with ⟨hv, hn⟩ | ⟨g, cp, cur, hv, _⟩
      · simp at hn
      · exact ⟨_, _, hv⟩
    refine ⟨A', cap', w', by rw [List.length_append]; exact h1, ⟨by rw [List.length_append]; exact h2, ?_⟩, h3, ?_⟩
    · intro c hc
      rcases List.mem_append.1 hc with hc | hc
      · exact hxs c hc
      · exact hys c hc
    · cases A' <;> cases A <;> simp [Value.ownBlock] at h5 ⊢ <;> exact h5

theorem row_blocks_nodup {A : Option Addr} {cap : Nat} {e : TypeId} {sz : Nat} {xs : List (Array Value)} : (Ent.row A cap e sz xs).blocks.Nodup := by
  cases A <;> simp [Ent.blocks]

theorem op_append_core {x y : Operand} {t e : TypeId} {d sz bytes i : Nat} {z : Value} {A B : Option Addr} {cap c m : Nat} {xs ys : List (Array Value)}
    (ho : o.op = .call { callee := .builtin .append, args := #[x, y], argTypes := #[t, t] }) (hd : o.dst = some d) (hdn : Nat.blt d n = true) (ht : SlB P t e sz bytes z) (hx : ev V x = some (.slice A xs.length cap)) (hL : L[i]? = some (.row A cap e sz xs))
    (hy : ev V y = some (.slice B m c)) (hm : ys.length = m) (hB : ∀ w, SL w0 O w L → Rd w B sz ys) (h63 : xs.length + m ≤ 9223372036854775807) (hby : (xs.length + m) * bytes ≤ 140737488355328)
    (hT : ∀ A' cap', T ((d, .slice A' (xs ++ ys).length cap') :: V) (L.set i (.row A' cap' e sz (xs ++ ys)))) : OpS P w0 O n D o V L T := by
  intro a w ha hw
  subst hm
  obtain ⟨A', cap', w', hrun, hsat, hgr, hbl⟩ := run_append_rd (P := P) (w := w) (ty := o.type) (c := c) ht (hw.ents _ (List.mem_of_getElem? hL)) (hB w hw) (by unfold maxLen; omega) hby
  have hr : (execOp a.eval o).run P w = .ok (.value (.slice A' (xs ++ ys).length cap')) w' := by
    simp only [execOp, ho, resolve, invoke, builtin, Sem.run_bind, Sem.run_pure, Result.andThen_ok, List.map_toArray, List.map_cons, List.map_nil, ha.eval hx, ha.eval hy, hrun]
  unfold Does
  rw [hr, hd]
  refine ⟨_, _, hT A' cap', ha.put hdn _, hw.setI hL hgr.os hgr.tape hgr.output hgr.size hsat row_blocks_nodup ?_ ?_⟩
  · intro b hb
    have hb' : A'.map Addr.block = some b := by simpa [Ent.blocks] using hb
    rcases hbl with h | h
    · left; rw [h] at hb'; simpa [Ent.blocks] using hb'
    · right; rw [h] at hb'; simp at hb'; omega
  · intro k hk hkb
    refine hgr.block k hk ?_
    intro hkk
    apply hkb
    cases A with
    | none => simp [Value.ownBlock] at hkk
    | some a => simp [Value.ownBlock] at hkk; simp [Ent.blocks, hkk]

/-- append of elements that lie in a slice of one's own (a literal's): it is not wanted behind. -/
theorem op_append {x y : Operand} {t e : TypeId} {d sz bytes i j : Nat} {z : Value} {A B : Option Addr} {cap c capy m : Nat} {ey : TypeId} {xs ys : List (Array Value)}
    (ho : o.op = .call { callee := .builtin .append, args := #[x, y], argTypes := #[t, t] }) (hd : o.dst = some d) (hdn : Nat.blt d n = true) (ht : SlB P t e sz bytes z) (hx : ev V x = some (.slice A xs.length cap)) (hL : L[i]? = some (.row A cap e sz xs))
    (hy : ev V y = some (.slice B m c)) (hm : ys.length = m) (hLy : L[j]? = some (.row B capy ey sz ys)) (h63 : xs.length + m ≤ 9223372036854775807) (hby : (xs.length + m) * bytes ≤ 140737488355328)
    (hT : ∀ A' cap', T ((d, .slice A' (xs ++ ys).length cap') :: V) (L.set i (.row A' cap' e sz (xs ++ ys)))) : OpS P w0 O n D o V L T :=
  op_append_core ho hd hdn ht hx hL hy hm (fun w hw => Ent.rd (hw.ents _ (List.mem_of_getElem? hLy))) h63 hby hT
/-- .. of elements that lay ahead of the call. -/
theorem op_append0 {x y : Operand} {t e : TypeId} {d sz bytes i : Nat} {z : Value} {A B : Option Addr} {cap c m : Nat} {xs ys : List (Array Value)}
    (ho : o.op = .call { callee := .builtin .append, args := #[x, y], argTypes := #[t, t] }) (hd : o.dst = some d) (hdn : Nat.blt d n = true) (ht : SlB P t e sz bytes z) (hx : ev V x = some (.slice A xs.length cap)) (hL : L[i]? = some (.row A cap e sz xs))
    (hy : ev V y = some (.slice B m c)) (hm : ys.length = m) (hr : Rd w0 B sz ys) (hO : ab B ∉ O) (h63 : xs.length + m ≤ 9223372036854775807) (hby : (xs.length + m) * bytes ≤ 140737488355328)
    (hT : ∀ A' cap', T ((d, .slice A' (xs ++ ys).length cap') :: V) (L.set i (.row A' cap' e sz (xs ++ ys)))) : OpS P w0 O n D o V L T :=
  op_append_core ho hd hdn ht hx hL hy hm (fun w hw => hw.rd hr hO) h63 hby hT

theorem sat_nil (w : World) (e : TypeId) (sz : Nat) : (Ent.row none 0 e sz []).sat w := ⟨World.ownsRow_nil w 0 e sz, by simp⟩
/-- A nil slice is one of one's own. -/
theorem SL.rowNil {w : World} (h : SL w0 O w L) (e : TypeId) (sz : Nat) : SL w0 O w (.row none 0 e sz [] :: L) := by
  refine ⟨h.os, h.tape, h.output, h.size, h.same, ?_, ?_, ?_⟩
  · intro p hp
    rcases List.mem_cons.1 hp with rfl | hp
    · exact sat_nil w e sz
    · exact h.ents p hp
  · simpa [List.flatMap_cons, Ent.blocks] using h.nodup
  · intro p hp b hb
    rcases List.mem_cons.1 hp with rfl | hp
    · simp [Ent.blocks] at hb
    · exact h.own p hp b hb
theorem CX.rowNil {r : Option Nat} {Q : Exit → Act → World → Prop} {c : Code} (e : TypeId) (sz : Nat) (h : CX P r Q w0 O n D c V (.row none 0 e sz [] :: L)) : CX P r Q w0 O n D c V L :=
  fun a w ha hw => h a w ha (hw.rowNil e sz)

/-! ### A store into an element of a slice of one's own -/
theorem flat_set {sz : Nat} : ∀ {xs : List (Array Value)}, (∀ c ∈ xs, c.size = sz) → ∀ {k : Nat} {c : Array Value}, k < xs.length → c.size = sz → flat (xs.set k c) = (flat xs).take (k * sz) ++ c.toList ++ (flat xs).drop ((k + 1) * sz)
  | [], _, k, c, h, _ => by simp at h
  | d :: xs, hs, 0, c, _, hc => by
    have hd := hs d List.mem_cons_self
    simp only [List.set_cons_zero, flat_cons, Nat.zero_mul, List.take_zero, List.nil_append, Nat.zero_add, Nat.one_mul]
    rw [List.drop_left' (by simp [hd])]
  | d :: xs, hs, k + 1, c, h, hc => by
    have hd := hs d List.mem_cons_self
    simp only [List.set_cons_succ, flat_cons]
    rw [flat_set (fun c hc => hs c (List.mem_cons_of_mem _ hc)) (by simpa using h) hc]
    have e1 : (k + 1) * sz = d.toList.length + k * sz := by simp [hd, Nat.add_mul]; omega
    have e2 : (k + 1 + 1) * sz = d.toList.length + (k + 1) * sz := by simp [hd, Nat.add_mul]; omega
    have r1 : (d.toList ++ flat xs).take ((k + 1) * sz) = d.toList ++ (flat xs).take (k * sz) := by rw [e1, List.take_length_add_append]
    have r2 : (d.toList ++ flat xs).drop ((k + 1 + 1) * sz) = (flat xs).drop ((k + 1) * sz) := by rw [e2, List.drop_length_add_append]
    rw [r1, r2]
    simp only [List.append_assoc]

theorem op_storeElem {t e : TypeId} {x y : Operand} {A : Option Addr} {cap sz k i : Nat} {v : Value} {xs : List (Array Value)} (ho : o.op = .store t x y) (hd : o.dst = none) (hx : ev V x = some (.pointer (some ⟨ab A, ao A + k * sz, none⟩))) (hy : ev V y = some v) (hs : SzT P t sz)
    (hv : v.cells.size = sz) (h1 : ∀ u ∈ v.cells.toList, u.oneCell' = true) (hL : L[i]? = some (.row A cap e sz xs)) (hk : k < xs.length)
    (hT : T V (L.set i (.row A cap e sz (xs.set k v.cells)))) : OpS P w0 O n D o V L T := by
  intro a w ha hw
  have hsat := hw.ents _ (List.mem_of_getElem? hL)
  obtain ⟨⟨hl, h2⟩, hxs⟩ := hsat
  rcases h2 with ⟨hvv, hn⟩ | ⟨g, cp, cur, hvv, _, hg, hnc, hcm, hcs, htake⟩
  · omega
  · injection hvv with hA hn hc
    subst hA; subst hc
    have hfl := flat_length (fun c hc => (hxs c hc).1)
    have hle : (k + 1) * sz ≤ xs.length * sz := Nat.mul_le_mul_right _ hk
    have hle2 : xs.length * sz ≤ cap * sz := Nat.mul_le_mul_right _ hnc
    rw [Nat.add_mul, Nat.one_mul] at hle
    have hx' : a.eval x = .pointer (some ⟨g, k * sz, none⟩) := by
      rw [ha.eval hx]
      show Value.pointer (some ⟨g, 0 + k * sz, none⟩) = _
      rw [Nat.zero_add]
    have hr := run_store_row (P := P) (w := w) (g := g) (j := k * sz) hs hv h1 hg (by omega)
    have hr' : (execOp a.eval o).run P w = .ok .skip (w.setRow g (cur.toList.take (k * sz) ++ v.cells.toList ++ cur.toList.drop (k * sz + sz)).toArray) := by
      simp only [execOp, ho, hx', ha.eval hy, Instr.storeAt, Instr.sureAddr]
      simp only [Sem.run_bind, Sem.run_pure, Result.andThen_ok, hr]
    unfold Does
    rw [hr', hd]
    refine ⟨_, _, hT, ha, hw.setI hL rfl rfl rfl (by simp) ?_ row_blocks_nodup (fun b hb => .inl hb) (fun j _ hj => setRow_other w g j _ (by simpa [Ent.blocks] using hj))⟩
    have hxs' : ∀ c ∈ xs.set k v.cells, c.size = sz ∧ ∀ u ∈ c.toList, u.oneCell' = true := by
      intro c hc
      rcases List.mem_or_eq_of_mem_set hc with hc | rfl
      · exact hxs c hc
      · exact ⟨hv, h1⟩
    refine ⟨⟨by rw [flat_length (fun c hc => (hxs' c hc).1)], .inr ⟨g, cap, _, by simp, Nat.zero_le _, setRow_heap w g cur _ e _ hg, by simpa using hnc, hcm, ?_, ?_⟩⟩, hxs'⟩
    · simp [hv]; omega
    · rw [flat_set (fun c hc => (hxs c hc).1) hk hv, List.length_set, ← htake]
      simp only [List.toList_toArray]
      have hclen : cur.toList.length = cap * sz := by simpa using hcs
      rw [List.take_append, List.take_append]
      have e1 : (cur.toList.take (k * sz)).length = k * sz := by rw [List.length_take, hclen]; exact Nat.min_eq_left (by omega)
      have e2 : (cur.toList.take (k * sz) ++ v.cells.toList).length = k * sz + sz := by rw [List.length_append, e1]; simp [hv]
      rw [e1, e2]
      rw [List.take_take, List.take_take, Nat.min_eq_right (by omega), Nat.min_eq_left (by omega : k * sz ≤ xs.length * sz)]
      rw [List.take_of_length_le (l := v.cells.toList) (by simp [hv]; omega)]
      rw [List.drop_take, Nat.add_mul, Nat.one_mul]
end
end Go.Proofs.YtpcfgoadkfajfaaGreatDoor
namespace Go.Proofs.YtpcfgoadkfajfaaGreatDoor
set_option linter.all false
open Go Go.RowKit

section
variable {P : Program} {w0 : World} {O : List Nat} {n : Nat} {D : List Deferred} {o : Oper} {V : List (Nat × Value)} {L : List Ent} {T : List (Nat × Value) → List Ent → Prop}

theorem op_storeAll {t : TypeId} {x y : Operand} {g i sz : Nat} {v : Value} {cs : Array Value} {tt : TypeId} (ho : o.op = .store t x y) (hd : o.dst = none) (hx : ev V x = some (.pointer (some ⟨g, 0, none⟩))) (hy : ev V y = some v) (hs : SzT P t sz)
    (hv : v.cells.size = sz) (h1 : ∀ u ∈ v.cells.toList, u.oneCell' = true) (hL : L[i]? = some (.blk g (.cells cs tt (0, 0)))) (hsz : cs.size = sz)
    (hT : T V (L.set i (.blk g (.cells v.cells tt (0, 0))))) : OpS P w0 O n D o V L T :=
  op_store (cs' := v.cells) ho hd hx hy hs hv h1 hL (by omega) (by rw [List.take_zero, List.nil_append, List.drop_eq_nil_of_le (by simp; omega), List.append_nil]) hT

theorem op_store1 {t : TypeId} {x y : Operand} {g j i : Nat} {v : Value} {cs cs' : Array Value} {tt : TypeId} (ho : o.op = .store t x y) (hd : o.dst = none) (hx : ev V x = some (.pointer (some ⟨g, j, none⟩))) (hy : ev V y = some v) (hs : SzT P t 1)
    (hv : v.oneCell' = true) (hL : L[i]? = some (.blk g (.cells cs tt (0, 0)))) (hj : Nat.blt j cs.size = true) (hcs : cs.setIfInBounds j v = cs')
    (hT : T V (L.set i (.blk g (.cells cs' tt (0, 0))))) : OpS P w0 O n D o V L T := by
  subst hcs
  have hc : v.cells = #[v] := by cases v <;> simp [Value.oneCell'] at hv <;> rfl
  have hlt : j < cs.size := by simpa using hj
  refine op_store (cs' := cs.setIfInBounds j v) ho hd hx hy hs (by rw [hc]; rfl) (by rw [hc]; simpa using hv) hL (by omega) ?_ hT
  rw [hc, Array.toList_setIfInBounds, List.set_eq_take_append_cons_drop]
  simp [hlt]

theorem yw_build {t : TypeId} {parts : Array (Nat × Operand)} {v : Value} {pv : List (Nat × Value)} (ho : o.op = .build t parts) (hp : parts.toList.mapM (fun p => (ev V p.2).map (fun v => (p.1, v))) = some pv)
    (hb : ∀ w, (Instr.build t pv.toArray).run P w = .ok v w) : YldW P n D o V v := by
  intro a w ha
  have key : ∀ (l : List (Nat × Operand)) (pv : List (Nat × Value)), l.mapM (fun p => (ev V p.2).map (fun v => (p.1, v))) = some pv → l.map (fun p => (p.1, a.eval p.2)) = pv := by
    intro l
    induction l with
    | nil => intro pv h; simp at h; simp [h]
    | cons p l ih =>
      intro pv h
      rw [List.mapM_cons] at h
      cases h1 : ev V p.2 with
      | none => rw [h1] at h; simp at h
      | some u =>
        rw [h1] at h
        cases h2 : l.mapM (fun p => (ev V p.2).map (fun v => (p.1, v))) with
        | none => rw [h2] at h; simp at h
        | some q =>
          rw [h2] at h
          simp at h
          subst h
          rw [List.map_cons, ih q h2, ha.eval h1]
  have e : (parts.map fun (p : Nat × Operand) => (p.1, a.eval p.2)) = pv.toArray := Array.ext' (by rw [Array.toList_map]; exact key _ _ hp)
  simp only [execOp, ho]
  simp only [e, Sem.run_bind, hb, Result.andThen_ok, Sem.run_pure]

/-- One state, of a family. -/
def Met {σ : Type} (Vx : σ → List (Nat × Value)) (Lx : σ → List Ent) (I : σ → Prop) (w0 : World) (O : List Nat) (n : Nat) (D : List Deferred) (e : Exit) (a : Act) (w : World) : Prop :=
  e = .normal ∧ ∃ x, I x ∧ Holds n D a (Vx x) ∧ SL w0 O w (Lx x)

theorem CX.cut {r : Option Nat} {Q : Exit → Act → World → Prop} {σ : Type} (Vx : σ → List (Nat × Value)) (Lx : σ → List Ent) (I : σ → Prop) {c d : Code} (h1 : CX P r (Met Vx Lx I w0 O n D) w0 O n D c V L) (h2 : ∀ x, I x → CX P r Q w0 O n D d (Vx x) (Lx x)) :
    CX P r Q w0 O n D (.seq c d) V L := by
  intro a w ha hw
  refine wpIn_seq (wpIn_mono (h1 a w ha hw) ?_)
  rintro e a' w' ⟨rfl, x, hI, ha', hw'⟩
  exact h2 x hI a' w' ha' hw'
theorem XX.meet {σ : Type} {Vx : σ → List (Nat × Value)} {Lx : σ → List Ent} {I : σ → Prop} (x : σ) (hI : I x) (hV : Sub V (Vx x)) (hL : (Lx x).Sublist L) : XX (Met Vx Lx I w0 O n D) w0 O n D .normal V L :=
  fun a w ha hw => ⟨rfl, x, hI, ha.sub hV, hw.sub hL⟩
theorem XX.know {Q : Exit → Act → World → Prop} {e : Exit} {t : Nat} {v u : Value} (hv : lk V t = some v) (h : v = u) (hx : XX Q w0 O n D e ((t, u) :: V) L) : XX Q w0 O n D e V L :=
  fun a w ha hw => hx a w (ha.cons hv h) hw
theorem XX.ents {Q : Exit → Act → World → Prop} {e : Exit} {L' : List Ent} (h : L = L') (hx : XX Q w0 O n D e V L') : XX Q w0 O n D e V L := h ▸ hx
theorem RX.ents {r : Option Nat} {ops : Array Oper} {Q : Exit → Act → World → Prop} {l : List Oper} {L' : List Ent} (h : L = L') (hx : RX P r ops Q w0 O n D l V L') : RX P r ops Q w0 O n D l V L := h ▸ hx
theorem CX.ents {r : Option Nat} {Q : Exit → Act → World → Prop} {c : Code} {L' : List Ent} (h : L = L') (hx : CX P r Q w0 O n D c V L') : CX P r Q w0 O n D c V L := h ▸ hx
end

/-- A call of a function with a body is entered. -/
theorem enters_of {P : Program} {f : FuncId} {fn : Func} {c : Code} (hf : P.funcs[f]? = some fn) (hname : (fn.name == "runtime.NumGoroutine") = false) (hb : fn.body = some c) (args : Array Value) (w : World) :
    (callFunc f args).run P w = .ok (.enter f args) w := by
  have h1 : fn.name ≠ "runtime.NumGoroutine" := by simpa using hname
  simp [callFunc, hf, h1, hb]
end Go.Proofs.YtpcfgoadkfajfaaGreatDoor
namespace Go.Proofs.YtpcfgoadkfajfaaGreatDoor
set_option linter.all false
open Go Go.RowKit

section
variable {P : Program} {w0 : World} {O : List Nat} {n : Nat} {D : List Deferred} {o : Oper} {V : List (Nat × Value)} {L : List Ent} {T : List (Nat × Value) → List Ent → Prop}

theorem plain_of {v : Value} (h : (v.cells.toList.all fun u => u.oneCell') = true) : ∀ u ∈ v.cells.toList, u.oneCell' = true := List.all_eq_true.1 h

/-! ### Maps -/
/-- A map type with keys of type int; its element's zero value. -/
def MapT (P : Program) (t : TypeId) (z : Value) : Prop := ∃ k e i, P.underlying t = some (.map k e) ∧ P.underlying k = some (.int .i64) ∧ P.info? e = some i ∧ i.zero = some z

theorem findNow_int (k : Int) : ∀ (l : List MapEntry) (i : Nat), (∀ e ∈ l, ∃ a, e.key = .int .i64 a) →
    (Instr.findNow (.int .i64) (.int .i64 k) l i = some none ∧ mget k l = none) ∨
    ∃ j e, Instr.findNow (.int .i64) (.int .i64 k) l i = some (some (i + j, e.val)) ∧ l[j]? = some e ∧ e.key = .int .i64 k ∧ mget k l = some e.val ∧
      ∀ (u : Value) k', mget k' (l.modify j fun e => { e with key := .int .i64 k, val := u }) = if k' = k then some u else mget k' l
  | [], i, _ => .inl ⟨rfl, rfl⟩
  | e :: r, i, h => by
    obtain ⟨a, ha⟩ := h e List.mem_cons_self
    by_cases hak : a = k
    · subst hak
      refine .inr ⟨0, e, ?_, rfl, ha, by simp [mget, ha], ?_⟩
      · simp [Instr.findNow, Instr.sameNow, ha]
      · intro u k'
        simp only [List.modify_zero_cons, mget, ha]
        by_cases hk : a = k'
        · simp [hk]
        · simp [hk, Ne.symm hk]
    · have hne : ¬ k = a := fun e => hak e.symm
      have hs : Instr.sameNow (.int .i64) (.int .i64 k) (.int .i64 a) = some false := by simp [Instr.sameNow, hne]
      rcases findNow_int k r (i + 1) (fun e he => h e (List.mem_cons_of_mem _ he)) with ⟨h1, h2⟩ | ⟨j, e', h1, h2, h3, h4, h5⟩
      · exact .inl ⟨by simp [Instr.findNow, ha, hs, h1], by simp [mget, ha, hak, h2]⟩
      · refine .inr ⟨j + 1, e', by simp [Instr.findNow, ha, hs, h1]; omega, by simpa using h2, h3, by simp [mget, ha, hak, h4], ?_⟩
        intro u k'
        simp only [List.modify_succ_cons, mget, ha, h5]
        by_cases hk : a = k'
        · subst hk; simp [hak]
        · simp [hk]

theorem mget_append (k' k : Int) (u : Value) (b : Nat) : ∀ (l : List MapEntry), mget k l = none → (∀ e ∈ l, ∃ a, e.key = .int .i64 a) → mget k' (l ++ [{ key := .int .i64 k, val := u, born := b }]) = if k' = k then some u else mget k' l
  | [], _, _ => by
    by_cases h : k = k'
    · simp [mget, h]
    · simp [mget, h, Ne.symm h]
  | e :: r, h, hk => by
    obtain ⟨a, ha⟩ := hk e List.mem_cons_self
    simp only [mget, ha] at h
    by_cases hak : a = k
    · simp [hak] at h
    · simp only [hak, if_false] at h
      simp only [List.cons_append, mget, ha, mget_append k' k u b r h (fun e he => hk e (List.mem_cons_of_mem _ he))]
      by_cases hak' : a = k'
      · subst hak'; simp [hak]
      · simp [hak']

theorem isKey_int (k : Int) : MapKept.IsKey (.int .i64) (.int .i64 k) := by simp [MapKept.IsKey]

theorem run_lookup_int {w : World} {t : TypeId} {z : Value} {g : Nat} {f : Int → Option Value} (ht : MapT P t z) (h : MapAt w g f) (k : Int) (b : Bool) :
    (Instr.lookup t (.map (some g)) (.int .i64 k) b).run P w = .ok (if b then .tuple #[(f k).getD z, .bool (f k).isSome] else (f k).getD z) w := by
  obtain ⟨kt, et, i, h1, h2, h3, h4⟩ := ht
  obtain ⟨es, clock, hg, hk, hf⟩ := h
  have hz : (zeroValue et).run P w = .ok z w := by simp [zeroValue, typeInfo, h3, h4]
  rcases findNow_int k es.toList 0 hk with ⟨h5, h6⟩ | ⟨j, e, h5, h6, h7, h8, _⟩
  · have : f k = none := by rw [← hf, h6]
    cases b <;> simp [Instr.lookup, run_underlying h1, MapKept.run_getObj_map hg, MapKept.run_checkKey h2 (isKey_int k), MapKept.run_findKey h2 h5, hz, Result.andThen, this]
  · have : f k = some e.val := by rw [← hf, h8]
    cases b <;> simp [Instr.lookup, run_underlying h1, MapKept.run_getObj_map hg, MapKept.run_checkKey h2 (isKey_int k), MapKept.run_findKey h2 h5, hz, Result.andThen, this]

theorem y_lookup {t : TypeId} {m x : Operand} {g i : Nat} {f : Int → Option Value} {k : Int} {z : Value} (ho : o.op = .lookup t m x false) (hm : ev V m = some (.map (some g))) (hx : ev V x = some (.int .i64 k)) (ht : MapT P t z) (hL : L[i]? = some (.imap g f)) :
    Yld P w0 O n D o V L ((f k).getD z) := by
  intro a w ha hw
  have h := run_lookup_int (P := P) ht (hw.ents _ (List.mem_of_getElem? hL)) k false
  simp [execOp, ho, ha.eval hm, ha.eval hx, h]
theorem y_lookupOk {t : TypeId} {m x : Operand} {g i : Nat} {f : Int → Option Value} {k : Int} {z : Value} (ho : o.op = .lookup t m x true) (hm : ev V m = some (.map (some g))) (hx : ev V x = some (.int .i64 k)) (ht : MapT P t z) (hL : L[i]? = some (.imap g f)) :
    Yld P w0 O n D o V L (.tuple #[(f k).getD z, .bool (f k).isSome]) := by
  intro a w ha hw
  have h := run_lookup_int (P := P) ht (hw.ents _ (List.mem_of_getElem? hL)) k true
  simp [execOp, ho, ha.eval hm, ha.eval hx, h]

theorem run_mapUpdate_int {w : World} {t : TypeId} {z : Value} {g : Nat} {f : Int → Option Value} (ht : MapT P t z) (h : MapAt w g f) (k : Int) (u : Value) :
    ∃ es' clock', (Instr.mapUpdate t (.map (some g)) (.int .i64 k) u).run P w = .ok () { w with heap := w.heap.setIfInBounds g (.map es' clock') } ∧
      (∀ e ∈ es'.toList, ∃ a, e.key = .int .i64 a) ∧ ∀ k', mget k' es'.toList = if k' = k then some u else f k' := by
  obtain ⟨kt, et, i, h1, h2, h3, h4⟩ := ht
  obtain ⟨es, clock, hg, hk, hf⟩ := h
  rcases findNow_int k es.toList 0 hk with ⟨h5, h6⟩ | ⟨j, e, h5, h6, h7, h8, h9⟩
  · refine ⟨es.push { key := .int .i64 k, val := u, born := clock }, clock + 1, ?_, ?_, ?_⟩
    · simp [Instr.mapUpdate, run_underlying h1, MapKept.run_getObj_map hg, MapKept.run_checkKey h2 (isKey_int k), MapKept.run_findKey h2 h5, MapKept.run_setObj_map _ hg, Result.andThen]
    · intro e he
      rw [Array.toList_push] at he
      rcases List.mem_append.1 he with he | he
      · exact hk e he
      · rw [List.mem_singleton] at he; subst he; exact ⟨k, rfl⟩
    · intro k'
      rw [Array.toList_push, mget_append k' k u clock es.toList h6 hk, hf]
  · have hj : es[j]? = some e := by simpa using h6
    refine ⟨es.modify j fun e => { e with key := .int .i64 k, val := u }, clock, ?_, ?_, ?_⟩
    · simp only [Nat.zero_add] at h5
      simp [Instr.mapUpdate, run_underlying h1, MapKept.run_getObj_map hg, MapKept.run_checkKey h2 (isKey_int k), MapKept.run_findKey h2 h5, hj, h7, MapKept.run_keyThatStays (isKey_int k), MapKept.run_setObj_map _ hg, Result.andThen]
    · intro e' he
      rw [Array.toList_modify] at he
      obtain ⟨m, hm⟩ := List.mem_iff_getElem?.1 he
      rw [List.getElem?_modify] at hm
      cases hq : es.toList[m]? with
      | none => rw [hq] at hm; simp at hm
      | some e0 =>
        rw [hq] at hm
        simp at hm
        split at hm
        · subst hm; exact ⟨k, rfl⟩
        · subst hm; exact hk e0 (List.mem_of_getElem? hq)
    · intro k'
      rw [Array.toList_modify, h9, hf]

theorem SL.setM {w w' : World} (h : SL w0 O w L) {i g : Nat} {f f' : Int → Option Value} (hL : L[i]? = some (.imap g f)) (hos : w'.os = w.os) (ht : w'.tape = w.tape) (hou : w'.output = w.output)
    (hsz : w'.heap.size = w.heap.size) (hg : MapAt w' g f') (hk : ∀ k, k ≠ g → w'.heap[k]? = w.heap[k]?) : SL w0 O w' (L.set i (.imap g f')) :=
  h.setI hL hos ht hou (Nat.le_of_eq hsz.symm) hg (by simp [Ent.blocks]) (fun b hb => .inl (by simpa [Ent.blocks] using hb)) (fun k _ hkb => hk k (by simpa [Ent.blocks] using hkb))

theorem setMap_SL {w : World} (hw : SL w0 O w L) {i g : Nat} {f f' : Int → Option Value} (hL : L[i]? = some (.imap g f)) {es' : Array MapEntry} {clock' : Nat} (h1 : ∀ e ∈ es'.toList, ∃ a, e.key = .int .i64 a) (h2 : ∀ k, mget k es'.toList = f' k) :
    SL w0 O { w with heap := w.heap.setIfInBounds g (.map es' clock') } (L.set i (.imap g f')) := by
  obtain ⟨es, clock, hg, _, _⟩ : MapAt w g f := hw.ents _ (List.mem_of_getElem? hL)
  exact hw.setM hL rfl rfl rfl (by simp) ⟨es', clock', (MapKept.heap_set hg).1, h1, h2⟩ (fun k hk => (MapKept.heap_set hg).2 k hk)

theorem op_mapUpdate {t : TypeId} {m x y : Operand} {g i : Nat} {f : Int → Option Value} {k : Int} {u z : Value} (ho : o.op = .mapUpdate t m x y ∨ o.op = .insert t m x y) (hd : o.dst = none) (hm : ev V m = some (.map (some g))) (hx : ev V x = some (.int .i64 k)) (hy : ev V y = some u)
    (ht : MapT P t z) (hL : L[i]? = some (.imap g f)) (hT : T V (L.set i (.imap g fun k' => if k' = k then some u else f k'))) : OpS P w0 O n D o V L T := by
  intro a w ha hw
  obtain ⟨es', clock', h1, h2, h3⟩ := run_mapUpdate_int (P := P) ht (hw.ents _ (List.mem_of_getElem? hL)) k u
  have hr : (execOp a.eval o).run P w = .ok .skip { w with heap := w.heap.setIfInBounds g (.map es' clock') } := by
    rcases ho with ho | ho <;> simp [execOp, ho, ha.eval hm, ha.eval hx, ha.eval hy, h1]
  unfold Does
  rw [hr, hd]
  exact ⟨_, _, hT, ha, setMap_SL hw hL h2 h3⟩

theorem op_clearMap {t : TypeId} {x : Operand} {g i : Nat} {f : Int → Option Value} {z : Value} (ho : o.op = .call { callee := .builtin .clear, args := #[x], argTypes := #[t] }) (hd : o.dst = none) (hx : ev V x = some (.map (some g)))
    (ht : MapT P t z) (hL : L[i]? = some (.imap g f)) (hT : T V (L.set i (.imap g fun _ => none))) : OpS P w0 O n D o V L T := by
  intro a w ha hw
  obtain ⟨kt, et, _, h1, _⟩ := ht
  obtain ⟨es, clock, hg, _, _⟩ : MapAt w g f := hw.ents _ (List.mem_of_getElem? hL)
  have hr : (execOp a.eval o).run P w = .ok (.value (.tuple #[])) { w with heap := w.heap.setIfInBounds g (.map #[] clock) } := by
    simp [execOp, ho, resolve, invoke, builtin, ha.eval hx, Builtin.clear_, run_underlying h1, MapKept.run_getObj_map hg, MapKept.run_setObj_map _ hg, Result.andThen]
  unfold Does
  rw [hr, hd]
  exact ⟨_, _, hT, ha, setMap_SL hw hL (by simp) (fun k => rfl)⟩

/-! ### Slicing -/
theorem add_zero' (A : Option Addr) : A.map (·.add 0) = A := by
  cases A with
  | none => rfl
  | some a => simp [Addr.add]

/-- x[:hi] -/
theorem yw_sliceTo {t e : TypeId} {x h : Operand} {A : Option Addr} {len cap sz k : Nat} {q : Int} (ho : o.op = .slice t x none (some h) none) (ht : SlT P t e sz) (hx : ev V x = some (.slice A len cap)) (hy : ev V h = some (.int .i64 q)) (hq : q = (k : Int)) (hk : k ≤ cap) :
    YldW P n D o V (.slice A k cap) := by
  intro a w ha
  obtain ⟨i, h1, h2, h3⟩ := ht
  subst hq
  have e1 : (if cap = 0 then A else A.map (·.add (0 * i.size))) = A := by split <;> simp [add_zero']
  have hk' : (k : Int) ≤ (cap : Int) := by omega
  simp [execOp, ho, ha.eval hx, ha.eval hy, Instr.sliceAt, Instr.slice, run_underlying h1, Instr.sliceBounds, Instr.sliceBound, asIntOf, hk, sizeOf, typeInfo, h2]
  simpa using e1

/-- x[lo:] -/
theorem yw_sliceFrom {t e : TypeId} {x l : Operand} {A : Option Addr} {len cap sz k : Nat} {q : Int} (ho : o.op = .slice t x (some l) none none) (ht : SlT P t e sz) (hx : ev V x = some (.slice A len cap)) (hy : ev V l = some (.int .i64 q)) (hq : q = (k : Int)) (hk : k ≤ len) :
    YldW P n D o V (.slice (if cap = k then A else A.map (·.add (k * sz))) (len - k) (cap - k)) := by
  intro a w ha
  obtain ⟨i, h1, h2, h3⟩ := ht
  subst hq
  subst h3
  have hk' : (k : Int) ≤ (len : Int) := by omega
  simp [execOp, ho, ha.eval hx, ha.eval hy, Instr.sliceAt, Instr.slice, run_underlying h1, Instr.sliceBounds, Instr.sliceBound, asIntOf, hk, sizeOf, typeInfo, h2]

/-- s[:hi] -/
theorem yw_strTo {t : TypeId} {x h : Operand} {s : ByteArray} {k : Nat} {q : Int} (ho : o.op = .slice t x none (some h) none) (ht : P.underlying t = some .string) (hx : ev V x = some (.string s)) (hy : ev V h = some (.int .i64 q)) (hq : q = (k : Int)) (hk : k ≤ s.size) :
    YldW P n D o V (.string (s.extract 0 k)) := by
  intro a w ha
  subst hq
  simp [execOp, ho, ha.eval hx, ha.eval hy, Instr.sliceAt, Instr.slice, run_underlying ht, Instr.sliceBounds, Instr.sliceBound, asIntOf, hk]

/-! ### Structs compared -/
theorem yw_eqlAgg {t u : TypeId} {x y : Operand} {xs ys : Array Value} {b : Bool} (ho : o.op = .binOp .eql t x y u) (hx : ev V x = some (.agg xs)) (hy : ev V y = some (.agg ys)) (hm : P.eqGuardType P.depth t = false)
    (h : ∀ w, (Op.equalIn 10000 t (.agg xs) (.agg ys)).run P w = .ok b w) : YldW P n D o V (.bool b) := by
  intro a w ha
  have h1 := run_eqGuard_agg (P := P) (w := w) .eql t x y xs ys hm
  have h2 := run_eql_struct (P := P) (w := w) t xs ys
  simp [execOp, ho, ha.eval hx, ha.eval hy, h1, h2, h]
theorem yw_neqAgg {t u : TypeId} {x y : Operand} {xs ys : Array Value} {b : Bool} (ho : o.op = .binOp .neq t x y u) (hx : ev V x = some (.agg xs)) (hy : ev V y = some (.agg ys)) (hm : P.eqGuardType P.depth t = false)
    (h : ∀ w, (Op.equalIn 10000 t (.agg xs) (.agg ys)).run P w = .ok b w) : YldW P n D o V (.bool (!b)) := by
  intro a w ha
  have h1 := run_eqGuard_agg (P := P) (w := w) .neq t x y xs ys hm
  have h2 := run_neq_struct (P := P) (w := w) t xs ys
  simp [execOp, ho, ha.eval hx, ha.eval hy, h1, h2, h]

/-! ### An array behind a pointer -/
/-- Element k of the array of sz-cell elements that begins at block b. -/
theorem yw_indexArr {t e : TypeId} {x y : Operand} {b len sz k : Nat} {q : Int} (ho : o.op = .indexAddr t x y) (ht : P.underlying t = some (.array len e)) (hs : SzT P e sz) (hx : ev V x = some (.pointer (some ⟨b, 0, none⟩))) (hy : ev V y = some (.int .i64 q)) (hq : q = (k : Int)) (hk : k < len) :
    YldW P n D o V (.pointer (some ⟨b, k * sz, none⟩)) := by
  intro a w ha
  obtain ⟨i, h2, h3⟩ := hs
  subst hq
  have h4 : (0 : Int) ≤ (k : Int) ∧ (k : Int) < (len : Int) := by omega
  simp [execOp, ho, ha.eval hx, ha.eval hy, Instr.indexAt, Instr.sureAddr, asIntOf, run_underlying ht, sizeOf, typeInfo, h2, h3, hk, add_none]

/-- A cell that lay ahead of the call. -/
theorem y_loadG {t : TypeId} {x : Operand} {b j : Nat} {v : Value} (ho : o.op = .load t x) (hx : ev V x = some (.pointer (some ⟨b, j, none⟩))) (h1 : One P t) (hc : w0.cell? ⟨b, j, none⟩ = some v) (hO : b ∉ O) : Yld P w0 O n D o V L v := by
  intro a w ha hw
  have hb : (⟨b, j, none⟩ : Addr).block < w0.heap.size := World.block_lt_of_cell? w0 _ hc
  have hcell : w.cell? ⟨b, j, none⟩ = some v := by rw [hw.cell0 hb hO]; exact hc
  simp [execOp, ho, ha.eval hx, Instr.loadAt, Instr.sureAddr, run_load_one h1 hcell]

/-! ### Shifts -/
theorem yw_shr1 {t u : TypeId} {x y : Operand} {k : IntKind} {a : Int} (ho : o.op = .binOp .shr t x y u) (hx : ev V x = some (.int .u64 a)) (hy : ev V y = some (.int k 1)) : YldW P n D o V (.int .u64 (a / 2)) := by
  intro c w ha
  have := shift_shr_any .u64 k a 1 (by decide)
  have e : min (1 : Int).toNat IntKind.u64.bits = 1 := by decide
  rw [e] at this
  simp [execOp, ho, ha.eval hx, ha.eval hy, eqGuard, binOp, this]

/-! ### Clearing a slice's tail -/
theorem Ent.take {w : World} {A : Option Addr} {cap : Nat} {e : TypeId} {sz : Nat} {xs : List (Array Value)} (h : (Ent.row A cap e sz xs).sat w) (k : Nat) (hk : k ≤ xs.length) : (Ent.row A cap e sz (xs.take k)).sat w := by
  obtain ⟨⟨h1, h2⟩, h3⟩ := h
  have hlen : (xs.take k).length = k := by simp; omega
  have h3' : ∀ c ∈ xs.take k, c.size = sz ∧ ∀ u ∈ c.toList, u.oneCell' = true := fun c hc => h3 c (List.mem_of_mem_take hc)
  have hfl := flat_length (fun c hc => (h3 c hc).1)
  have hft : flat (xs.take k) = (flat xs).take (k * sz) := by
    have e0 : flat xs = flat (xs.take k) ++ flat (xs.drop k) := by rw [← flat_append, List.take_append_drop]
    have e1 : (flat (xs.take k)).length = k * sz := by rw [flat_length (fun c hc => (h3' c hc).1), hlen]
    rw [e0, List.take_append_of_le_length (Nat.le_of_eq e1.symm), List.take_of_length_le (Nat.le_of_eq e1)]
  refine ⟨⟨flat_length (fun c hc => (h3' c hc).1), ?_⟩, h3'⟩
  rcases h2 with ⟨hv, hn⟩ | ⟨g, cp, cur, hv, hb, hg, hnc, hcm, hcs, ht⟩
  · injection hv with hA _ hc
    subst hA; subst hc
    exact .inl ⟨by simp; omega, by omega⟩
  · injection hv with hA _ hc
    subst hA; subst hc
    refine .inr ⟨g, cap, cur, rfl, hb, hg, by omega, hcm, hcs, ?_⟩
    rw [hft, hlen, ← ht, List.take_take, Nat.min_eq_left (Nat.mul_le_mul_right _ hk)]

theorem op_clearTail {t e : TypeId} {x : Operand} {A : Option Addr} {cap sz bytes k i len : Nat} {z : Value} {xs : List (Array Value)} (ho : o.op = .call { callee := .builtin .clear, args := #[x], argTypes := #[t] }) (hd : o.dst = none)
    (ht : SlB P t e sz bytes z) (hz1 : ∀ u ∈ z.cells.toList, u.oneCell' = true)
    (hx : ev V x = some (.slice (if cap = k then A else A.map (·.add (k * sz))) (len - k) (cap - k))) (hL : L[i]? = some (.row A cap e sz xs)) (hlen : xs.length = len) (hk : k ≤ len)
    (hT : T V (L.set i (.row A cap e sz (xs.take k)))) : OpS P w0 O n D o V L T := by
  intro a w ha hw
  subst hlen
  have hzs := ht.zs
  have hsat := hw.ents _ (List.mem_of_getElem? hL)
  have hsat' := Ent.take hsat k hk
  unfold Does
  by_cases hfull : xs.length - k = 0
  · have hr : (execOp a.eval o).run P w = .ok (.value (.tuple #[])) w := by
      have h0 := ht.under
      have hx' := ha.eval hx
      generalize (if cap = k then A else A.map (·.add (k * sz))) = B at hx'
      rw [hfull] at hx'
      cases B <;> simp [execOp, ho, resolve, hx', invoke, builtin, Builtin.clear_, run_underlying h0]
    rw [hr, hd]
    exact ⟨_, _, hT, ha, hw.setI hL rfl rfl rfl (Nat.le_refl _) hsat' row_blocks_nodup (fun b hb => .inl hb) (fun _ _ _ => rfl)⟩
  · obtain ⟨⟨hl, h2⟩, hxs⟩ := hsat
    rcases h2 with ⟨hvv, hn⟩ | ⟨g, cp, cur, hvv, _, hg, hnc, hcm, hcs, htake⟩
    · omega
    · injection hvv with hA hn hc
      subst hA; subst hc
      have hne : cap ≠ k := by omega
      have hx' : a.eval x = .slice (some ⟨g, k * sz, none⟩) (xs.length - k) (cap - k) := by
        rw [ha.eval hx, if_neg hne]
        simp [add_none]
      obtain ⟨m, hm⟩ : ∃ m, xs.length - k = m + 1 := ⟨xs.length - k - 1, by omega⟩
      have hzl : (Builtin.zeroCells z.cells (xs.length - k)).toList.length = (xs.length - k) * sz := by simp [Builtin.zeroCells, hzs]
      have hz1' : ∀ u ∈ (Builtin.zeroCells z.cells (xs.length - k)).toList, u.oneCell' = true := by
        intro u hu
        simp only [Builtin.zeroCells, Array.toList_map, List.mem_map, Array.mem_toList_iff, Array.mem_range] at hu
        obtain ⟨j, hj, rfl⟩ := hu
        have hpos : 0 < z.cells.size := by
          rcases Nat.eq_zero_or_pos z.cells.size with h | h
          · rw [h] at hj; omega
          · exact h
        have hlt := Nat.mod_lt j hpos
        rw [getElem!_pos z.cells (j % z.cells.size) hlt]
        exact hz1 _ (by simp)
      have hle : xs.length * sz ≤ cap * sz := Nat.mul_le_mul_right _ hnc
      have hsub : (xs.length - k) * sz = xs.length * sz - k * sz := Nat.sub_mul _ _ _
      have hkle : k * sz ≤ xs.length * sz := Nat.mul_le_mul_right _ hk
      have hst := run_storeCells_at P g (k * sz) e (Builtin.zeroCells z.cells (xs.length - k)).toList 0 cur w hg (by rw [hzl]; omega) hz1'
      have hr : (execOp a.eval o).run P w = .ok (.value (.tuple #[])) (w.setRow g (cur.toList.take (k * sz) ++ (Builtin.zeroCells z.cells (xs.length - k)).toList ++ cur.toList.drop (k * sz + (xs.length - k) * sz)).toArray) := by
        have h0 := ht.under
        obtain ⟨inf, hi, hzz, _, _⟩ := ht.info
        have hzv : (zeroValue e).run P w = .ok z w := by simp [zeroValue, typeInfo, hi, hzz]
        rw [hm] at hst hx'
        simp only [Nat.add_zero] at hst
        simp [execOp, ho, resolve, invoke, builtin, hx', Builtin.clear_, run_underlying h0, hzv, hst]
        rw [← hm, Array.length_toList] at *
        simp [hm] at hzl ⊢
        rw [hzl]
      rw [hr, hd]
      refine ⟨_, _, hT, ha, hw.setI hL rfl rfl rfl (by simp) ?_ row_blocks_nodup (fun b hb => .inl hb) (fun j _ hj => setRow_other w g j _ (by simpa [Ent.blocks] using hj))⟩
      have hlen : (xs.take k).length = k := by simp; omega
      obtain ⟨⟨h1', h2'⟩, h3'⟩ := hsat'
      refine ⟨⟨h1', .inr ⟨g, cap, _, rfl, Nat.zero_le _, setRow_heap w g cur _ e _ hg, by omega, hcm, ?_, ?_⟩⟩, h3'⟩
      · have : (Builtin.zeroCells z.cells (xs.length - k)).size = (xs.length - k) * sz := by simpa using hzl
        simp [this]; omega
      · rcases h2' with ⟨hv, _⟩ | ⟨g', cp', cur', hv, _, hg', _, _, _, ht'⟩
        · cases hv
        · injection hv with hA' _ _
          injection hA' with hA'
          injection hA' with hgg _ _
          subst hgg
          have : cur' = cur := by
            rw [hg] at hg'; injection hg' with hg'; injection hg' with hg' _; exact hg'.symm
          subst this
          rw [← ht', hlen]
          have hclen : cur'.toList.length = cap * sz := by simpa using hcs
          simp only [List.toList_toArray, List.append_assoc]
          rw [List.take_append_of_le_length (by rw [List.length_take, hclen]; omega), List.take_take, Nat.min_self]
end
end Go.Proofs.YtpcfgoadkfajfaaGreatDoor
namespace Go.Proofs.YtpcfgoadkfajfaaGreatDoor
set_option linter.all false
open Go Go.RowKit

theorem perm_pick {α : Type} : ∀ {l : List α} (i : Nat) {p : α}, l[i]? = some p → l.Perm (p :: l.eraseIdx i)
  | [], i, p, h => by simp at h
  | a :: l, 0, p, h => by
    have : a = p := by simpa using h
    subst this; exact List.Perm.refl _
  | a :: l, i + 1, p, h => by
    have h' : l[i]? = some p := by simpa using h
    exact ((perm_pick i h').cons a).trans (List.Perm.swap _ _ _)
theorem perm_pick2 {α : Type} {l : List α} (i j : Nat) {p q : α} (h : l[i]? = some p) (h' : (l.eraseIdx i)[j]? = some q) : l.Perm ([p, q] ++ (l.eraseIdx i).eraseIdx j) :=
  (perm_pick i h).trans ((perm_pick j h').cons _)
theorem perm_pick1 {α : Type} {l : List α} (i : Nat) {p : α} (h : l[i]? = some p) : l.Perm ([p] ++ l.eraseIdx i) := perm_pick i h

section
variable {P : Program} {w0 : World} {O : List Nat} {n : Nat} {D : List Deferred} {o : Oper} {V : List (Nat × Value)} {L : List Ent} {T : List (Nat × Value) → List Ent → Prop}

/-- The entries M, as another call finds them. -/
theorem SL.restart {w : World} (h : SL w0 O w L) {M R : List Ent} (hL : L.Perm (M ++ R)) : SL w (M.flatMap Ent.blocks) w M := by
  have h' := h.perm hL
  refine SL.start w M (fun p hp => h'.ents p (List.mem_append_left _ hp)) ?_
  have := h'.nodup
  rw [List.flatMap_append] at this
  exact (List.nodup_append.1 this).1

/-- A callee that is handed the entries M. -/
theorem op_callP {f : Operand} {xs : Array Operand} {ts : Array TypeId} {k d : Nat} {cap : Array Value} {vs : List Value} {σ : Type} {val : σ → Value} {LL : σ → List Ent} {post : σ → Prop} (M R : List Ent)
    (ho : o.op = .call { callee := .value f, args := xs, argTypes := ts }) (hd : o.dst = some d) (hdn : Nat.blt d n = true) (hf : ev V f = some (.func (.func k) #[] cap)) (hx : evs V xs.toList = some vs)
    (ent : ∀ args w, (callFunc k args).run P w = .ok (.enter k args) w) (hL : L.Perm (M ++ R))
    (hc : ∀ w, SL w0 O w (M ++ R) → SL w (M.flatMap Ent.blocks) w M → Calls P k (vs.toArray ++ cap) w fun e w' => ∃ x, post x ∧ e = .returned (val x) ∧ SL w (M.flatMap Ent.blocks) w' (LL x))
    (hT : ∀ x, post x → T ((d, val x) :: V) (LL x ++ R)) : OpS P w0 O n D o V L T := by
  have h := op_call (P := P) (w0 := w0) (O := O) (n := n) (D := D) (o := o) (V := V) (L := M ++ R) (T := T) ho hd hdn hf hx ent rfl (fun w hw => hc w hw (hw.restart (List.Perm.refl _))) hT
  intro a w ha hw
  exact h a w ha (hw.perm hL)

/-- An entry known otherwise. -/
theorem RX.know1 {r : Option Nat} {ops : Array Oper} {Q : Exit → Act → World → Prop} {l : List Oper} (i : Nat) {p q : Ent} (hL : L[i]? = some p) (e : p = q) (h : RX P r ops Q w0 O n D l V (L.set i q)) : RX P r ops Q w0 O n D l V L := by
  subst e
  have : L.set i p = L := by
    obtain ⟨hi, h⟩ := List.getElem?_eq_some_iff.1 hL
    subst h; exact List.set_getElem_self hi
  rw [this] at h
  exact h

theorem SL.pick {w : World} (h : SL w0 O w L) {L' R : List Ent} (hL : L.Perm (L' ++ R)) : SL w0 O w L' := (h.perm hL).sub (List.sublist_append_left _ _)

theorem XX.meetP {σ : Type} {Vx : σ → List (Nat × Value)} {Lx : σ → List Ent} {I : σ → Prop} (R : List Ent) (x : σ) (hI : I x) (hV : Sub V (Vx x)) (hL : L.Perm (Lx x ++ R)) : XX (Met Vx Lx I w0 O n D) w0 O n D .normal V L :=
  fun a w ha hw => ⟨rfl, x, hI, ha.sub hV, hw.pick hL⟩
theorem XX.againP {Q : Exit → Act → World → Prop} {σ : Type} {Vx : σ → List (Nat × Value)} {Lx : σ → List Ent} {I : σ → Prop} {m : σ → Nat} {k : Nat} (R : List Ent) (x : σ) (hm : m x < k) (hI : I x) (hV : Sub V (Vx x)) (hL : L.Perm (Lx x ++ R)) :
    XX (Exit.then (Again Vx Lx I m w0 O n D k) Q) w0 O n D .normal V L :=
  fun a w ha hw => ⟨m x, hm, x, rfl, hI, ha.sub hV, hw.pick hL⟩
theorem CX.drawL {r : Option Nat} {Q : Exit → Act → World → Prop} {id : Nat} {l : List Oper} (th : Nat) (LS : List Ent) (tab : Tab) (hm : P.follows .mixedOrders = true) (ht : tabOf l.toArray = tab) (hs : Region.noSelect l.toArray = true) (h : DX P l.toArray tab Q w0 O n D th LS l.toArray.size 0 V L) : CX P r Q w0 O n D (.region id l.toArray true) V L := by
  intro a w ha hw
  refine wpIn_region_any hm ?_
  rw [← maskA_zero]
  exact wpAnyN.sound _ _ _ _ (h (Fits.start hs ht) a _ ha (hw.drew _))
theorem y_lookupE {t : TypeId} {m x : Operand} {g i : Nat} {f : Int → Option Value} {k : Int} {z v : Value} (ho : o.op = .lookup t m x false) (hm : ev V m = some (.map (some g))) (hx : ev V x = some (.int .i64 k)) (ht : MapT P t z) (hL : L[i]? = some (.imap g f)) (hv : (f k).getD z = v) :
    Yld P w0 O n D o V L v := hv ▸ y_lookup ho hm hx ht hL
end
end Go.Proofs.YtpcfgoadkfajfaaGreatDoor
namespace Go.Proofs.YtpcfgoadkfajfaaGreatDoor
set_option linter.all false
open Go Go.RowKit
section
variable {P : Program} {w : World}
theorem fieldsOf_of {t : TypeId} {fs : Array Field} (h : P.underlying t = some (.struct fs)) : P.fieldsOf t = fs := by simp [Program.fieldsOf, h]
theorem run_part_one {t : TypeId} {xs : Array Value} {off : Nat} {v : Value} (h : One P t) (hx : xs[off]? = some v) : (part t xs off).run P w = .ok v w := by
  obtain ⟨d, hd, h1⟩ := h
  have : (isAgg t).run P w = .ok false w := by
    simp only [isAgg, Sem.run_bind, run_underlying hd, Result.andThen_ok]
    cases d <;> simp [oneB] at h1 ⊢
  simp [part, Sem.run_bind, this, hx]
theorem eqF_nil {d : Nat} {xs ys : Array Value} : (Op.eqFields (d + 1) xs ys []).run P w = .ok true w := by simp [Op.eqFields]
theorem eqF_int {d : Nat} {xs ys : Array Value} {f : Field} {fs : List Field} {k k' : IntKind} {a b : Int} {r : Bool} (hn : (f.name == "_") = false) (ht : P.underlying f.type = some (.int k')) (hx : xs[f.offset]? = some (.int k a)) (hy : ys[f.offset]? = some (.int k b))
    (h : (Op.eqFields (d + 1) xs ys fs).run P w = .ok r w) : (Op.eqFields (d + 1) xs ys (f :: fs)).run P w = .ok (a == b && r) w := by
  have hn' : f.name ≠ "_" := by simpa using hn
  have h1 : One P f.type := ⟨_, ht, rfl⟩
  simp only [Op.eqFields, hn', ne_eq, not_false_eq_true, if_true, Sem.run_bind, run_part_one h1 hx, run_part_one h1 hy, Result.andThen_ok, run_equalIn_int w d f.type k k' a b ht]
  cases a == b <;> simp [h]
theorem eqF_str {d : Nat} {xs ys : Array Value} {f : Field} {fs : List Field} {a b : ByteArray} {r : Bool} (hn : (f.name == "_") = false) (ht : P.underlying f.type = some .string) (hx : xs[f.offset]? = some (.string a)) (hy : ys[f.offset]? = some (.string b))
    (h : (Op.eqFields (d + 1) xs ys fs).run P w = .ok r w) : (Op.eqFields (d + 1) xs ys (f :: fs)).run P w = .ok (a.toList == b.toList && r) w := by
  have hn' : f.name ≠ "_" := by simpa using hn
  have h1 : One P f.type := ⟨_, ht, rfl⟩
  simp only [Op.eqFields, hn', ne_eq, not_false_eq_true, if_true, Sem.run_bind, run_part_one h1 hx, run_part_one h1 hy, Result.andThen_ok, run_equalIn_string w d f.type a b ht]
  cases a.toList == b.toList <;> simp [h]
theorem equal_of {d : Nat} {t : TypeId} {xs ys : Array Value} {fs : Array Field} {r : Bool} (ht : P.underlying t = some (.struct fs)) (hp : P.stoodInHeld t = false) (h : (Op.eqFields d xs ys fs.toList).run P w = .ok r w) : (Op.equalIn (d + 1) t (.agg xs) (.agg ys)).run P w = .ok r w := by
  have e := fieldsOf_of ht
  rw [run_equalIn_agg w d t xs ys (by rw [e]; exact ht) hp, e]
  exact h
theorem y_lookupOkE {w0 : World} {O : List Nat} {n : Nat} {D : List Deferred} {o : Oper} {V : List (Nat × Value)} {L : List Ent} {t : TypeId} {m x : Operand} {g i : Nat} {f : Int → Option Value} {k : Int} {z v : Value} (ho : o.op = .lookup t m x true) (hm : ev V m = some (.map (some g))) (hx : ev V x = some (.int .i64 k)) (ht : MapT P t z) (hL : L[i]? = some (.imap g f)) (hf : f k = some v) :
    Yld P w0 O n D o V L (.tuple #[v, .bool true]) := by
  have := y_lookupOk (P := P) (w0 := w0) (O := O) (n := n) (D := D) ho hm hx ht hL
  rw [hf] at this
  exact this
theorem SL.cellOf {w0 : World} {O : List Nat} {L : List Ent} (hw : SL w0 O w L) {g i j : Nat} {cs : Array Value} {t : TypeId} {fr : Nat × Nat} {v : Value} (hL : L[i]? = some (.blk g (.cells cs t fr))) (hv : cs[j]? = some v) : w.cell? ⟨g, j, none⟩ = some v := by
  rw [cell_of_row w g j cs t fr (hw.ents _ (List.mem_of_getElem? hL))]; exact hv
end
theorem op_storeElemE {P : Program} {w0 : World} {O : List Nat} {n : Nat} {D : List Deferred} {o : Oper} {V : List (Nat × Value)} {L : List Ent} {T : List (Nat × Value) → List Ent → Prop} {t e : TypeId} {x y : Operand} {A : Option Addr} {cap sz k i : Nat} {v : Value} {xs ys : List (Array Value)} (ho : o.op = .store t x y) (hd : o.dst = none) (hx : ev V x = some (.pointer (some ⟨ab A, ao A + k * sz, none⟩))) (hy : ev V y = some v) (hs : SzT P t sz)
    (hv : v.cells.size = sz) (h1 : ∀ u ∈ v.cells.toList, u.oneCell' = true) (hL : L[i]? = some (.row A cap e sz xs)) (hk : k < xs.length) (hset : xs.set k v.cells = ys)
    (hT : T V (L.set i (.row A cap e sz ys))) : OpS P w0 O n D o V L T :=
  op_storeElem ho hd hx hy hs hv h1 hL hk (by rw [hset]; exact hT)
/-! ### Append, of elements under an encoding -/
section
variable {P : Program} {w0 : World} {O : List Nat} {n : Nat} {D : List Deferred} {o : Oper} {V : List (Nat × Value)} {L : List Ent} {T : List (Nat × Value) → List Ent → Prop}
theorem op_appendM {α : Type} (enc : α → Array Value) {x y : Operand} {t e : TypeId} {d sz bytes i j : Nat} {z : Value} {A B : Option Addr} {cap c capy m : Nat} {ey : TypeId} {xs : List α} (ys : List α) {yc : List (Array Value)}
    (ho : o.op = .call { callee := .builtin .append, args := #[x, y], argTypes := #[t, t] }) (hd : o.dst = some d) (hdn : Nat.blt d n = true) (ht : SlB P t e sz bytes z) (hx : ev V x = some (.slice A xs.length cap)) (hL : L[i]? = some (.row A cap e sz (xs.map enc)))
    (hy : ev V y = some (.slice B m c)) (hm : ys.length = m) (hLy : L[j]? = some (.row B capy ey sz yc)) (hyc : ys.map enc = yc) (h63 : xs.length + ys.length ≤ 9223372036854775807) (hby : (xs.length + ys.length) * bytes ≤ 140737488355328)
    (hT : ∀ A' cap', T ((d, .slice A' (xs ++ ys).length cap') :: V) (L.set i (.row A' cap' e sz ((xs ++ ys).map enc)))) : OpS P w0 O n D o V L T := by
  subst hyc
  subst hm
  have e1 : (xs.map enc).length = xs.length := List.length_map _
  have e2 : (xs.map enc ++ ys.map enc) = (xs ++ ys).map enc := List.map_append.symm
  refine op_append (xs := xs.map enc) (ys := ys.map enc) ho hd hdn ht (by rw [e1]; exact hx) hL hy (List.length_map _) hLy (by rw [e1]; exact h63) (by rw [e1]; exact hby) fun A' cap' => ?_
  rw [e2, List.length_map]
  exact hT A' cap'
theorem op_appendM0 {α : Type} (enc : α → Array Value) {x y : Operand} {t e : TypeId} {d sz bytes i : Nat} {z : Value} {A B : Option Addr} {cap c m : Nat} {xs : List α} (ys : List α)
    (ho : o.op = .call { callee := .builtin .append, args := #[x, y], argTypes := #[t, t] }) (hd : o.dst = some d) (hdn : Nat.blt d n = true) (ht : SlB P t e sz bytes z) (hx : ev V x = some (.slice A xs.length cap)) (hL : L[i]? = some (.row A cap e sz (xs.map enc)))
    (hy : ev V y = some (.slice B m c)) (hm : ys.length = m) (hr : Rd w0 B sz (ys.map enc)) (hO : ab B ∉ O) (h63 : xs.length + ys.length ≤ 9223372036854775807) (hby : (xs.length + ys.length) * bytes ≤ 140737488355328)
    (hT : ∀ A' cap', T ((d, .slice A' (xs ++ ys).length cap') :: V) (L.set i (.row A' cap' e sz ((xs ++ ys).map enc)))) : OpS P w0 O n D o V L T := by
  subst hm
  have e1 : (xs.map enc).length = xs.length := List.length_map _
  have e2 : (xs.map enc ++ ys.map enc) = (xs ++ ys).map enc := List.map_append.symm
  refine op_append0 (xs := xs.map enc) (ys := ys.map enc) ho hd hdn ht (by rw [e1]; exact hx) hL hy (List.length_map _) hr hO (by rw [e1]; exact h63) (by rw [e1]; exact hby) fun A' cap' => ?_
  rw [e2, List.length_map]
  exact hT A' cap'
theorem RX.rowNil {r : Option Nat} {ops : Array Oper} {Q : Exit → Act → World → Prop} {l : List Oper} (e : TypeId) (sz : Nat) (h : RX P r ops Q w0 O n D l V (.row none 0 e sz [] :: L)) : RX P r ops Q w0 O n D l V L :=
  fun a w ha hw => h a w ha (hw.rowNil e sz)
theorem Ent.some {w : World} {A : Option Addr} {cap : Nat} {e : TypeId} {sz : Nat} {xs : List (Array Value)} (h : (Ent.row A cap e sz xs).sat w) (hl : 0 < xs.length) : ∃ b j, A = Option.some ⟨b, j, none⟩ := by
  obtain ⟨⟨_, h2⟩, _⟩ := h
  rcases h2 with ⟨_, hn⟩ | ⟨g, _, _, hv, _⟩
  · omega
  · injection hv with hA _ _
    exact ⟨g, 0, hA⟩
/-- A slice's address, known ahead of a step. -/
theorem RX.rowSome {r : Option Nat} {ops : Array Oper} {Q : Exit → Act → World → Prop} {l : List Oper} (i : Nat) {A : Option Addr} {cap : Nat} {e : TypeId} {sz : Nat} {xs : List (Array Value)} (hL : L[i]? = Option.some (.row A cap e sz xs)) (hl : 0 < xs.length)
    (h : (∃ b j, A = Option.some ⟨b, j, none⟩) → RX P r ops Q w0 O n D l V L) : RX P r ops Q w0 O n D l V L :=
  fun a w ha hw => h (Ent.some (hw.ents _ (List.mem_of_getElem? hL)) hl) a w ha hw
theorem CX.rowSome {r : Option Nat} {Q : Exit → Act → World → Prop} {c : Code} (i : Nat) {A : Option Addr} {cap : Nat} {e : TypeId} {sz : Nat} {xs : List (Array Value)} (hL : L[i]? = Option.some (.row A cap e sz xs)) (hl : 0 < xs.length)
    (h : (∃ b j, A = Option.some ⟨b, j, none⟩) → CX P r Q w0 O n D c V L) : CX P r Q w0 O n D c V L :=
  fun a w ha hw => h (Ent.some (hw.ents _ (List.mem_of_getElem? hL)) hl) a w ha hw
end
end Go.Proofs.YtpcfgoadkfajfaaGreatDoor
namespace Go.Proofs.YtpcfgoadkfajfaaGreatDoor
set_option linter.all false
namespace Srt
variable {α : Type}

/-- Insert behind all elements that are not greater. -/
def ins (lt : α → α → Bool) (x : α) : List α → List α
  | [] => [x]
  | y :: r => if lt x y then x :: y :: r else y :: ins lt x r

/-- The stable sort. -/
def isort (lt : α → α → Bool) (l : List α) : List α := l.foldl (fun acc x => ins lt x acc) []

theorem ins_cons (lt : α → α → Bool) (x y : α) (r : List α) : ins lt x (y :: r) = if lt x y then x :: y :: r else y :: ins lt x r := rfl
theorem isort_nil (lt : α → α → Bool) : isort lt [] = [] := rfl
theorem isort_snoc (lt : α → α → Bool) (l : List α) (x : α) : isort lt (l ++ [x]) = ins lt x (isort lt l) := by
  simp [isort, List.foldl_append]

theorem ins_perm (lt : α → α → Bool) (x : α) : ∀ l, (ins lt x l).Perm (x :: l)
  | [] => List.Perm.refl _
  | y :: r => by
    unfold ins
    split
    · exact List.Perm.refl _
    · exact ((ins_perm lt x r).cons y).trans (List.Perm.swap x y r)

theorem foldl_ins_perm (lt : α → α → Bool) : ∀ (l acc : List α), (l.foldl (fun acc x => ins lt x acc) acc).Perm (acc ++ l)
  | [], acc => by simp
  | x :: l, acc => by
    simp only [List.foldl_cons]
    refine (foldl_ins_perm lt l _).trans ?_
    have h1 : (ins lt x acc ++ l).Perm ((x :: acc) ++ l) := (ins_perm lt x acc).append_right l
    refine h1.trans ?_
    have h2 : (x :: acc ++ l).Perm (acc ++ x :: l) := by
      simpa using (List.perm_middle (a := x) (l₁ := acc) (l₂ := l)).symm
    exact h2

theorem isort_perm (lt : α → α → Bool) (l : List α) : (isort lt l).Perm l := by
  simpa [isort] using foldl_ins_perm lt l []

/-- A strict weak order. -/
structure SWO (lt : α → α → Bool) : Prop where
  irrefl : ∀ a, lt a a = false
  trans : ∀ a b c, lt a b = true → lt b c = true → lt a c = true
  ntrans : ∀ a b c, lt a b = false → lt b c = false → lt a c = false

/-- No later element is less than an earlier one. -/
def Sorted (lt : α → α → Bool) (l : List α) : Prop := l.Pairwise (fun a b => lt b a = false)

theorem mem_ins (lt : α → α → Bool) (x y : α) (l : List α) : y ∈ ins lt x l ↔ y = x ∨ y ∈ l := by
  rw [(ins_perm lt x l).mem_iff]; simp

theorem SWO.asymm {lt : α → α → Bool} (h : SWO lt) {a b : α} (hab : lt a b = true) : lt b a = false := by
  cases hb : lt b a with
  | false => rfl
  | true => have := h.trans a b a hab hb; rw [h.irrefl] at this; cases this

theorem ins_sorted {lt : α → α → Bool} (h : SWO lt) (x : α) : ∀ {l}, Sorted lt l → Sorted lt (ins lt x l)
  | [], _ => by simp [ins, Sorted]
  | y :: r, hs => by
    unfold Sorted at hs
    rw [List.pairwise_cons] at hs
    unfold ins
    by_cases hxy : lt x y = true
    · rw [if_pos hxy]
      unfold Sorted
      rw [List.pairwise_cons, List.pairwise_cons]
      refine ⟨?_, hs.1, hs.2⟩
      intro z hz
      rcases List.mem_cons.1 hz with rfl | hz
      · exact h.asymm hxy
      · cases hzx : lt z x with
        | false => rfl
        | true => have := h.trans z x y hzx hxy; rw [hs.1 z hz] at this; cases this
    · rw [if_neg hxy]
      unfold Sorted
      rw [List.pairwise_cons]
      refine ⟨?_, ins_sorted h x hs.2⟩
      intro z hz
      rcases (mem_ins lt x z r).1 hz with rfl | hz
      · simpa using hxy
      · exact hs.1 z hz

theorem isort_sorted {lt : α → α → Bool} (h : SWO lt) (l : List α) : Sorted lt (isort lt l) := by
  have : ∀ (l acc : List α), Sorted lt acc → Sorted lt (l.foldl (fun acc x => ins lt x acc) acc) := by
    intro l
    induction l with
    | nil => intro acc ha; exact ha
    | cons x l ih => intro acc ha; exact ih _ (ins_sorted h x ha)
  exact this l [] List.Pairwise.nil

/-- Sorted by a total strict order: unique among permutations. -/
theorem sorted_unique {lt : α → α → Bool} (hirr : ∀ a, lt a a = false) (htr : ∀ a b c, lt a b = true → lt b c = true → lt a c = true) :
    ∀ (l m : List α), l.Pairwise (fun a b => lt a b = true) → m.Pairwise (fun a b => lt a b = true) → l.Perm m → l = m
  | [], m, _, _, hp => by
    have := hp.length_eq
    cases m with
    | nil => rfl
    | cons => simp at this
  | x :: l, [], _, _, hp => by have := hp.length_eq; simp at this
  | x :: l, y :: m, hl, hm, hp => by
    rw [List.pairwise_cons] at hl hm
    have hxy : x = y := by
      have h1 : x ∈ y :: m := hp.mem_iff.1 List.mem_cons_self
      have h2 : y ∈ x :: l := hp.mem_iff.2 List.mem_cons_self
      rcases List.mem_cons.1 h1 with h1 | h1
      · exact h1
      · rcases List.mem_cons.1 h2 with h2 | h2
        · exact h2.symm
        · have a := hm.1 x h1
          have b := hl.1 y h2
          have c := htr x y x b a
          rw [hirr] at c; cases c
    subst hxy
    rw [sorted_unique hirr htr l m hl.2 hm.2 (List.Perm.cons_inv hp)]

/-! ### Tags -/
/-- By the key, then by the tag. -/
def ltT (lt : α → α → Bool) (x y : α × Nat) : Bool := lt x.1 y.1 || (!lt y.1 x.1 && decide (x.2 < y.2))

theorem ltT_irrefl {lt : α → α → Bool} (h : SWO lt) (x : α × Nat) : ltT lt x x = false := by
  simp [ltT, h.irrefl]

theorem ltT_trans {lt : α → α → Bool} (h : SWO lt) (x y z : α × Nat) (h1 : ltT lt x y = true) (h2 : ltT lt y z = true) : ltT lt x z = true := by
  simp only [ltT, Bool.or_eq_true, Bool.and_eq_true, Bool.not_eq_true', decide_eq_true_eq] at *
  rcases h1 with h1 | ⟨h1, h1'⟩
  · rcases h2 with h2 | ⟨h2, h2'⟩
    · exact .inl (h.trans _ _ _ h1 h2)
    · left
      cases hxz : lt x.1 z.1 with
      | true => rfl
      | false => have := h.ntrans _ _ _ hxz h2; rw [h1] at this; cases this
  · rcases h2 with h2 | ⟨h2, h2'⟩
    · left
      cases hxz : lt x.1 z.1 with
      | true => rfl
      | false => have := h.ntrans _ _ _ h1 hxz; rw [h2] at this; cases this
    · right
      exact ⟨h.ntrans _ _ _ h2 h1, by omega⟩

/-- With a later tag on the left, the key decides. -/
theorem ltT_of_gt {lt : α → α → Bool} {x y : α × Nat} (h : y.2 < x.2) : ltT lt x y = lt x.1 y.1 := by
  have : decide (x.2 < y.2) = false := by simp; omega
  simp [ltT, this]

theorem ltT_total {lt : α → α → Bool} {x y : α × Nat} (h : y.2 < x.2) (hn : ltT lt x y = false) : ltT lt y x = true := by
  rw [ltT_of_gt h] at hn
  simp [ltT, hn, h]

/-- Strictly sorted by key and tag. -/
def TS (lt : α → α → Bool) (l : List (α × Nat)) : Prop := l.Pairwise (fun a b => ltT lt a b = true)

theorem ins_map_fst (lt : α → α → Bool) (x : α × Nat) : ∀ (l : List (α × Nat)), (∀ y ∈ l, y.2 < x.2) → (ins (ltT lt) x l).map Prod.fst = ins lt x.1 (l.map Prod.fst)
  | [], _ => rfl
  | y :: r, h => by
    have h1 := h y List.mem_cons_self
    unfold ins
    rw [ltT_of_gt h1]
    simp only [List.map_cons]
    split
    · rfl
    · simp only [List.map_cons]
      rw [ins_map_fst lt x r (fun z hz => h z (List.mem_cons_of_mem _ hz))]

/-- Tags ascend along the list. -/
def Asc (l : List (α × Nat)) : Prop := l.Pairwise (fun a b => a.2 < b.2)

theorem TS_ins {lt : α → α → Bool} (hw : SWO lt) (x : α × Nat) : ∀ {l : List (α × Nat)}, TS lt l → (∀ y ∈ l, y.2 < x.2) → TS lt (ins (ltT lt) x l)
  | [], _, _ => by simp [ins, TS]
  | y :: r, hs, ht => by
    unfold TS at hs
    rw [List.pairwise_cons] at hs
    unfold ins
    by_cases hxy : ltT lt x y = true
    · rw [if_pos hxy]
      unfold TS
      rw [List.pairwise_cons, List.pairwise_cons]
      refine ⟨?_, hs.1, hs.2⟩
      intro z hz
      rcases List.mem_cons.1 hz with rfl | hz
      · exact hxy
      · exact ltT_trans hw _ _ _ hxy (hs.1 z hz)
    · rw [if_neg hxy]
      unfold TS
      rw [List.pairwise_cons]
      refine ⟨?_, TS_ins hw x hs.2 (fun z hz => ht z (List.mem_cons_of_mem _ hz))⟩
      intro z hz
      rcases (mem_ins _ x z r).1 hz with rfl | hz
      · exact ltT_total (ht y List.mem_cons_self) (by simpa using hxy)
      · exact hs.1 z hz

theorem isort_tagged {lt : α → α → Bool} (hw : SWO lt) (T : List (α × Nat)) (hT : Asc T) :
    TS lt (isort (ltT lt) T) ∧ (isort (ltT lt) T).map Prod.fst = isort lt (T.map Prod.fst) := by
  have key : ∀ (T acc : List (α × Nat)) , Asc T → TS lt acc → (∀ y ∈ acc, ∀ x ∈ T, y.2 < x.2) →
      TS lt (T.foldl (fun acc x => ins (ltT lt) x acc) acc) ∧ (T.foldl (fun acc x => ins (ltT lt) x acc) acc).map Prod.fst = (T.map Prod.fst).foldl (fun acc x => ins lt x acc) (acc.map Prod.fst) := by
    intro T
    induction T with
    | nil => intro acc _ ha _; exact ⟨ha, rfl⟩
    | cons x T ih =>
      intro acc hT ha hlt
      unfold Asc at hT
      rw [List.pairwise_cons] at hT
      have hx : ∀ y ∈ acc, y.2 < x.2 := fun y hy => hlt y hy x List.mem_cons_self
      simp only [List.foldl_cons, List.map_cons]
      rw [← ins_map_fst lt x acc hx]
      refine ih _ hT.2 (TS_ins hw x ha hx) ?_
      intro y hy z hz
      rcases (mem_ins _ x y acc).1 hy with rfl | hy
      · exact hT.1 z hz
      · exact hlt y hy z (List.mem_cons_of_mem _ hz)
  simpa [isort] using key T [] hT List.Pairwise.nil (by simp)

/-- Whatever is sorted by key and tag, and a permutation of what came in ascending by tags, is the stable sort. -/
theorem isort_of_TS {lt : α → α → Bool} (hw : SWO lt) {T S : List (α × Nat)} (hT : Asc T) (hS : TS lt S) (hp : S.Perm T) :
    S.map Prod.fst = isort lt (T.map Prod.fst) := by
  obtain ⟨h1, h2⟩ := isort_tagged hw T hT
  rw [← h2]
  congr 1
  refine sorted_unique (lt := ltT lt) (ltT_irrefl hw) (ltT_trans hw) _ _ hS h1 ?_
  exact hp.trans (isort_perm _ _).symm

/-! ### The stable sort and filter -/
theorem filter_ins {lt : α → α → Bool} (hw : SWO lt) (p : α → Bool) (x : α) : ∀ {l}, Sorted lt l → (ins lt x l).filter p = if p x then ins lt x (l.filter p) else l.filter p
  | [], _ => by cases hp : p x <;> simp [ins, hp]
  | y :: r, hs => by
    unfold Sorted at hs
    rw [List.pairwise_cons] at hs
    have ih := filter_ins hw p x hs.2
    rw [ins_cons]
    by_cases hxy : lt x y = true
    · rw [if_pos hxy]
      cases hp : p x with
      | false => simp [hp]
      | true =>
        rw [List.filter_cons_of_pos hp]
        simp only [if_true]
        cases hy : p y with
        | true => rw [List.filter_cons_of_pos hy, ins_cons, if_pos hxy]
        | false =>
          rw [List.filter_cons_of_neg (by simp [hy])]
          -- x goes ahead of everything that is left
          have : ∀ (l : List α), (∀ z ∈ l, lt x z = true) → ins lt x l = x :: l := by
            intro l hl
            cases l with
            | nil => rfl
            | cons z t => simp [ins, hl z List.mem_cons_self]
          rw [this]
          intro z hz
          have hz' := hs.1 z (List.mem_filter.1 hz).1
          cases hxz : lt x z with
          | true => rfl
          | false => have := hw.ntrans _ _ _ hxz hz'; rw [hxy] at this; cases this
    · rw [if_neg hxy]
      cases hy : p y with
      | true =>
        rw [List.filter_cons_of_pos hy, List.filter_cons_of_pos hy, ih]
        cases hp : p x with
        | true => simp only [if_true]; rw [ins_cons, if_neg hxy]
        | false => simp
      | false =>
        rw [List.filter_cons_of_neg (by simp [hy]), List.filter_cons_of_neg (by simp [hy]), ih]

theorem filter_isort {lt : α → α → Bool} (hw : SWO lt) (p : α → Bool) (l : List α) : (isort lt l).filter p = isort lt (l.filter p) := by
  have key : ∀ (l acc : List α), Sorted lt acc → (l.foldl (fun acc x => ins lt x acc) acc).filter p = (l.filter p).foldl (fun acc x => ins lt x acc) (acc.filter p) := by
    intro l
    induction l with
    | nil => intro acc _; rfl
    | cons x l ih =>
      intro acc ha
      simp only [List.foldl_cons]
      rw [ih _ (ins_sorted hw x ha), filter_ins hw p x ha]
      cases hp : p x with
      | true => rw [List.filter_cons_of_pos hp]; simp
      | false => rw [List.filter_cons_of_neg (by simp [hp])]; simp
  simpa [isort] using key l [] List.Pairwise.nil

/-! ### Symmetric merge: the plain facts -/
/-- All tags on the left are less than all tags on the right. -/
def TagLt (A B : List (α × Nat)) : Prop := ∀ x ∈ A, ∀ y ∈ B, x.2 < y.2

theorem TS_append {lt : α → α → Bool} {A B : List (α × Nat)} : TS lt (A ++ B) ↔ TS lt A ∧ TS lt B ∧ ∀ x ∈ A, ∀ y ∈ B, ltT lt x y = true := by
  simp [TS, List.pairwise_append]

end Srt
end Go.Proofs.YtpcfgoadkfajfaaGreatDoor
namespace Go.Proofs.YtpcfgoadkfajfaaGreatDoor.Se
set_option linter.all false
open Srt

/-- A fact, field by field. -/
structure Fct where
  kind : Int
  id : Int
  version : Int
  period : Int
  second : Int
  account : Int
  device : Int
  recording : Int
  territory : Int
  holder : Int
  role : Int
  since : Int
  till : Int
  amount : Int
  share : Int
  currency : Int
  mark : Int
  text : ByteArray

/-- A stream, field by field. -/
structure Strm where
  device : Int
  id : Int
  account : Int
  recording : Int
  territory : Int
  second : Int
  period : Int
  session : Int
  mark : Int
  deriving DecidableEq

def within (n a b : Int) : Bool := decide (a ≤ n) && decide (n ≤ b)

/-- A valid play. -/
def Fct.valid (f : Fct) : Bool :=
  f.kind == 1 && within f.version 1 1000 && within f.id 1 1000000 && within f.account 1 1000000 && within f.device 1 1000000 && within f.recording 1 1000000 &&
  within f.territory 0 7 && within f.second 0 3155759999 && within f.amount 0 86400000 && within f.mark 0 1 &&
  f.period == 0 && f.holder == 0 && f.role == 0 && f.since == 0 && f.till == 0 && f.share == 0 && f.currency == 0 && f.text.data.toList.isEmpty

/-- It may count. -/
def Fct.qual (f : Fct) : Bool := decide (30000 ≤ f.amount) && f.mark == 0
def Fct.counts (f : Fct) : Bool := f.valid && f.qual
def Fct.stop (f : Fct) : Int := f.second + (f.amount + 999) / 1000

/-- The order of plays. -/
def before (a b : Fct) : Bool :=
  decide (a.device < b.device) || (a.device == b.device && (decide (a.second < b.second) || (a.second == b.second && decide (a.id < b.id))))

theorem before_swo : SWO before := by
  refine ⟨fun a => ?_, fun a b c h1 h2 => ?_, fun a b c h1 h2 => ?_⟩
  · simp [before]
  · simp only [before, Bool.or_eq_true, Bool.and_eq_true, decide_eq_true_eq, beq_iff_eq] at *; omega
  · simp only [before, Bool.or_eq_false_iff, Bool.and_eq_false_iff, decide_eq_false_iff_not, beq_eq_false_iff_ne] at *; omega

/-- The plays of a list in order. -/
def ordered (l : List Fct) : List Fct := isort before (l.filter Fct.valid)

/-- What is known of a device while its plays are looked at; 'loops': how often a recording has counted in the session. -/
structure Plr where
  device : Int
  last : Int
  stop : Int
  session : Int
  loops : Int → Int

def Plr.start : Plr := ⟨0, 0, 0, 0, fun _ => 0⟩
def Plr.begin (x : Plr) : Plr := { x with session := x.session + 1, loops := fun _ => 0 }
/-- Where a play finds the device: in its session. -/
def Plr.arrive (x : Plr) (p : Fct) : Plr :=
  let x := if x.device = p.device then x else { device := p.device, last := p.second, stop := 0, session := 1, loops := fun _ => 0 }
  let x := if 1800 < p.second - x.last then x.begin else x
  { x with last := p.second }
/-- Does it count? -/
def Plr.takes (x : Plr) (p : Fct) : Bool := p.qual && !decide (p.second < x.stop) && !decide (5 ≤ x.loops p.recording)
def Plr.count (x : Plr) (p : Fct) : Plr := { x with stop := p.stop, loops := fun r => if r = p.recording then x.loops r + 1 else x.loops r }
def Plr.look (x : Plr) (p : Fct) : Plr × Bool :=
  let y := x.arrive p
  if y.takes p then (y.count p, true) else (y, false)

/-- The days of a period, and the period of a second. -/
def days (p : Int) : Int :=
  if p < 0 ∨ 1200 ≤ p then 0
  else if p % 48 = 1 then 29
  else match (p % 12).toNat with
    | 0 => 31 | 1 => 28 | 2 => 31 | 3 => 30 | 4 => 31 | 5 => 30 | 6 => 31 | 7 => 31 | 8 => 30 | 9 => 31 | 10 => 30 | _ => 31
def stepMonths : Nat → Int → Int → Int × Int
  | 0, n, p => (n, p)
  | k + 1, n, p => if n < days p then (n, p) else stepMonths k (n - days p) (p + 1)
def periodOf (second : Int) : Int :=
  if second < 0 ∨ 3155760000 ≤ second then 0 else (stepMonths 48 (second / 86400 % 1461) (second / 86400 / 1461 * 48)).2

def strm (x : Plr) (p : Fct) : Strm :=
  { device := p.device, id := p.id, account := p.account, recording := p.recording, territory := p.territory, second := p.second, period := periodOf p.second, session := x.session, mark := 1 }

/-- The streams of plays in order. -/
def counted (x : Plr) : List Fct → List Strm
  | [] => []
  | p :: r => if (x.look p).2 then strm (x.look p).1 p :: counted (x.look p).1 r else counted (x.look p).1 r
def streams (l : List Fct) : List Strm := counted .start (ordered l)

end Go.Proofs.YtpcfgoadkfajfaaGreatDoor.Se
namespace Go.Proofs.YtpcfgoadkfajfaaGreatDoor.Se
set_option linter.all false
open Go Go.RowKit
/-- The cells of a fact, of a stream. -/
def Fct.cells (f : Fct) : Array Value := #[.int .i64 f.kind, .int .i64 f.id, .int .i64 f.version, .int .i64 f.period, .int .i64 f.second, .int .i64 f.account, .int .i64 f.device, .int .i64 f.recording, .int .i64 f.territory, .int .i64 f.holder, .int .i64 f.role, .int .i64 f.since, .int .i64 f.till, .int .i64 f.amount, .int .i64 f.share, .int .i64 f.currency, .int .i64 f.mark, .string f.text]
def Strm.cells (s : Strm) : Array Value := #[.int .i64 s.device, .int .i64 s.id, .int .i64 s.account, .int .i64 s.recording, .int .i64 s.territory, .int .i64 s.second, .int .i64 s.period, .int .i64 s.session, .int .i64 s.mark]
theorem Fct.plain (f : Fct) : ∀ u ∈ (Value.agg f.cells).cells.toList, u.oneCell' = true := by
  intro u hu
  simp only [Value.cells, Fct.cells, List.mem_cons, List.not_mem_nil, or_false] at hu
  rcases hu with rfl | rfl | rfl | rfl | rfl | rfl | rfl | rfl | rfl | rfl | rfl | rfl | rfl | rfl | rfl | rfl | rfl | rfl <;> rfl
theorem Strm.plain (s : Strm) : ∀ u ∈ (Value.agg s.cells).cells.toList, u.oneCell' = true := by
  intro u hu
  simp only [Value.cells, Strm.cells, List.mem_cons, List.not_mem_nil, or_false] at hu
  rcases hu with rfl | rfl | rfl | rfl | rfl | rfl | rfl | rfl | rfl <;> rfl
/-- An integer of 64 bits. -/
def i64 (n : Int) : Prop := -9223372036854775808 ≤ n ∧ n ≤ 9223372036854775807
structure Fct.wf (f : Fct) : Prop where
  kind : i64 f.kind
  id : i64 f.id
  version : i64 f.version
  period : i64 f.period
  second : i64 f.second
  account : i64 f.account
  device : i64 f.device
  recording : i64 f.recording
  territory : i64 f.territory
  holder : i64 f.holder
  role : i64 f.role
  since : i64 f.since
  till : i64 f.till
  amount : i64 f.amount
  share : i64 f.share
  currency : i64 f.currency
  mark : i64 f.mark

/-- The same in all fields. -/
def Fct.same (f g : Fct) : Bool := f.kind == g.kind && (f.id == g.id && (f.version == g.version && (f.period == g.period && (f.second == g.second && (f.account == g.account && (f.device == g.device && (f.recording == g.recording && (f.territory == g.territory && (f.holder == g.holder && (f.role == g.role && (f.since == g.since && (f.till == g.till && (f.amount == g.amount && (f.share == g.share && (f.currency == g.currency && (f.mark == g.mark && (f.text.toList == g.text.toList && true)))))))))))))))))
def Strm.same (f g : Strm) : Bool := f.device == g.device && (f.id == g.id && (f.account == g.account && (f.recording == g.recording && (f.territory == g.territory && (f.second == g.second && (f.period == g.period && (f.session == g.session && (f.mark == g.mark && true))))))))
theorem Strm.same_iff (f g : Strm) : f.same g = true ↔ f = g := by
  obtain ⟨⟩ := f
  obtain ⟨⟩ := g
  simp [Strm.same]
end Go.Proofs.YtpcfgoadkfajfaaGreatDoor.Se
namespace Go.Proofs.YtpcfgoadkfajfaaGreatDoor
set_option linter.all false
namespace Srt
variable {α : Type} {lt : α → α → Bool}

/-- Neither is less. -/
def eqv (lt : α → α → Bool) (x y : α) : Bool := !lt x y && !lt y x
theorem eqv_self (h : SWO lt) (x : α) : eqv lt x x = true := by simp [eqv, h.irrefl]
theorem eqv_iff {x y : α} : eqv lt x y = true ↔ lt x y = false ∧ lt y x = false := by simp [eqv]

theorem isort_id (h : SWO lt) {l : List α} (hs : Sorted lt l) : isort lt l = l := by
  have key : ∀ (r acc : List α), Sorted lt (acc ++ r) → r.foldl (fun acc x => ins lt x acc) acc = acc ++ r := by
    intro r
    induction r with
    | nil => intro acc _; simp
    | cons x r ih =>
      intro acc hacc
      have hx : ∀ (l : List α), (∀ y ∈ l, lt x y = false) → ins lt x l = l ++ [x] := by
        intro l
        induction l with
        | nil => intro _; rfl
        | cons y l ihl => intro hy; rw [ins_cons, hy y List.mem_cons_self]; simp [ihl fun z hz => hy z (List.mem_cons_of_mem _ hz)]
      have hxa : ∀ y ∈ acc, lt x y = false := fun y hy => by
        unfold Sorted at hacc
        rw [List.pairwise_append] at hacc
        exact hacc.2.2 y hy x List.mem_cons_self
      simp only [List.foldl_cons, hx acc hxa]
      rw [ih (acc ++ [x]) (by simpa using hacc)]
      simp
  simpa [isort] using key l [] (by simpa using hs)

theorem filter_all (h : SWO lt) (x : α) (l : List α) : (isort lt l).filter (eqv lt x) = l.filter (eqv lt x) := by
  rw [filter_isort h]
  refine isort_id h ?_
  unfold Sorted
  refine List.Pairwise.imp_of_mem (R := fun _ _ => True) ?_ (List.pairwise_of_forall (fun _ _ => trivial))
  intro a b ha hb _
  have h1 := (eqv_iff.1 (List.mem_filter.1 ha).2)
  have h2 := (eqv_iff.1 (List.mem_filter.1 hb).2)
  exact h.ntrans b x a h2.2 h1.1

theorem unique_of_filters (h : SWO lt) : ∀ {l m : List α}, Sorted lt l → Sorted lt m → (∀ x, l.filter (eqv lt x) = m.filter (eqv lt x)) → l = m
  | [], [], _, _, _ => rfl
  | [], b :: m, _, _, hf => by have := hf b; rw [List.filter_cons_of_pos (eqv_self h b)] at this; simp at this
  | a :: l, [], _, _, hf => by have := hf a; rw [List.filter_cons_of_pos (eqv_self h a)] at this; simp at this
  | a :: l, b :: m, hl, hm, hf => by
    have hl' := hl
    have hm' := hm
    unfold Sorted at hl' hm'
    rw [List.pairwise_cons] at hl' hm'
    have ha : a ∈ b :: m := by
      have : a ∈ (a :: l).filter (eqv lt a) := List.mem_filter.2 ⟨List.mem_cons_self, eqv_self h a⟩
      rw [hf a] at this
      exact (List.mem_filter.1 this).1
    have hb : b ∈ a :: l := by
      have : b ∈ (b :: m).filter (eqv lt b) := List.mem_filter.2 ⟨List.mem_cons_self, eqv_self h b⟩
      rw [← hf b] at this
      exact (List.mem_filter.1 this).1
    have h1 : lt a b = false := by
      rcases List.mem_cons.1 ha with e | ha
      · rw [e]; exact h.irrefl b
      · exact hm'.1 a ha
    have h2 : lt b a = false := by
      rcases List.mem_cons.1 hb with e | hb
      · rw [e]; exact h.irrefl a
      · exact hl'.1 b hb
    have hab : eqv lt a b = true := eqv_iff.2 ⟨h1, h2⟩
    have h3 := hf a
    rw [List.filter_cons_of_pos (eqv_self h a), List.filter_cons_of_pos hab] at h3
    injection h3 with h3 h4
    subst h3
    refine congrArg (a :: ·) (unique_of_filters h hl'.2 hm'.2 fun x => ?_)
    have h5 := hf x
    by_cases hx : eqv lt x a = true
    · rw [List.filter_cons_of_pos hx, List.filter_cons_of_pos hx] at h5
      injection h5
    · rw [List.filter_cons_of_neg hx, List.filter_cons_of_neg hx] at h5
      exact h5

theorem isort_unique (h : SWO lt) {l m : List α} (hm : Sorted lt m) (hf : ∀ x, m.filter (eqv lt x) = l.filter (eqv lt x)) : m = isort lt l :=
  unique_of_filters h hm (isort_sorted h l) fun x => by rw [filter_all h, hf]

theorem isort_isort (h : SWO lt) (A B : List α) : isort lt (isort lt A ++ isort lt B) = isort lt (A ++ B) :=
  isort_unique h (isort_sorted h _) fun x => by simp [filter_all h]

theorem sorted_append {A B : List α} : Sorted lt (A ++ B) ↔ Sorted lt A ∧ Sorted lt B ∧ ∀ a ∈ A, ∀ b ∈ B, lt b a = false := by
  unfold Sorted; rw [List.pairwise_append]

theorem merge_split (h : SWO lt) {A1 A2 B1 B2 : List α} (hA : Sorted lt (A1 ++ A2)) (hB : Sorted lt (B1 ++ B2)) (h1 : ∀ a ∈ A1, ∀ b ∈ B2, lt b a = false) (h2 : ∀ b ∈ B1, ∀ a ∈ A2, lt b a = true) :
    isort lt (A1 ++ B1) ++ isort lt (A2 ++ B2) = isort lt (A1 ++ A2 ++ (B1 ++ B2)) := by
  obtain ⟨_, _, hA3⟩ := sorted_append.1 hA
  obtain ⟨_, _, hB3⟩ := sorted_append.1 hB
  refine isort_unique h (sorted_append.2 ⟨isort_sorted h _, isort_sorted h _, ?_⟩) ?_
  · intro a ha b hb
    rw [(isort_perm lt _).mem_iff] at ha hb
    rcases List.mem_append.1 ha with ha | ha <;> rcases List.mem_append.1 hb with hb | hb
    · exact hA3 a ha b hb
    · exact h1 a ha b hb
    · exact SWO.asymm h (h2 a ha b hb)
    · exact hB3 a ha b hb
  · intro x
    simp only [List.filter_append, filter_all h, List.append_assoc]
    congr 1
    have : B1.filter (eqv lt x) = [] ∨ A2.filter (eqv lt x) = [] := by
      cases hb : B1.filter (eqv lt x) with
      | nil => exact .inl rfl
      | cons b r =>
        refine .inr (List.filter_eq_nil_iff.2 fun a ha hx => ?_)
        have hbm : b ∈ B1.filter (eqv lt x) := by rw [hb]; exact List.mem_cons_self
        obtain ⟨hb1, hb2⟩ := List.mem_filter.1 hbm
        have e1 := eqv_iff.1 hb2
        have e2 := eqv_iff.1 hx
        have := h.ntrans b x a e1.2 e2.1
        rw [h2 b hb1 a ha] at this
        cases this
    rcases this with e | e <;> simp [e]

theorem merge_first (h : SWO lt) {x : α} {B1 B2 : List α} (hB : Sorted lt (B1 ++ B2)) (h1 : ∀ b ∈ B1, lt b x = true) (h2 : ∀ b ∈ B2, lt b x = false) : isort lt ([x] ++ (B1 ++ B2)) = B1 ++ x :: B2 := by
  have := merge_split (A1 := []) (A2 := [x]) h (by simp [Sorted]) hB (by simp) (fun b hb a ha => by rw [List.mem_singleton.1 ha]; exact h1 b hb)
  simp only [List.nil_append] at this
  rw [← this, isort_id h (sorted_append.1 hB).1, isort_id h]
  · rfl
  · refine sorted_append.2 ⟨by simp [Sorted], (sorted_append.1 hB).2.1, fun a ha b hb => ?_⟩
    rw [List.mem_singleton.1 ha]; exact h2 b hb

theorem merge_last (h : SWO lt) {y : α} {A1 A2 : List α} (hA : Sorted lt (A1 ++ A2)) (h1 : ∀ a ∈ A1, lt y a = false) (h2 : ∀ a ∈ A2, lt y a = true) : isort lt (A1 ++ A2 ++ [y]) = A1 ++ y :: A2 := by
  have := merge_split (B1 := [y]) (B2 := []) h hA (by simp [Sorted]) (by simp) (fun b hb a ha => by rw [List.mem_singleton.1 hb]; exact h2 a ha)
  simp only [List.append_nil] at this
  rw [← this, isort_id h (l := A2) (sorted_append.1 hA).2.1, isort_id h]
  · simp
  · refine sorted_append.2 ⟨(sorted_append.1 hA).1, by simp [Sorted], fun a ha b hb => ?_⟩
    rw [List.mem_singleton.1 hb]; exact h1 a ha

theorem ins_place (h : SWO lt) {x : α} {A1 A2 : List α} (hA : Sorted lt (A1 ++ A2)) (h1 : ∀ a ∈ A1, lt x a = false) (h2 : ∀ a ∈ A2, lt x a = true) : ins lt x (A1 ++ A2) = A1 ++ x :: A2 := by
  rw [← merge_last h hA h1 h2, isort_snoc, isort_id h hA]

/-- All up to the last one. -/
theorem below_last (h : SWO lt) {A : List α} {z y : α} (hA : Sorted lt (A ++ [z])) (hy : lt y z = false) : ∀ a ∈ A ++ [z], lt y a = false := by
  intro a ha
  rcases List.mem_append.1 ha with ha | ha
  · exact h.ntrans y z a hy ((sorted_append.1 hA).2.2 a ha z (by simp))
  · rw [List.mem_singleton.1 ha]; exact hy
theorem above_first (h : SWO lt) {A : List α} {z y : α} (hA : Sorted lt (z :: A)) (hy : lt y z = true) : ∀ a ∈ z :: A, lt y a = true := by
  intro a ha
  rcases List.mem_cons.1 ha with rfl | ha
  · exact hy
  · cases hc : lt y a with
    | true => rfl
    | false =>
      have := h.ntrans y a z hc ((List.pairwise_cons.1 hA).1 a ha)
      rw [hy] at this; cases this
/-- The ends decide. -/
theorem cond1 (h : SWO lt) {A B : List α} {x y : α} (hA : Sorted lt (A ++ [x])) (hB : Sorted lt (y :: B)) (hxy : lt y x = false) : ∀ a ∈ A ++ [x], ∀ b ∈ y :: B, lt b a = false := by
  intro a ha b hb
  have h1 := below_last h hA hxy a ha
  rcases List.mem_cons.1 hb with rfl | hb
  · exact h1
  · exact h.ntrans b y a ((List.pairwise_cons.1 hB).1 b hb) h1
theorem cond2 (h : SWO lt) {A B : List α} {x y : α} (hA : Sorted lt (x :: A)) (hB : Sorted lt (B ++ [y])) (hxy : lt y x = true) : ∀ b ∈ B ++ [y], ∀ a ∈ x :: A, lt b a = true := by
  intro b hb a ha
  have h1 := above_first h hA hxy a ha
  rcases List.mem_append.1 hb with hb | hb
  · cases hc : lt b a with
    | true => rfl
    | false =>
      have := h.ntrans y b a ((sorted_append.1 hB).2.2 b hb y (by simp)) hc
      rw [h1] at this; cases this
  · rw [List.mem_singleton.1 hb]; exact h1

/-! ### Sorting by blocks -/
/-- The first c blocks of k are sorted. -/
def cs (lt : α → α → Bool) (k : Nat) : Nat → List α → List α
  | 0, l => l
  | c + 1, l => isort lt (l.take k) ++ cs lt k c (l.drop k)
/-- The first c pairs of blocks of k are merged, the others are as sorted by blocks. -/
def ms (lt : α → α → Bool) (k f : Nat) : Nat → List α → List α
  | 0, l => cs lt k f l
  | c + 1, l => isort lt (l.take (2 * k)) ++ ms lt k f c (l.drop (2 * k))

theorem isort_length (l : List α) : (isort lt l).length = l.length := (isort_perm lt l).length_eq
theorem cs_length (k : Nat) : ∀ (c : Nat) (l : List α), (cs lt k c l).length = l.length
  | 0, _ => rfl
  | c + 1, l => by simp [cs, isort_length, cs_length k c]; omega
theorem ms_length (k f : Nat) : ∀ (c : Nat) (l : List α), (ms lt k f c l).length = l.length
  | 0, _ => cs_length k f _
  | c + 1, l => by simp [ms, isort_length, ms_length k f c]; omega
theorem cs_nil (k : Nat) : ∀ c, cs lt k c ([] : List α) = []
  | 0 => rfl
  | c + 1 => by simp [cs, isort_nil, cs_nil k c]

/-- One more block. -/
theorem cs_step (k : Nat) : ∀ (c : Nat) (l : List α), ∃ pre, pre.length = min (k * c) l.length ∧ cs lt k c l = pre ++ l.drop (k * c) ∧ ∀ d, cs lt k (c + d) l = pre ++ cs lt k d (l.drop (k * c))
  | 0, l => ⟨[], by simp, by simp [cs], fun d => by simp⟩
  | c + 1, l => by
    obtain ⟨pre, h1, h2, h3⟩ := cs_step k c (l.drop k)
    have e : k * (c + 1) = k + k * c := by rw [Nat.mul_succ, Nat.add_comm]
    refine ⟨isort lt (l.take k) ++ pre, ?_, ?_, fun d => ?_⟩
    · rw [List.length_append, isort_length, List.length_take, h1, List.length_drop, e]; omega
    · simp only [cs, h2, List.append_assoc, List.drop_drop, e]
    · rw [show c + 1 + d = (c + d) + 1 from by omega]
      simp only [cs, h3, List.append_assoc, List.drop_drop, e]

theorem take_succ_block {k c : Nat} (l : List α) : isort lt ((l.drop (k * c)).take k) ++ (l.drop (k * c)).drop k = cs lt k 1 (l.drop (k * c)) := by simp [cs]

theorem ms_step (k f : Nat) : ∀ (c : Nat) (l : List α), ∃ pre, pre.length = min (2 * k * c) l.length ∧ ∀ d, ms lt k f (c + d) l = pre ++ ms lt k f d (l.drop (2 * k * c))
  | 0, l => ⟨[], by simp, fun d => by simp⟩
  | c + 1, l => by
    obtain ⟨pre, h1, h3⟩ := ms_step k f c (l.drop (2 * k))
    have e : 2 * k * (c + 1) = 2 * k + 2 * k * c := by rw [Nat.mul_succ, Nat.add_comm]
    refine ⟨isort lt (l.take (2 * k)) ++ pre, ?_, fun d => ?_⟩
    · rw [List.length_append, isort_length, List.length_take, h1, List.length_drop, e]; omega
    · rw [show c + 1 + d = (c + d) + 1 from by omega]
      simp only [ms, h3, List.append_assoc, List.drop_drop, e]

/-- Two blocks merged. -/
theorem pair_merge (h : SWO lt) (k f : Nat) (l : List α) : ∃ A B R, A = isort lt (l.take k) ∧ B = isort lt ((l.drop k).take k) ∧ cs lt k (f + 2) l = A ++ B ++ R ∧ R = cs lt k f (l.drop (2 * k)) ∧ isort lt (A ++ B) = isort lt (l.take (2 * k)) := by
  refine ⟨_, _, _, rfl, rfl, ?_, rfl, ?_⟩
  · simp only [cs, List.append_assoc, List.drop_drop]; rw [show k + k = 2 * k from by omega]
  · rw [isort_isort h]
    congr 1
    rw [show 2 * k = k + k from by omega, List.take_add]

/-- With enough blocks, more make no difference. -/
theorem cs_enough (k : Nat) (hk : 0 < k) : ∀ (c : Nat) (l : List α), l.length ≤ k * c → ∀ d, cs lt k (c + d) l = cs lt k c l
  | 0, l, hl, d => by
    have : l = [] := List.length_eq_zero_iff.1 (by omega)
    subst this; rw [cs_nil, cs_nil]
  | c + 1, l, hl, d => by
    rw [show c + 1 + d = (c + d) + 1 from by omega]
    simp only [cs]
    rw [cs_enough k hk c (l.drop k) (by rw [List.length_drop, Nat.mul_succ] at *; omega) d]
theorem cs_one (k : Nat) (c : Nat) (l : List α) (hl : l.length ≤ k) : cs lt k (c + 1) l = isort lt l := by
  simp only [cs]
  rw [List.take_of_length_le hl, List.drop_eq_nil_of_le hl, cs_nil, List.append_nil]

/-! ### What the binary searches find -/
theorem split_le {l : List α} {k : Nat} (h : k ≤ l.length) : ∃ a b, l = a ++ b ∧ a.length = k := ⟨l.take k, l.drop k, (List.take_append_drop k l).symm, by simp; omega⟩
theorem get_app {p q r : List α} {x : α} {k : Nat} (h : (p ++ q ++ r)[k]? = some x) (h1 : p.length ≤ k) (h2 : k < p.length + q.length) : q[k - p.length]? = some x := by
  rw [List.append_assoc, List.getElem?_append_right h1, List.getElem?_append_left (by omega)] at h
  exact h
/-- The last of the first part. -/
theorem get_last {a b : List α} {x : α} (h : (a ++ b)[a.length - 1]? = some x) (ha : 0 < a.length) : ∃ a', a = a' ++ [x] := by
  rw [List.getElem?_append_left (by omega)] at h
  refine ⟨a.dropLast, ?_⟩
  have hne : a ≠ [] := by intro e; subst e; simp at ha
  have : a.getLast hne = x := by
    rw [List.getLast_eq_getElem]
    obtain ⟨_, h⟩ := List.getElem?_eq_some_iff.1 h
    exact h
  rw [← this, List.dropLast_concat_getLast hne]
theorem get_first {a b : List α} {x : α} (h : (a ++ b)[a.length]? = some x) : ∃ b', b = x :: b' := by
  rw [List.getElem?_append_right (Nat.le_refl _), Nat.sub_self] at h
  cases b with
  | nil => simp at h
  | cons y b => simp at h; subst h; exact ⟨b, rfl⟩

theorem search_first (h : SWO lt) {p V r : List α} {x : α} {i : Nat} (hV : Sorted lt V) (h1 : p.length + 1 ≤ i) (h2 : i ≤ p.length + 1 + V.length)
    (ha : i = p.length + 1 ∨ ∃ z, (p ++ [x] ++ V ++ r)[i - 1]? = some z ∧ lt z x = true) (hb : i = p.length + 1 + V.length ∨ ∃ z, (p ++ [x] ++ V ++ r)[i]? = some z ∧ lt z x = false) :
    ∃ B1 B2, V = B1 ++ B2 ∧ p.length + 1 + B1.length = i ∧ isort lt ([x] ++ V) = B1 ++ x :: B2 := by
  obtain ⟨B1, B2, rfl, hl⟩ := split_le (l := V) (k := i - (p.length + 1)) (by omega)
  rw [List.length_append] at h2 hb
  have get : ∀ {k z}, (p ++ [x] ++ (B1 ++ B2) ++ r)[k]? = some z → p.length + 1 ≤ k → k < p.length + 1 + (B1.length + B2.length) → (B1 ++ B2)[k - (p.length + 1)]? = some z := fun {k z} hk h3 h4 => by
    have := get_app (p := p ++ [x]) (q := B1 ++ B2) (r := r) (k := k) hk (by simpa using h3) (by simpa using h4)
    simpa using this
  refine ⟨B1, B2, rfl, by omega, merge_first h hV ?_ ?_⟩
  · rcases ha with ha | ⟨z, hz, hzx⟩
    · have : B1 = [] := List.length_eq_zero_iff.1 (by omega)
      subst this; simp
    · rcases Nat.eq_zero_or_pos B1.length with h0 | h0
      · have : B1 = [] := List.length_eq_zero_iff.1 h0
        subst this; simp
      · have := get hz (by omega) (by omega)
        rw [show i - 1 - (p.length + 1) = B1.length - 1 from by omega] at this
        obtain ⟨B1', rfl⟩ := get_last this h0
        intro b hb
        exact cond2 h (A := []) (x := x) (by simp [Sorted]) (sorted_append.1 hV).1 hzx b hb x (by simp)
  · rcases hb with hb | ⟨z, hz, hzx⟩
    · have : B2 = [] := List.length_eq_zero_iff.1 (by omega)
      subst this; simp
    · rcases Nat.lt_or_ge i (p.length + 1 + (B1.length + B2.length)) with h3 | h3
      · have := get hz (by omega) h3
        rw [← hl] at this
        obtain ⟨B2', rfl⟩ := get_first this
        intro b hb
        exact cond1 h (A := []) (x := x) (by simp [Sorted]) (sorted_append.1 hV).2.1 hzx x (by simp) b hb
      · have : B2 = [] := List.length_eq_zero_iff.1 (by omega)
        subst this; simp

theorem search_last (h : SWO lt) {p U r : List α} {y : α} {i : Nat} (hU : Sorted lt U) (h1 : p.length ≤ i) (h2 : i ≤ p.length + U.length)
    (ha : i = p.length ∨ ∃ z, (p ++ U ++ [y] ++ r)[i - 1]? = some z ∧ lt y z = false) (hb : i = p.length + U.length ∨ ∃ z, (p ++ U ++ [y] ++ r)[i]? = some z ∧ lt y z = true) :
    ∃ A1 A2, U = A1 ++ A2 ∧ p.length + A1.length = i ∧ isort lt (U ++ [y]) = A1 ++ y :: A2 := by
  obtain ⟨A1, A2, rfl, hl⟩ := split_le (l := U) (k := i - p.length) (by omega)
  rw [List.length_append] at h2 hb
  have get : ∀ {k z}, (p ++ (A1 ++ A2) ++ [y] ++ r)[k]? = some z → p.length ≤ k → k < p.length + (A1.length + A2.length) → (A1 ++ A2)[k - p.length]? = some z := fun {k z} hk h3 h4 => by
    rw [List.append_assoc (p ++ (A1 ++ A2))] at hk
    exact get_app (p := p) (q := A1 ++ A2) (r := [y] ++ r) (k := k) hk h3 (by simpa using h4)
  refine ⟨A1, A2, rfl, by omega, merge_last h hU ?_ ?_⟩
  · rcases ha with ha | ⟨z, hz, hzx⟩
    · have : A1 = [] := List.length_eq_zero_iff.1 (by omega)
      subst this; simp
    · rcases Nat.eq_zero_or_pos A1.length with h0 | h0
      · have : A1 = [] := List.length_eq_zero_iff.1 h0
        subst this; simp
      · have := get hz (by omega) (by omega)
        rw [show i - 1 - p.length = A1.length - 1 from by omega] at this
        obtain ⟨A1', rfl⟩ := get_last this h0
        exact below_last h (sorted_append.1 hU).1 hzx
  · rcases hb with hb | ⟨z, hz, hzx⟩
    · have : A2 = [] := List.length_eq_zero_iff.1 (by omega)
      subst this; simp
    · rcases Nat.lt_or_ge i (p.length + (A1.length + A2.length)) with h3 | h3
      · have := get hz (by omega) h3
        rw [← hl] at this
        obtain ⟨A2', rfl⟩ := get_first this
        exact above_first h (sorted_append.1 hU).2.1 hzx
      · have : A2 = [] := List.length_eq_zero_iff.1 (by omega)
        subst this; simp

/-- The general search: start is s. -/
theorem search_mid (h : SWO lt) {p U V r : List α} {m b mid lo hi s : Nat} (hU : Sorted lt U) (hV : Sorted lt V) (hm : p.length + U.length = m) (hb : m + V.length = b)
    (hmid : mid = (p.length + b) / 2) (hlo : lo = (if mid < m then mid + m - b else p.length)) (hhi : hi = (if mid < m then mid else m)) (h1 : lo ≤ s) (h2 : s ≤ hi) (h3 : p.length ≤ lo)
    (hA : s = lo ∨ ∃ x y, (p ++ U ++ V ++ r)[s - 1]? = some x ∧ (p ++ U ++ V ++ r)[mid + m - s]? = some y ∧ lt y x = false)
    (hB : s = hi ∨ ∃ x y, (p ++ U ++ V ++ r)[s]? = some x ∧ (p ++ U ++ V ++ r)[mid + m - 1 - s]? = some y ∧ lt y x = true) :
    ∃ A1 A2 B1 B2, U = A1 ++ A2 ∧ V = B1 ++ B2 ∧ p.length + A1.length = s ∧ p.length + A1.length + B1.length = mid ∧ m + B1.length = mid + m - s ∧ isort lt (A1 ++ B1) ++ isort lt (A2 ++ B2) = isort lt (U ++ V) := by
  have hs1 : s ≤ m ∧ s ≤ mid := by subst hhi; split at h2 <;> omega
  have hs2 : mid + m - s ≤ b := by subst hlo; split at h1 <;> omega
  obtain ⟨A1, A2, rfl, hl⟩ := split_le (l := U) (k := s - p.length) (by omega)
  obtain ⟨B1, B2, rfl, hl'⟩ := split_le (l := V) (k := mid - s) (by omega)
  simp only [List.length_append] at hm hb
  have getU : ∀ {k z}, (p ++ (A1 ++ A2) ++ (B1 ++ B2) ++ r)[k]? = some z → p.length ≤ k → k < p.length + (A1.length + A2.length) → (A1 ++ A2)[k - p.length]? = some z := fun {k z} hk h3 h4 => by
    rw [List.append_assoc (p ++ (A1 ++ A2))] at hk
    exact get_app (p := p) (q := A1 ++ A2) (r := B1 ++ B2 ++ r) (k := k) hk h3 (by simpa using h4)
  have getV : ∀ {k z}, (p ++ (A1 ++ A2) ++ (B1 ++ B2) ++ r)[k]? = some z → m ≤ k → k < b → (B1 ++ B2)[k - m]? = some z := fun {k z} hk h3 h4 => by
    have := get_app (p := p ++ (A1 ++ A2)) (q := B1 ++ B2) (r := r) (k := k) hk (by simp; omega) (by simp; omega)
    rwa [show k - (p ++ (A1 ++ A2)).length = k - m from by simp; omega] at this
  refine ⟨A1, A2, B1, B2, rfl, rfl, by omega, by omega, by omega, merge_split h hU hV ?_ ?_⟩
  · rcases Nat.eq_zero_or_pos A1.length with h0 | h0
    · have : A1 = [] := List.length_eq_zero_iff.1 h0
      subst this; simp
    rcases Nat.eq_zero_or_pos B2.length with h0' | h0'
    · have : B2 = [] := List.length_eq_zero_iff.1 h0'
      subst this; simp
    rcases hA with hA | ⟨x, y, hx, hy, hxy⟩
    · exfalso; subst hlo; split at hA <;> omega
    · have hx' := getU hx (by omega) (by omega)
      rw [show s - 1 - p.length = A1.length - 1 from by omega] at hx'
      obtain ⟨A1', rfl⟩ := get_last hx' h0
      have hy' := getV hy (by omega) (by omega)
      rw [show mid + m - s - m = B1.length from by omega] at hy'
      obtain ⟨B2', rfl⟩ := get_first hy'
      exact cond1 h (sorted_append.1 hU).1 (sorted_append.1 hV).2.1 hxy
  · rcases Nat.eq_zero_or_pos A2.length with h0 | h0
    · have : A2 = [] := List.length_eq_zero_iff.1 h0
      subst this; simp
    rcases Nat.eq_zero_or_pos B1.length with h0' | h0'
    · have : B1 = [] := List.length_eq_zero_iff.1 h0'
      subst this; simp
    rcases hB with hB | ⟨x, y, hx, hy, hxy⟩
    · exfalso; subst hhi; split at hB <;> omega
    · have hx' := getU hx (by omega) (by omega)
      rw [show s - p.length = A1.length from by omega] at hx'
      obtain ⟨A2', rfl⟩ := get_first hx'
      have hy' := getV hy (by omega) (by omega)
      rw [show mid + m - 1 - s - m = B1.length - 1 from by omega] at hy'
      obtain ⟨B1', rfl⟩ := get_last hy' h0'
      exact cond2 h (sorted_append.1 hU).2.1 (sorted_append.1 hV).1 hxy

/-! ### Rounds of the sort -/
theorem ms_cs_step (k f : Nat) : ∀ (c : Nat) (l : List α), ∃ pre, pre.length = min (2 * k * c) l.length ∧ (∀ d, ms lt k f (c + d) l = pre ++ ms lt k f d (l.drop (2 * k * c))) ∧ ∀ d, cs lt (2 * k) (c + d) l = pre ++ cs lt (2 * k) d (l.drop (2 * k * c))
  | 0, l => ⟨[], by simp, fun d => by simp, fun d => by simp⟩
  | c + 1, l => by
    obtain ⟨pre, h1, h3, h4⟩ := ms_cs_step k f c (l.drop (2 * k))
    have e : 2 * k * (c + 1) = 2 * k + 2 * k * c := by rw [Nat.mul_succ, Nat.add_comm]
    refine ⟨isort lt (l.take (2 * k)) ++ pre, ?_, fun d => ?_, fun d => ?_⟩
    · rw [List.length_append, isort_length, List.length_take, h1, List.length_drop, e]; omega
    · rw [show c + 1 + d = (c + d) + 1 from by omega]
      simp only [ms, h3, List.append_assoc, List.drop_drop, e]
    · rw [show c + 1 + d = (c + d) + 1 from by omega]
      simp only [cs, h4, List.append_assoc, List.drop_drop, e]

theorem le_mul_pos {k n m : Nat} (hk : 0 < k) (h : n ≤ m) : n ≤ k * m := Nat.le_trans h (Nat.le_mul_of_pos_left m hk)

theorem cs_ins {k c a n : Nat} {l : List α} (hl : l.length = n) (ha : a = k * c) (hb : a + k ≤ n) : ∃ P s r, cs lt k c l = P ++ s ++ r ∧ P.length = a ∧ s.length = k ∧ cs lt k (c + 1) l = P ++ isort lt s ++ r := by
  obtain ⟨P, h1, h2, h3⟩ := cs_step (lt := lt) k c l
  refine ⟨P, (l.drop (k * c)).take k, (l.drop (k * c)).drop k, by rw [h2, List.append_assoc, List.take_append_drop], by omega, by simp; omega, ?_⟩
  rw [h3 1]; simp [cs]
theorem cs_rest {k c a n : Nat} {l : List α} (hk : 0 < k) (hl : l.length = n) (ha : a = k * c) (hb : a ≤ n) (hc : n < a + k) : ∃ P s, cs lt k c l = P ++ s ∧ P.length = a ∧ a + s.length = n ∧ cs lt k (n + 1) l = P ++ isort lt s := by
  obtain ⟨P, h1, h2, h3⟩ := cs_step (lt := lt) k c l
  refine ⟨P, l.drop (k * c), h2, by omega, by simp; omega, ?_⟩
  have hcn : c ≤ n := by
    have := Nat.le_mul_of_pos_left c hk
    omega
  rw [show n + 1 = c + ((n - c) + 1) from by omega, h3, cs_one]
  simp; omega

theorem ms_one (h : SWO lt) {k d a n : Nat} {l : List α} (hk : 0 < k) (hl : l.length = n) (ha : a = 2 * k * d) (hb : a + 2 * k ≤ n) :
    ∃ P A B R, ms lt k (n + 1) d l = P ++ A ++ B ++ R ∧ P.length = a ∧ A.length = k ∧ B.length = k ∧ Sorted lt A ∧ Sorted lt B ∧ ms lt k (n + 1) (d + 1) l = P ++ isort lt (A ++ B) ++ R := by
  obtain ⟨P, h1, h2, _⟩ := ms_cs_step (lt := lt) k (n + 1) d l
  obtain ⟨A, B, R, hA, hB, h4, hR, h5⟩ := pair_merge h k (n - 1) (l.drop (2 * k * d))
  rw [show n - 1 + 2 = n + 1 from by omega] at h4
  refine ⟨P, A, B, R, ?_, by omega, ?_, ?_, ?_, ?_, ?_⟩
  · have : ms lt k (n + 1) d l = _ := h2 0
    rw [this]; simp only [ms]; rw [h4]; simp
  · rw [hA, isort_length]; simp; omega
  · rw [hB, isort_length]; simp; omega
  · rw [hA]; exact isort_sorted h _
  · rw [hB]; exact isort_sorted h _
  · rw [h2 1, h5]
    simp only [ms, List.append_assoc]
    rw [hR, show n + 1 = (n - 1) + 2 from by omega, cs_enough k hk (n - 1) _ (le_mul_pos hk (by simp; omega)) 2]
theorem ms_rest (h : SWO lt) {k d a n : Nat} {l : List α} (hk : 0 < k) (hl : l.length = n) (ha : a = 2 * k * d) (hb : n < a + 2 * k) (hm : a + k < n) :
    ∃ P A B, ms lt k (n + 1) d l = P ++ A ++ B ∧ P.length = a ∧ A.length = k ∧ a + k + B.length = n ∧ Sorted lt A ∧ Sorted lt B ∧ cs lt (2 * k) (n + 1) l = P ++ isort lt (A ++ B) := by
  obtain ⟨P, h1, h2, h3⟩ := ms_cs_step (lt := lt) k (n + 1) d l
  obtain ⟨A, B, R, hA, hB, h4, hR, h5⟩ := pair_merge h k (n - 1) (l.drop (2 * k * d))
  rw [show n - 1 + 2 = n + 1 from by omega] at h4
  have hR0 : R = [] := by rw [hR, List.drop_eq_nil_of_le (by simp; omega), cs_nil]
  refine ⟨P, A, B, ?_, by omega, ?_, ?_, ?_, ?_, ?_⟩
  · have : ms lt k (n + 1) d l = _ := h2 0
    rw [this]; simp only [ms]; rw [h4, hR0]; simp
  · rw [hA, isort_length]; simp; omega
  · rw [hB, isort_length]; simp; omega
  · rw [hA]; exact isort_sorted h _
  · rw [hB]; exact isort_sorted h _
  · have hdn : d ≤ n := by
      have := Nat.le_mul_of_pos_left d (show 0 < 2 * k by omega)
      omega
    rw [show n + 1 = d + ((n - d) + 1) from by omega, h3, cs_one _ _ _ (by simp; omega), h5]
    rw [List.take_of_length_le (l := l.drop (2 * k * d)) (by simp; omega)]
theorem ms_last {k d a n : Nat} {l : List α} (hk : 0 < k) (hl : l.length = n) (ha : a = 2 * k * d) (hb : a ≤ n) (hm : n ≤ a + k) : ms lt k (n + 1) d l = cs lt (2 * k) (n + 1) l := by
  obtain ⟨P, h1, h2, h3⟩ := ms_cs_step (lt := lt) k (n + 1) d l
  have hdn : d ≤ n := by
    have := Nat.le_mul_of_pos_left d (show 0 < 2 * k by omega)
    omega
  have : ms lt k (n + 1) d l = _ := h2 0
  rw [this]; simp only [ms]
  rw [cs_one k n _ (by simp; omega)]
  rw [show n + 1 = d + ((n - d) + 1) from by omega, h3, cs_one _ _ _ (by simp; omega)]
end Srt
end Go.Proofs.YtpcfgoadkfajfaaGreatDoor
