/- Slices of the call's own, maps, strings: rules over symbolic frames and heaps. -/
import Derived.Test.YtmndhiaaolfepaaDoorOps
import Derived.Great.BuildSlice
namespace Go.Proofs.YtmndhiaaolfepaaDoor
set_option linter.all false
open Go Go.RowKit

section
variable {P : Program} {w0 : World} {O : List Nat} {n : Nat} {D : List Deferred} {o : Oper} {V : List (Nat × Value)} {L : List Ent} {T : List (Nat × Value) → List Ent → Prop}

theorem flat_nil : flat [] = [] := rfl
theorem flat_cons (c : Array Value) (xs : List (Array Value)) : flat (c :: xs) = c.toList ++ flat xs := by simp [flat]
theorem flat_append (xs ys : List (Array Value)) : flat (xs ++ ys) = flat xs ++ flat ys := by simp [flat]
theorem flat_length {sz : Nat} : ∀ {xs : List (Array Value)}, (∀ c ∈ xs, c.size = sz) → (flat xs).length = xs.length * sz
  | [], _ => by simp [flat]
  | c :: xs, h => by
    rw [flat_cons, List.length_append, flat_length (fun c hc => h c (List.mem_cons_of_mem _ hc)), List.length_cons, Nat.add_mul]
    have := h c List.mem_cons_self
    simp only [Array.length_toList]
    omega
theorem flat_get {sz : Nat} : ∀ {xs : List (Array Value)}, (∀ c ∈ xs, c.size = sz) → ∀ {k : Nat} {c : Array Value} {j : Nat}, xs[k]? = some c → j < sz → (flat xs)[k * sz + j]? = c[j]?
  | [], _, k, c, j, h, _ => by simp at h
  | d :: xs, hs, 0, c, j, h, hj => by
    have : d = c := by simpa using h
    subst this
    have := hs d List.mem_cons_self
    rw [flat_cons, Nat.zero_mul, Nat.zero_add, List.getElem?_append_left (by simp; omega)]
    simp
  | d :: xs, hs, k + 1, c, j, h, hj => by
    have hd := hs d List.mem_cons_self
    rw [flat_cons, List.getElem?_append_right (by simp [hd, Nat.add_mul]; omega)]
    rw [show (k + 1) * sz + j - d.toList.length = k * sz + j from by simp [hd, Nat.add_mul]; omega]
    exact flat_get (fun c hc => hs c (List.mem_cons_of_mem _ hc)) (by simpa using h) hj
theorem mem_flat {xs : List (Array Value)} {u : Value} : u ∈ flat xs ↔ ∃ c ∈ xs, u ∈ c.toList := by simp [flat]

/-- A slice of one's own reads as its elements. -/
theorem Ent.rd {w : World} {A : Option Addr} {cap : Nat} {e : TypeId} {sz : Nat} {xs : List (Array Value)} (h : (Ent.row A cap e sz xs).sat w) : Rd w A sz xs := by
  obtain ⟨⟨h1, h2⟩, h3⟩ := h
  refine ⟨fun k c hk => ?_⟩
  have hmem := List.mem_of_getElem? hk
  have hlen : 0 < xs.length := by
    have := (List.getElem?_eq_some_iff.1 hk).1
    omega
  rcases h2 with ⟨hv, hn⟩ | ⟨g, cp, cur, hv, _, hg, hnc, _, hcs, htake⟩
  · omega
  · injection hv with hA hn hc
    subst hA
    refine ⟨(h3 c hmem).1, ⟨g, 0, rfl⟩, (Array.getElem?_eq_some_iff.1 hg).1, (h3 c hmem).2, fun j hj => ?_⟩
    have hf := flat_get (fun c hc => (h3 c hc).1) hk hj
    show w.cell? ⟨g, 0 + k * sz + j, none⟩ = c[j]?
    rw [Nat.zero_add, cell_of_row w g _ cur e (0, 0) hg, ← hf, ← htake]
    have hk' := (List.getElem?_eq_some_iff.1 hk).1
    have hlt : k * sz + j < xs.length * sz := by
      have : (k + 1) * sz ≤ xs.length * sz := Nat.mul_le_mul_right _ hk'
      rw [Nat.add_mul] at this
      omega
    rw [List.getElem?_take_of_lt hlt]
    simp

/-- An element of a slice of one's own, whole; one cell of it. -/
theorem y_rowElem {t : TypeId} {x : Operand} {A : Option Addr} {cap : Nat} {e : TypeId} {sz k i : Nat} {xs : List (Array Value)} {c : Array Value} (ho : o.op = .load t x) (hx : ev V x = some (.pointer (some ⟨ab A, ao A + k * sz, none⟩))) (h1 : AggT P t sz)
    (hL : L[i]? = some (.row A cap e sz xs)) (hk : xs[k]? = some c) : Yld P w0 O n D o V L (.agg c) := by
  intro a w ha hw
  obtain ⟨hs, _, _, _, hc⟩ := (Ent.rd (hw.ents _ (List.mem_of_getElem? hL))).at_ k c hk
  have := run_load_agg (P := P) (w := w) (b := ab A) (j := ao A + k * sz) (cs := c.toList) h1 (by simpa using hs) (fun i v hv => by
    have hi : i < c.size := by
      have := (List.getElem?_eq_some_iff.1 hv).1
      simpa using this
    rw [hc i (by omega)]; simpa using hv)
  simp [execOp, ho, ha.eval hx, Instr.loadAt, Instr.sureAddr, this]
theorem y_rowElemF {t : TypeId} {x : Operand} {A : Option Addr} {cap : Nat} {e : TypeId} {sz k j i : Nat} {xs : List (Array Value)} {c : Array Value} {v : Value} (ho : o.op = .load t x) (hx : ev V x = some (.pointer (some ⟨ab A, ao A + k * sz + j, none⟩))) (h1 : One P t)
    (hL : L[i]? = some (.row A cap e sz xs)) (hk : xs[k]? = some c) (hv : c[j]? = some v) : Yld P w0 O n D o V L v := by
  intro a w ha hw
  obtain ⟨hs, _, _, _, hc⟩ := (Ent.rd (hw.ents _ (List.mem_of_getElem? hL))).at_ k c hk
  have hj : j < c.size := (Array.getElem?_eq_some_iff.1 hv).1
  have hcell : w.cell? ⟨ab A, ao A + k * sz + j, none⟩ = some v := by rw [hc j (by omega)]; exact hv
  simp [execOp, ho, ha.eval hx, Instr.loadAt, Instr.sureAddr, run_load_one h1 hcell]
theorem y_rowElem1 {t : TypeId} {x : Operand} {A : Option Addr} {cap : Nat} {e : TypeId} {k i : Nat} {xs : List (Array Value)} {v : Value} (ho : o.op = .load t x) (hx : ev V x = some (.pointer (some ⟨ab A, ao A + k * 1, none⟩))) (h1 : One P t)
    (hL : L[i]? = some (.row A cap e 1 xs)) (hk : xs[k]? = some #[v]) : Yld P w0 O n D o V L v :=
  y_rowElemF (j := 0) ho hx h1 hL hk rfl
theorem y_elem1 {t : TypeId} {x : Operand} {A : Option Addr} {k : Nat} {xs : List (Array Value)} {v : Value} (ho : o.op = .load t x) (hx : ev V x = some (.pointer (some ⟨ab A, ao A + k * 1, none⟩))) (h1 : One P t)
    (hr : Rd w0 A 1 xs) (hO : ab A ∉ O) (hk : xs[k]? = some #[v]) : Yld P w0 O n D o V L v :=
  y_elemF (j := 0) ho hx h1 hr hO hk rfl

/-! ### Slice literals -/
/-- A slice type, its element type, cells, bytes and zero value. -/
structure SlB (P : Program) (t e : TypeId) (sz bytes : Nat) (z : Value) : Prop where
  under : P.underlying t = some (.slice e)
  info : ∃ i, P.info? e = some i ∧ i.zero = some z ∧ i.size = sz ∧ i.bytes = bytes
  zs : z.cells.size = sz
  pos : 0 < sz
theorem SlB.slt {t e : TypeId} {sz bytes : Nat} {z : Value} (h : SlB P t e sz bytes z) : SlT P t e sz := by
  obtain ⟨i, h1, h2, h3, h4⟩ := h.info
  exact ⟨i, h.under, h1, h3⟩

theorem foldl_setAt : ∀ (c : List Value) (off k : Nat) (arr : Array Value), off + k + c.length ≤ arr.size →
    ((c.zipIdx k).foldl (fun cs (p : Value × Nat) => cs.setIfInBounds (off + p.2) p.1) arr).toList = arr.toList.take (off + k) ++ c ++ arr.toList.drop (off + k + c.length)
  | [], off, k, arr, h => by simp
  | x :: c, off, k, arr, h => by
    rw [List.zipIdx_cons, List.foldl_cons, foldl_setAt c off (k + 1) _ (by simp at h ⊢; omega)]
    simp only [List.length_cons] at h
    have hlt : off + k < arr.toList.length := by simp; omega
    simp only [Array.toList_setIfInBounds]
    have e1 : (arr.toList.set (off + k) x).take (off + (k + 1)) = arr.toList.take (off + k) ++ [x] := by
      rw [show off + (k + 1) = off + k + 1 from by omega, List.take_succ_eq_append_getElem (by simpa using hlt)]
      rw [List.take_set_of_le (by omega)]
      simp
    have e2 : (arr.toList.set (off + k) x).drop (off + (k + 1) + c.length) = arr.toList.drop (off + k + (c.length + 1)) := by
      rw [List.drop_set_of_lt (by omega)]
      congr 1; omega
    rw [e1, e2]
    simp

theorem fill_full {sz : Nat} : ∀ (vs : List Value) (k : Nat) (arr : Array Value), (∀ v ∈ vs, v.cells.size = sz) → (k + vs.length) * sz ≤ arr.size →
    ∃ out, Instr.fill (fun i => some (i * sz, sz)) arr ((vs.zipIdx k).map fun p => (p.2, p.1)) = some out ∧ out.toList = arr.toList.take (k * sz) ++ flat (vs.map Value.cells) ++ arr.toList.drop ((k + vs.length) * sz)
  | [], k, arr, _, _ => ⟨arr, rfl, by simp [flat]⟩
  | v :: vs, k, arr, hv, hs => by
    have h1 := hv v List.mem_cons_self
    have hle : (k + 1) * sz ≤ arr.size := Nat.le_trans (Nat.mul_le_mul_right _ (by simp)) hs
    rw [Nat.add_mul, Nat.one_mul] at hle
    have hfold : (v.cells.zipIdx.foldl (fun cs (p : Value × Nat) => cs.setIfInBounds (k * sz + p.2) p.1) arr).toList = arr.toList.take (k * sz) ++ v.cells.toList ++ arr.toList.drop (k * sz + sz) := by
      have := foldl_setAt v.cells.toList (k * sz) 0 arr (by simp [h1]; omega)
      rw [← Array.foldl_toList, Array.toList_zipIdx]
      simpa [h1] using this
    have hsz : (v.cells.zipIdx.foldl (fun cs (p : Value × Nat) => cs.setIfInBounds (k * sz + p.2) p.1) arr).size = arr.size := by
      rw [← Array.length_toList, hfold]
      simp [h1]; omega
    obtain ⟨out, ho, hl⟩ := fill_full vs (k + 1) (v.cells.zipIdx.foldl (fun cs (p : Value × Nat) => cs.setIfInBounds (k * sz + p.2) p.1) arr) (fun u hu => hv u (List.mem_cons_of_mem _ hu)) (by rw [hsz]; simpa [Nat.add_assoc, Nat.add_comm 1] using hs)
    refine ⟨out, ?_, ?_⟩
    · rw [List.zipIdx_cons, List.map_cons]
      simp only [Instr.fill]
      rw [if_neg]
      · exact ho
      · simp [h1]; omega
    · rw [hl, hfold]
      have e1 : (arr.toList.take (k * sz) ++ v.cells.toList ++ arr.toList.drop (k * sz + sz)).take ((k + 1) * sz) = arr.toList.take (k * sz) ++ v.cells.toList := by
        rw [List.take_left']
        simp [h1, Nat.add_mul]; omega
      have e2 : (arr.toList.take (k * sz) ++ v.cells.toList ++ arr.toList.drop (k * sz + sz)).drop ((k + 1 + vs.length) * sz) = arr.toList.drop ((k + (vs.length + 1)) * sz) := by
        rw [List.drop_append]
        have hlen : (arr.toList.take (k * sz) ++ v.cells.toList).length = (k + 1) * sz := by simp [h1, Nat.add_mul]; omega
        have hge : (k + 1) * sz ≤ (k + 1 + vs.length) * sz := Nat.mul_le_mul_right _ (by omega)
        rw [List.drop_eq_nil_of_le (by rw [hlen]; exact hge), hlen, List.drop_drop, List.nil_append]
        congr 1
        rw [show k + (vs.length + 1) = k + 1 + vs.length from by omega]
        rw [Nat.add_mul k 1 sz] at hge
        rw [Nat.add_mul k 1 sz]
        omega
      rw [e1, e2, List.map_cons, flat_cons]
      simp

/-- The parts of a literal, in order from 0 on. -/
def evParts (V : List (Nat × Value)) : Nat → List (Nat × Operand) → Option (List Value)
  | _, [] => some []
  | k, (i, x) :: r => bif Nat.beq i k then (match ev V x, evParts V (k + 1) r with | some v, some vs => some (v :: vs) | _, _ => none) else none

theorem evParts_spec {a : Act} (ha : Holds n D a V) : ∀ {k : Nat} {ps : List (Nat × Operand)} {vs : List Value}, evParts V k ps = some vs → ps.map (fun p => (p.1, a.eval p.2)) = (vs.zipIdx k).map fun p => (p.2, p.1)
  | k, [], vs, h => by
    obtain rfl : vs = [] := by simpa [evParts] using h.symm
    rfl
  | k, (i, x) :: r, vs, h => by
    simp only [evParts] at h
    cases hb : Nat.beq i k with
    | false => rw [hb] at h; simp at h
    | true =>
      rw [hb] at h
      simp only [cond_true] at h
      split at h
      · rename_i v vs' h1 h2
        obtain rfl : v :: vs' = vs := by simpa using h
        have : i = k := Nat.eq_of_beq_eq_true hb
        subst this
        rw [List.map_cons, evParts_spec ha h2, ha.eval h1, List.zipIdx_cons, List.map_cons]
      · cases h

theorem ownsRow_new {w : World} {cs : Array Value} {e : TypeId} {sz : Nat} {xs : List (Array Value)} (hcs : cs.toList = flat xs) (hxs : ∀ c ∈ xs, c.size = sz ∧ ∀ u ∈ c.toList, u.oneCell' = true) (hm : xs.length ≤ maxLen) :
    (Ent.row (some ⟨w.heap.size, 0, none⟩) xs.length e sz xs).sat (w.alloc (.cells cs e)) := by
  have hfl := flat_length (fun c hc => (hxs c hc).1)
  refine ⟨⟨hfl, .inr ⟨w.heap.size, xs.length, cs, rfl, Nat.zero_le _, heap_alloc_new w _, Nat.le_refl _, hm, ?_, ?_⟩⟩, hxs⟩
  · rw [← Array.length_toList, hcs, hfl]
  · rw [hcs, ← hfl, List.take_length]

theorem op_buildSlice {t e : TypeId} {len : Nat} {parts : Array (Nat × Operand)} {d sz bytes : Nat} {z : Value} {vs : List Value} (ho : o.op = .buildSlice t len parts) (hd : o.dst = some d) (hdn : Nat.blt d n = true) (ht : SlB P t e sz bytes z)
    (hp : evParts V 0 parts.toList = some vs) (hlen : vs.length = len) (hvs : ∀ v ∈ vs, v.cells.size = sz ∧ ∀ u ∈ v.cells.toList, u.oneCell' = true) (hsmall : len * sz ≤ 16777216)
    (hT : ∀ g, T ((d, .slice (some ⟨g, 0, none⟩) len len) :: V) (.row (some ⟨g, 0, none⟩) len e sz (vs.map Value.cells) :: L)) : OpS P w0 O n D o V L T := by
  intro a w ha hw
  obtain ⟨i, hi, hz, hsz, _⟩ := ht.info
  subst hsz
  have hps := evParts_spec ha hp
  have hpe : (parts.map fun (p : Nat × Operand) => (p.1, a.eval p.2)).toList = (vs.zipIdx 0).map fun p => (p.2, p.1) := by
    rw [Array.toList_map]; exact hps
  obtain ⟨cells, hrun, hcells⟩ : ∃ cells : Array Value, (Instr.buildSlice t len (parts.map fun (p : Nat × Operand) => (p.1, a.eval p.2))).run P w = .ok (.slice (some ⟨w.heap.size, 0, none⟩) len len) (w.alloc (.cells cells e)) ∧ cells.toList = flat (vs.map Value.cells) := by
    by_cases h0 : len * i.size = 0
    · have hl0 : len = 0 := by
        rcases Nat.mul_eq_zero.1 h0 with h | h
        · exact h
        · have := ht.pos; omega
      subst hl0
      have : vs = [] := List.eq_nil_of_length_eq_zero hlen
      subst this
      refine ⟨#[], ?_, rfl⟩
      have hpn : parts = #[] := by
        have : parts.toList = [] := by
          have := congrArg List.length hpe
          simp at this
          simpa using this
        exact Array.ext' (by simpa using this)
      subst hpn
      simp [Instr.buildSlice, run_underlying ht.under, sizeOf, typeInfo, hi, Instr.fill, newRow, Array.range_zero']
    · obtain ⟨out, hf, hout⟩ := fill_full (sz := i.size) vs 0 ((Array.range (len * i.size)).map (z.cells[· % z.cells.size]!)) (fun v hv => (hvs v hv).1) (by simp [hlen])
      refine ⟨out, run_buildSlice w t e len _ out i z ht.under hi hz (by omega) h0 (by rw [hpe]; exact hf), ?_⟩
      rw [hout, hlen]
      simp
  have hxs : ∀ c ∈ vs.map Value.cells, c.size = i.size ∧ ∀ u ∈ c.toList, u.oneCell' = true := by
    intro c hc
    obtain ⟨v, hv, rfl⟩ := List.mem_map.1 hc
    exact hvs v hv
  have hr : (execOp a.eval o).run P w = .ok (.value (.slice (some ⟨w.heap.size, 0, none⟩) len len)) (w.alloc (.cells cells e)) := by
    simp only [execOp, ho]
    simp only [Sem.run_bind, hrun, Result.andThen_ok, Sem.run_pure]
  unfold Does
  rw [hr, hd]
  refine ⟨_, _, hT w.heap.size, ha.put hdn _, ?_⟩
  have hlm : (vs.map Value.cells).length ≤ maxLen := by
    have : len ≤ len * i.size := Nat.le_mul_of_pos_right _ ht.pos
    simp [maxLen]; omega
  have hsat := ownsRow_new (w := w) (e := e) hcells hxs hlm
  have hall := hw.alloc (.cells cells e)
  have := hall.set (A := []) (R := L) (w' := w.alloc (.cells cells e)) (p := .blk w.heap.size (.cells cells e)) (p' := .row (some ⟨w.heap.size, 0, none⟩) len e i.size (vs.map Value.cells)) rfl rfl rfl rfl (Nat.le_refl _)
    (by rw [← hlen]; simpa using hsat) (by simp [Ent.blocks]) (fun b hb => .inl (by simpa [Ent.blocks] using hb)) (fun _ _ _ => rfl)
  simpa using this

/-! ### append -/
theorem run_append_nothing {w : World} (t ty e : TypeId) {A : Option Addr} {m cap : Nat} (c : Nat) (sz : Nat) {i : TypeInfo} (ht : P.underlying t = some (.slice e)) (hi : P.info? e = some i) (hc : m ≤ cap) (hA : A = none → m = 0) :
    (Builtin.append_ #[t, t] ty #[.slice A m cap, .slice none 0 c]).run P w = .ok (.slice A m cap) w := by
  cases A with
  | none => simp [Builtin.append_, run_underlying ht, sizeOf, typeInfo, hi, Builtin.lenOf, Builtin.firstCells, hc]
  | some a => simp [Builtin.append_, run_underlying ht, sizeOf, typeInfo, hi, Builtin.lenOf, Builtin.firstCells, hc, storeCells]

theorem run_append_rd {w : World} {t ty e : TypeId} {sz bytes : Nat} {z : Value} (ht : SlB P t e sz bytes z) {A : Option Addr} {cap : Nat} {xs : List (Array Value)} (hrow : (Ent.row A cap e sz xs).sat w)
    {B : Option Addr} {c : Nat} {ys : List (Array Value)} (hB : Rd w B sz ys) (h63 : xs.length + ys.length ≤ maxLen) (hby : (xs.length + ys.length) * bytes ≤ 140737488355328) :
    ∃ A' cap' w', (Builtin.append_ #[t, t] ty #[.slice A xs.length cap, .slice B ys.length c]).run P w = .ok (.slice A' (xs ++ ys).length cap') w' ∧ (Ent.row A' cap' e sz (xs ++ ys)).sat w' ∧ w.grownBy w' (Value.slice A xs.length cap).ownBlock ∧
      (A'.map Addr.block = A.map Addr.block ∨ A'.map Addr.block = some w.heap.size) := by
  obtain ⟨i, hi, hz, hsz, hbb⟩ := ht.info
  obtain ⟨hown, hxs⟩ := hrow
  rcases ys with _ | ⟨y, ys⟩
  · -- nothing is appended
    have hcap : xs.length ≤ cap ∧ (A = none → xs.length = 0) := by
      rcases hown.2 with ⟨hv, hn⟩ | ⟨g, cp, cur, hv, _, _, hnc, _⟩
      · injection hv with h1 h2 h3; exact ⟨by omega, fun _ => hn⟩
      · injection hv with h1 h2 h3; exact ⟨by omega, fun h => by rw [h1] at h; cases h⟩
    cases B with
    | none => exact ⟨A, cap, w, by simpa using run_append_nothing t ty e c sz ht.under hi hcap.1 hcap.2, by simpa using ⟨hown, hxs⟩, World.grownBy.refl w _, .inl rfl⟩
    | some b =>
      obtain ⟨v', w', h1, h2, h3, _, h5⟩ := run_append_own_at (P := P) w 0 t ty e i z sz bytes ht.under hi hz hsz hbb ht.zs ht.pos (.slice A xs.length cap) xs.length (flat xs) hown b 0 c [] (by simp) (by simp) (by simp) (by simpa using h63) (by simpa using hby) (Nat.zero_le _)
      simp only [Nat.add_zero, List.append_nil] at h2
      obtain ⟨A', cap', rfl⟩ : ∃ A' cap', v' = .slice A' xs.length cap' := by
        rcases h2.2 with ⟨hv, hn⟩ | ⟨g, cp, cur, hv, _⟩
        · exact ⟨none, 0, by rw [hv, hn]⟩
        · exact ⟨_, _, hv⟩
      refine ⟨A', cap', w', by simpa using h1, by simpa using ⟨h2, hxs⟩, h3, ?_⟩
      cases A' <;> cases A <;> simp [Value.ownBlock] at h5 ⊢ <;> exact h5
  · have hy := fun k c hk => hB.at_ k c hk
    obtain ⟨_, ⟨b, j, rfl⟩, _, _⟩ := hy 0 y (by simp)
    have hys : ∀ c ∈ (y :: ys), c.size = sz ∧ ∀ u ∈ c.toList, u.oneCell' = true := by
      intro c hc
      obtain ⟨k, hk⟩ := List.mem_iff_getElem?.1 hc
      exact ⟨(hy k c hk).1, (hy k c hk).2.2.2.1⟩
    have hfl := flat_length (fun c hc => (hys c hc).1)
    have hnews : ∀ q u, (flat (y :: ys))[q]? = some u → w.cell? ((⟨b, j, none⟩ : Addr).add q) = some u := by
      intro q u hq
      have hqlt : q < (y :: ys).length * sz := by
        have := (List.getElem?_eq_some_iff.1 hq).1
        omega
      have hk : q / sz < (y :: ys).length := Nat.div_lt_of_lt_mul (by rw [Nat.mul_comm]; exact hqlt)
      have hr : q % sz < sz := Nat.mod_lt _ ht.pos
      have hqe : q = q / sz * sz + q % sz := by rw [Nat.mul_comm]; exact (Nat.div_add_mod q sz).symm
      have hget := flat_get (fun c hc => (hys c hc).1) (List.getElem?_eq_getElem hk) hr
      rw [← hqe] at hget
      obtain ⟨_, _, _, _, hc⟩ := hy (q / sz) _ (List.getElem?_eq_getElem hk)
      have h1 := hc (q % sz) hr
      rw [add_none]
      rw [show ab (some ⟨b, j, none⟩) = b from rfl, show ao (some ⟨b, j, none⟩) = j from rfl, Nat.add_assoc, ← hqe] at h1
      rw [h1, ← hget, hq]
    obtain ⟨v', w', h1, h2, h3, _, h5⟩ := run_append_own_at (P := P) w 0 t ty e i z sz bytes ht.under hi hz hsz hbb ht.zs ht.pos (.slice A xs.length cap) xs.length (flat xs) hown ⟨b, j, none⟩ (y :: ys).length c (flat (y :: ys)) hfl hnews
      (fun u hu => by obtain ⟨c, hc, hcu⟩ := mem_flat.1 hu; exact (hys c hc).2 u hcu) h63 hby (Nat.zero_le _)
    rw [← flat_append] at h2
    obtain ⟨A', cap', rfl⟩ : ∃ A' cap', v' = .slice A' (xs.length + (y :: ys).length) cap' := by
      rcases h2.2 with ⟨hv, hn⟩ | ⟨g, cp, cur, hv, _⟩
      · simp at hn
      · exact ⟨_, _, hv⟩
    refine ⟨A', cap', w', by rw [List.length_append]; exact h1, ⟨by rw [List.length_append]; exact h2, ?_⟩, h3, ?_⟩
    · intro c hc
      rcases List.mem_append.1 hc with hc | hc
      · exact hxs c hc
      · exact hys c hc
    · cases A' <;> cases A <;> simp [Value.ownBlock] at h5 ⊢ <;> exact h5

theorem row_blocks_nodup {A : Option Addr} {cap : Nat} {e : TypeId} {sz : Nat} {xs : List (Array Value)} : (Ent.row A cap e sz xs).blocks.Nodup := by
  cases A <;> simp [Ent.blocks]

theorem op_append_core {x y : Operand} {t e : TypeId} {d sz bytes i : Nat} {z : Value} {A B : Option Addr} {cap c m : Nat} {xs ys : List (Array Value)}
    (ho : o.op = .call { callee := .builtin .append, args := #[x, y], argTypes := #[t, t] }) (hd : o.dst = some d) (hdn : Nat.blt d n = true) (ht : SlB P t e sz bytes z) (hx : ev V x = some (.slice A xs.length cap)) (hL : L[i]? = some (.row A cap e sz xs))
    (hy : ev V y = some (.slice B m c)) (hm : ys.length = m) (hB : ∀ w, SL w0 O w L → Rd w B sz ys) (h63 : xs.length + m ≤ 9223372036854775807) (hby : (xs.length + m) * bytes ≤ 140737488355328)
    (hT : ∀ A' cap', T ((d, .slice A' (xs ++ ys).length cap') :: V) (L.set i (.row A' cap' e sz (xs ++ ys)))) : OpS P w0 O n D o V L T := by
  intro a w ha hw
  subst hm
  obtain ⟨A', cap', w', hrun, hsat, hgr, hbl⟩ := run_append_rd (P := P) (w := w) (ty := o.type) (c := c) ht (hw.ents _ (List.mem_of_getElem? hL)) (hB w hw) (by unfold maxLen; omega) hby
  have hr : (execOp a.eval o).run P w = .ok (.value (.slice A' (xs ++ ys).length cap')) w' := by
    simp only [execOp, ho, resolve, invoke, builtin, Sem.run_bind, Sem.run_pure, Result.andThen_ok, List.map_toArray, List.map_cons, List.map_nil, ha.eval hx, ha.eval hy, hrun]
  unfold Does
  rw [hr, hd]
  refine ⟨_, _, hT A' cap', ha.put hdn _, hw.setI hL hgr.os hgr.tape hgr.output hgr.size hsat row_blocks_nodup ?_ ?_⟩
  · intro b hb
    have hb' : A'.map Addr.block = some b := by simpa [Ent.blocks] using hb
    rcases hbl with h | h
    · left; rw [h] at hb'; simpa [Ent.blocks] using hb'
    · right; rw [h] at hb'; simp at hb'; omega
  · intro k hk hkb
    refine hgr.block k hk ?_
    intro hkk
    apply hkb
    cases A with
    | none => simp [Value.ownBlock] at hkk
    | some a => simp [Value.ownBlock] at hkk; simp [Ent.blocks, hkk]

/-- append of elements that lie in a slice of one's own (a literal's): it is not wanted behind. -/
theorem op_append {x y : Operand} {t e : TypeId} {d sz bytes i j : Nat} {z : Value} {A B : Option Addr} {cap c capy m : Nat} {ey : TypeId} {xs ys : List (Array Value)}
    (ho : o.op = .call { callee := .builtin .append, args := #[x, y], argTypes := #[t, t] }) (hd : o.dst = some d) (hdn : Nat.blt d n = true) (ht : SlB P t e sz bytes z) (hx : ev V x = some (.slice A xs.length cap)) (hL : L[i]? = some (.row A cap e sz xs))
    (hy : ev V y = some (.slice B m c)) (hm : ys.length = m) (hLy : L[j]? = some (.row B capy ey sz ys)) (h63 : xs.length + m ≤ 9223372036854775807) (hby : (xs.length + m) * bytes ≤ 140737488355328)
    (hT : ∀ A' cap', T ((d, .slice A' (xs ++ ys).length cap') :: V) (L.set i (.row A' cap' e sz (xs ++ ys)))) : OpS P w0 O n D o V L T :=
  op_append_core ho hd hdn ht hx hL hy hm (fun w hw => Ent.rd (hw.ents _ (List.mem_of_getElem? hLy))) h63 hby hT
/-- .. of elements that lay ahead of the call. -/
theorem op_append0 {x y : Operand} {t e : TypeId} {d sz bytes i : Nat} {z : Value} {A B : Option Addr} {cap c m : Nat} {xs ys : List (Array Value)}
    (ho : o.op = .call { callee := .builtin .append, args := #[x, y], argTypes := #[t, t] }) (hd : o.dst = some d) (hdn : Nat.blt d n = true) (ht : SlB P t e sz bytes z) (hx : ev V x = some (.slice A xs.length cap)) (hL : L[i]? = some (.row A cap e sz xs))
    (hy : ev V y = some (.slice B m c)) (hm : ys.length = m) (hr : Rd w0 B sz ys) (hO : ab B ∉ O) (h63 : xs.length + m ≤ 9223372036854775807) (hby : (xs.length + m) * bytes ≤ 140737488355328)
    (hT : ∀ A' cap', T ((d, .slice A' (xs ++ ys).length cap') :: V) (L.set i (.row A' cap' e sz (xs ++ ys)))) : OpS P w0 O n D o V L T :=
  op_append_core ho hd hdn ht hx hL hy hm (fun w hw => hw.rd hr hO) h63 hby hT

theorem sat_nil (w : World) (e : TypeId) (sz : Nat) : (Ent.row none 0 e sz []).sat w := ⟨World.ownsRow_nil w 0 e sz, by simp⟩
/-- A nil slice is one of one's own. -/
theorem SL.rowNil {w : World} (h : SL w0 O w L) (e : TypeId) (sz : Nat) : SL w0 O w (.row none 0 e sz [] :: L) := by
  refine ⟨h.os, h.tape, h.output, h.size, h.same, ?_, ?_, ?_⟩
  · intro p hp
    rcases List.mem_cons.1 hp with rfl | hp
    · exact sat_nil w e sz
    · exact h.ents p hp
  · simpa [List.flatMap_cons, Ent.blocks] using h.nodup
  · intro p hp b hb
    rcases List.mem_cons.1 hp with rfl | hp
    · simp [Ent.blocks] at hb
    · exact h.own p hp b hb
theorem CX.rowNil {r : Option Nat} {Q : Exit → Act → World → Prop} {c : Code} (e : TypeId) (sz : Nat) (h : CX P r Q w0 O n D c V (.row none 0 e sz [] :: L)) : CX P r Q w0 O n D c V L :=
  fun a w ha hw => h a w ha (hw.rowNil e sz)

/-! ### A store into an element of a slice of one's own -/
theorem flat_set {sz : Nat} : ∀ {xs : List (Array Value)}, (∀ c ∈ xs, c.size = sz) → ∀ {k : Nat} {c : Array Value}, k < xs.length → c.size = sz → flat (xs.set k c) = (flat xs).take (k * sz) ++ c.toList ++ (flat xs).drop ((k + 1) * sz)
  | [], _, k, c, h, _ => by simp at h
  | d :: xs, hs, 0, c, _, hc => by
    have hd := hs d List.mem_cons_self
    simp only [List.set_cons_zero, flat_cons, Nat.zero_mul, List.take_zero, List.nil_append, Nat.zero_add, Nat.one_mul]
    rw [List.drop_left' (by simp [hd])]
  | d :: xs, hs, k + 1, c, h, hc => by
    have hd := hs d List.mem_cons_self
    simp only [List.set_cons_succ, flat_cons]
    rw [flat_set (fun c hc => hs c (List.mem_cons_of_mem _ hc)) (by simpa using h) hc]
    have e1 : (k + 1) * sz = d.toList.length + k * sz := by simp [hd, Nat.add_mul]; omega
    have e2 : (k + 1 + 1) * sz = d.toList.length + (k + 1) * sz := by simp [hd, Nat.add_mul]; omega
    have r1 : (d.toList ++ flat xs).take ((k + 1) * sz) = d.toList ++ (flat xs).take (k * sz) := by rw [e1, List.take_length_add_append]
    have r2 : (d.toList ++ flat xs).drop ((k + 1 + 1) * sz) = (flat xs).drop ((k + 1) * sz) := by rw [e2, List.drop_length_add_append]
    rw [r1, r2]
    simp only [List.append_assoc]

theorem op_storeElem {t e : TypeId} {x y : Operand} {A : Option Addr} {cap sz k i : Nat} {v : Value} {xs : List (Array Value)} (ho : o.op = .store t x y) (hd : o.dst = none) (hx : ev V x = some (.pointer (some ⟨ab A, ao A + k * sz, none⟩))) (hy : ev V y = some v) (hs : SzT P t sz)
    (hv : v.cells.size = sz) (h1 : ∀ u ∈ v.cells.toList, u.oneCell' = true) (hL : L[i]? = some (.row A cap e sz xs)) (hk : k < xs.length)
    (hT : T V (L.set i (.row A cap e sz (xs.set k v.cells)))) : OpS P w0 O n D o V L T := by
  intro a w ha hw
  have hsat := hw.ents _ (List.mem_of_getElem? hL)
  obtain ⟨⟨hl, h2⟩, hxs⟩ := hsat
  rcases h2 with ⟨hvv, hn⟩ | ⟨g, cp, cur, hvv, _, hg, hnc, hcm, hcs, htake⟩
  · omega
  · injection hvv with hA hn hc
    subst hA; subst hc
    have hfl := flat_length (fun c hc => (hxs c hc).1)
    have hle : (k + 1) * sz ≤ xs.length * sz := Nat.mul_le_mul_right _ hk
    have hle2 : xs.length * sz ≤ cap * sz := Nat.mul_le_mul_right _ hnc
    rw [Nat.add_mul, Nat.one_mul] at hle
    have hx' : a.eval x = .pointer (some ⟨g, k * sz, none⟩) := by
      rw [ha.eval hx]
      show Value.pointer (some ⟨g, 0 + k * sz, none⟩) = _
      rw [Nat.zero_add]
    have hr := run_store_row (P := P) (w := w) (g := g) (j := k * sz) hs hv h1 hg (by omega)
    have hr' : (execOp a.eval o).run P w = .ok .skip (w.setRow g (cur.toList.take (k * sz) ++ v.cells.toList ++ cur.toList.drop (k * sz + sz)).toArray) := by
      simp only [execOp, ho, hx', ha.eval hy, Instr.storeAt, Instr.sureAddr]
      simp only [Sem.run_bind, Sem.run_pure, Result.andThen_ok, hr]
    unfold Does
    rw [hr', hd]
    refine ⟨_, _, hT, ha, hw.setI hL rfl rfl rfl (by simp) ?_ row_blocks_nodup (fun b hb => .inl hb) (fun j _ hj => setRow_other w g j _ (by simpa [Ent.blocks] using hj))⟩
    have hxs' : ∀ c ∈ xs.set k v.cells, c.size = sz ∧ ∀ u ∈ c.toList, u.oneCell' = true := by
      intro c hc
      rcases List.mem_or_eq_of_mem_set hc with hc | rfl
      · exact hxs c hc
      · exact ⟨hv, h1⟩
    refine ⟨⟨by rw [flat_length (fun c hc => (hxs' c hc).1)], .inr ⟨g, cap, _, by simp, Nat.zero_le _, setRow_heap w g cur _ e _ hg, by simpa using hnc, hcm, ?_, ?_⟩⟩, hxs'⟩
    · simp [hv]; omega
    · rw [flat_set (fun c hc => (hxs c hc).1) hk hv, List.length_set, ← htake]
      simp only [List.toList_toArray]
      have hclen : cur.toList.length = cap * sz := by simpa using hcs
      rw [List.take_append, List.take_append]
      have e1 : (cur.toList.take (k * sz)).length = k * sz := by rw [List.length_take, hclen]; exact Nat.min_eq_left (by omega)
      have e2 : (cur.toList.take (k * sz) ++ v.cells.toList).length = k * sz + sz := by rw [List.length_append, e1]; simp [hv]
      rw [e1, e2]
      rw [List.take_take, List.take_take, Nat.min_eq_right (by omega), Nat.min_eq_left (by omega : k * sz ≤ xs.length * sz)]
      rw [List.take_of_length_le (l := v.cells.toList) (by simp [hv]; omega)]
      rw [List.drop_take, Nat.add_mul, Nat.one_mul]
end
end Go.Proofs.YtmndhiaaolfepaaDoor
