/- A store into one cell of an element of a slice of one's own; an entry taken out of a pack, and put back. -/
import Derived.Test.YtnadipjlhlbfoaaDoorKOps11
namespace Go.Proofs.YtnadipjlhlbfoaaDoor
set_option linter.all false
open Go Go.RowKit
theorem flat_setF {sz : Nat} : ∀ {xs : List (Array Value)}, (∀ c ∈ xs, c.size = sz) → ∀ {k j : Nat} {c : Array Value} (v : Value), xs[k]? = some c → j < sz → flat (xs.set k (c.setIfInBounds j v)) = (flat xs).set (k * sz + j) v
  | [], _, k, j, c, v, h, _ => by simp at h
  | d :: xs, hs, 0, j, c, v, h, hj => by
    have hd := hs d List.mem_cons_self
    obtain rfl : d = c := by simpa using h
    have hdl : d.toList.length = sz := by rw [Array.length_toList, hd]
    rw [List.set_cons_zero, flat_cons, flat_cons, Nat.zero_mul, Nat.zero_add, List.set_append_left _ _ (by omega), Array.toList_setIfInBounds]
  | d :: xs, hs, k + 1, j, c, v, h, hj => by
    have hd := hs d List.mem_cons_self
    have hdl : d.toList.length = sz := by rw [Array.length_toList, hd]
    rw [List.set_cons_succ, flat_cons, flat_cons, flat_setF (fun c hc => hs c (List.mem_cons_of_mem _ hc)) v (by simpa using h) hj, List.set_append_right _ _ (by rw [Nat.add_mul]; omega), hdl]
    congr 2
    rw [Nat.add_mul]; omega
section
variable {P : Program} {w0 : World} {O : List Nat} {n : Nat} {D : List Deferred} {o : Oper} {V : List (Nat × Value)} {L : List Ent} {T : List (Nat × Value) → List Ent → Prop}
theorem op_storeElemF {t e : TypeId} {x y : Operand} {A : Option Addr} {cap sz k j i : Nat} {v : Value} {c : Array Value} {xs ys : List (Array Value)} (ho : o.op = .store t x y) (hd : o.dst = none) (hx : ev V x = some (.pointer (some ⟨ab A, ao A + k * sz + j, none⟩))) (hy : ev V y = some v) (hs : SzT P t 1)
    (hv : v.cells = #[v]) (h1 : v.oneCell' = true) (hL : L[i]? = some (.row A cap e sz xs)) (hk : xs[k]? = some c) (hj : j < sz) (hset : xs.set k (c.setIfInBounds j v) = ys)
    (hT : T V (L.set i (.row A cap e sz ys))) : OpS P w0 O n D o V L T := by
  intro a w ha hw
  subst hset
  have hkl := (List.getElem?_eq_some_iff.1 hk).1
  have hsat := hw.ents _ (List.mem_of_getElem? hL)
  obtain ⟨⟨hl, h2⟩, hxs⟩ := hsat
  have hcm' := hxs c (List.mem_of_getElem? hk)
  rcases h2 with ⟨hvv, hn⟩ | ⟨g, cp, cur, hvv, _, hg, hnc, hcm, hcs, htake⟩
  · omega
  · injection hvv with hA hn hc
    subst hA; subst hc
    have hle : (k + 1) * sz ≤ xs.length * sz := Nat.mul_le_mul_right _ hkl
    have hle2 : xs.length * sz ≤ cap * sz := Nat.mul_le_mul_right _ hnc
    rw [Nat.add_mul, Nat.one_mul] at hle
    have hx' : a.eval x = .pointer (some ⟨g, k * sz + j, none⟩) := by
      rw [ha.eval hx]
      show Value.pointer (some ⟨g, 0 + k * sz + j, none⟩) = _
      rw [Nat.zero_add]
    have hr := run_store_row (P := P) (w := w) (g := g) (j := k * sz + j) (v := v) hs (by rw [hv]; rfl) (by rw [hv]; intro u hu; simp at hu; rw [hu]; exact h1) hg (by omega)
    rw [hv] at hr
    have hr' : (execOp a.eval o).run P w = .ok .skip (w.setRow g (cur.toList.take (k * sz + j) ++ [v] ++ cur.toList.drop (k * sz + j + 1)).toArray) := by
      simp only [execOp, ho, hx', ha.eval hy, Instr.storeAt, Instr.sureAddr]
      simp only [Sem.run_bind, Sem.run_pure, Result.andThen_ok, hr]
    unfold Does
    rw [hr', hd]
    refine ⟨_, _, hT, ha, hw.setI hL rfl rfl rfl (by simp) ?_ row_blocks_nodup (fun b hb => .inl hb) (fun j _ hj => setRow_other w g j _ (by simpa [Ent.blocks] using hj))⟩
    have hxs' : ∀ d ∈ xs.set k (c.setIfInBounds j v), d.size = sz ∧ ∀ u ∈ d.toList, u.oneCell' = true := by
      intro d hd
      rcases List.mem_or_eq_of_mem_set hd with hd | rfl
      · exact hxs d hd
      · refine ⟨by rw [Array.size_setIfInBounds]; exact hcm'.1, fun u hu => ?_⟩
        rw [Array.toList_setIfInBounds] at hu
        rcases List.mem_or_eq_of_mem_set hu with hu | rfl
        · exact hcm'.2 u hu
        · exact h1
    have hclen : cur.toList.length = cap * sz := by rw [Array.length_toList]; exact hcs
    have hcur : cur.toList.take (k * sz + j) ++ [v] ++ cur.toList.drop (k * sz + j + 1) = cur.toList.set (k * sz + j) v := by
      rw [List.set_eq_take_append_cons_drop, if_pos (by omega), List.append_assoc]; rfl
    refine ⟨⟨by rw [flat_length (fun d hd => (hxs' d hd).1)], .inr ⟨g, cap, _, by simp, Nat.zero_le _, setRow_heap w g cur _ e _ hg, by simpa using hnc, hcm, ?_, ?_⟩⟩, hxs'⟩
    · rw [hcur, List.size_toArray, List.length_set, hclen]
    · rw [hcur, flat_setF (fun c hc => (hxs c hc).1) v hk hj, List.length_set, ← htake, List.toList_toArray, List.take_set]
end
section
variable {P : Program} {w0 : World} {O : List Nat} {n : Nat} {D : List Deferred} {V : List (Nat × Value)} {L : List Ent} {Q : Exit → Act → World → Prop} {c : Code} {r : Option Nat}
/-- An entry comes out of a pack. -/
theorem CX.packOut {L' : List Ent} {e : Ent} {es es' : List Ent} (hL : L.Perm (pack es :: L')) (he : es.Perm (e :: es')) (h : CX P r Q w0 O n D c V (e :: pack es' :: L')) : CX P r Q w0 O n D c V L := fun a w ha hw => by
  have h1 : SL w0 O w (pack es :: L') := hw.perm hL
  have h2 : SL w0 O w ((e :: es') ++ L') := h1.unpack.perm (he.append_right _)
  have h3 : SL w0 O w (es' ++ (e :: L')) := h2.perm (by
    rw [List.cons_append]
    exact List.perm_middle.symm)
  exact h a w ha (h3.pack.perm (List.Perm.swap _ _ _))
/-- .. and goes back into it, changed. -/
theorem CX.packIn {L' : List Ent} {e : Ent} {es es' : List Ent} (hL : L.Perm (e :: pack es' :: L')) (he : es.Perm (e :: es')) (h : CX P r Q w0 O n D c V (pack es :: L')) : CX P r Q w0 O n D c V L := fun a w ha hw => by
  have h1 : SL w0 O w (pack es' :: e :: L') := (hw.perm hL).perm (List.Perm.swap _ _ _)
  have h3 : SL w0 O w (es ++ L') := h1.unpack.perm (by
    refine List.perm_middle.trans ?_
    rw [← List.cons_append]
    exact (he.symm).append_right _)
  exact h a w ha h3.pack
end
theorem set_perm {α : Type} : ∀ {l : List α} {i : Nat} {x : α} (y : α), l[i]? = some x → (l.set i y).Perm (y :: l.eraseIdx i)
  | [], i, x, y, h => by simp at h
  | a :: l, 0, x, y, h => by simp
  | a :: l, i + 1, x, y, h => by
    have h' : l[i]? = some x := by simpa using h
    simp only [List.set_cons_succ, List.eraseIdx_cons_succ]
    exact ((set_perm y h').cons a).trans (List.Perm.swap _ _ _)
end Go.Proofs.YtnadipjlhlbfoaaDoor
