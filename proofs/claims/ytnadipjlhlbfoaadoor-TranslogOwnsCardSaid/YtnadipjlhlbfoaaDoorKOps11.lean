/- append of a part of a slice of one's own; copy into the head of a slice of one's own. -/
import Derived.Test.YtnadipjlhlbfoaaDoorK12
namespace Go.Proofs.YtnadipjlhlbfoaaDoor
set_option linter.all false
open Go Go.RowKit
theorem run_copy_head {P : Program} {w : World} {t ty e : TypeId} {sz bytes : Nat} {z : Value} (ht : SlB P t e sz bytes z) {A : Option Addr} {cap : Nat} {ds : List (Array Value)} (hrow : (Ent.row A cap e sz ds).sat w) {B : Option Addr} {c : Nat} {xs : List (Array Value)} (hB : Rd w B sz xs) (hl : xs.length ≤ ds.length) :
    ∃ w', (Builtin.copy_ #[t, t] ty #[.slice A ds.length cap, .slice B xs.length c]).run P w = .ok (.int .i64 ((xs.length : Nat) : Int)) w' ∧ (Ent.row A cap e sz (xs ++ ds.drop xs.length)).sat w' ∧ w.grownBy w' (A.map Addr.block) := by
  obtain ⟨i, hi, hz, hsz, hbb⟩ := ht.info
  rcases xs with _ | ⟨x, xs⟩
  · refine ⟨w, ?_, by simpa using hrow, World.grownBy.refl w _⟩
    have h0 : Nat.min 0 ds.length = 0 := Nat.zero_min _
    cases B with
    | none => cases A <;> simp [Builtin.copy_, run_underlying ht.under, Builtin.lenOf, Builtin.firstCells, sizeOf, typeInfo, hi, storeCells, goInt, h0]
    | some b => cases A <;> simp [Builtin.copy_, run_underlying ht.under, Builtin.lenOf, Builtin.firstCells, sizeOf, typeInfo, hi, storeCells, goInt, loadCells, loadCellsFrom, h0]
  · obtain ⟨⟨hd1, hd2⟩, hds⟩ := hrow
    rcases hd2 with ⟨hv, hn0⟩ | ⟨g, cp, cur, hv, hbg, hg, hnc, hcm, hcs, htake⟩
    · rw [hn0] at hl; simp at hl
    injection hv with h1 h2 h3
    subst h1; subst h3
    have hy := fun k c hk => hB.at_ k c hk
    obtain ⟨_, ⟨b, j, rfl⟩, _, _⟩ := hy 0 x (by simp)
    have hxs : ∀ c ∈ (x :: xs), c.size = sz ∧ ∀ u ∈ c.toList, u.oneCell' = true := by
      intro c hc
      obtain ⟨k, hk⟩ := List.mem_iff_getElem?.1 hc
      exact ⟨(hy k c hk).1, (hy k c hk).2.2.2.1⟩
    have hfl := flat_length (fun c hc => (hxs c hc).1)
    have hsrc : ∀ q u, (flat (x :: xs))[q]? = some u → w.cell? ((⟨b, j, none⟩ : Addr).add q) = some u := by
      intro q u hq
      have hqlt : q < (x :: xs).length * sz := by
        have := (List.getElem?_eq_some_iff.1 hq).1
        omega
      have hk : q / sz < (x :: xs).length := Nat.div_lt_of_lt_mul (by rw [Nat.mul_comm]; exact hqlt)
      have hr : q % sz < sz := Nat.mod_lt _ ht.pos
      have hqe : q = q / sz * sz + q % sz := by rw [Nat.mul_comm]; exact (Nat.div_add_mod q sz).symm
      have hget := flat_get (fun c hc => (hxs c hc).1) (List.getElem?_eq_getElem hk) hr
      rw [← hqe] at hget
      obtain ⟨_, _, _, _, hc⟩ := hy (q / sz) _ (List.getElem?_eq_getElem hk)
      have h1 := hc (q % sz) hr
      rw [add_none]
      rw [show ab (some ⟨b, j, none⟩) = b from rfl, show ao (some ⟨b, j, none⟩) = j from rfl, Nat.add_assoc, ← hqe] at h1
      rw [h1, ← hget, hq]
    have hle : (x :: xs).length * sz ≤ cap * sz := Nat.mul_le_mul_right _ (by omega)
    have hf := run_firstCells_some (P := P) w i.size (x :: xs).length ⟨b, j, none⟩ (x :: xs).length c (flat (x :: xs)) (by rw [hsz]; exact hfl) hsrc
    have hst := run_storeCells_at P g 0 e (flat (x :: xs)) 0 cur w hg (by rw [hcs, hfl]; omega) (fun u hu => by obtain ⟨c, hc, hcu⟩ := mem_flat.1 hu; exact (hxs c hc).2 u hcu)
    simp only [Nat.add_zero] at hst
    have hsplit : flat ds = flat (ds.take (x :: xs).length) ++ flat (ds.drop (x :: xs).length) := by rw [← flat_append, List.take_append_drop]
    have htl : (flat (ds.take (x :: xs).length)).length = (x :: xs).length * sz := by
      rw [flat_length (sz := sz) (fun c hc => (hds c (List.mem_of_mem_take hc)).1), List.length_take, Nat.min_eq_left hl]
    have hdl : (flat (ds.drop (x :: xs).length)).length = (ds.length - (x :: xs).length) * sz := by
      rw [flat_length (sz := sz) (fun c hc => (hds c (List.mem_of_mem_drop hc)).1), List.length_drop]
    have hall : ∀ c ∈ ((x :: xs) ++ ds.drop (x :: xs).length), c.size = sz ∧ ∀ u ∈ c.toList, u.oneCell' = true := by
      intro c hc
      rcases List.mem_append.1 hc with hc | hc
      · exact hxs c hc
      · exact hds c (List.mem_of_mem_drop hc)
    have hlen : ((x :: xs) ++ ds.drop (x :: xs).length).length = ds.length := by rw [List.length_append, List.length_drop]; omega
    refine ⟨w.setRow g (cur.toList.take 0 ++ flat (x :: xs) ++ cur.toList.drop (0 + (flat (x :: xs)).length)).toArray, ?_, ⟨⟨flat_length (fun c hc => (hall c hc).1), .inr ⟨g, cap, _, by rw [hlen], hbg, setRow_heap w g cur _ e _ hg, by rw [hlen]; exact hnc, hcm, ?_, ?_⟩⟩, hall⟩, ⟨rfl, rfl, rfl, by simp, fun k _ hk => setRow_other w g k _ (fun e => hk (by simp [e]))⟩⟩
    · have hmin : Nat.min (x :: xs).length ds.length = (x :: xs).length := Nat.min_eq_left hl
      simp at hmin hf hst
      have hmin' : Nat.min (xs.length + 1) ds.length = xs.length + 1 := by simpa using hmin
      simp [Builtin.copy_, run_underlying ht.under, Builtin.lenOf, sizeOf, typeInfo, hi, hmin', hf, hst, goInt]
    · simp only [List.size_toArray, List.length_append, List.length_take, List.length_drop, Array.length_toList, hfl, hcs]
      omega
    · simp only [Nat.zero_add, List.take_zero, List.nil_append]
      rw [hlen, flat_append, List.take_append, hfl]
      have e1 : (flat (x :: xs)).take (ds.length * sz) = flat (x :: xs) := List.take_of_length_le (by rw [hfl]; exact Nat.mul_le_mul_right _ hl)
      rw [e1, ← Nat.sub_mul]
      congr 1
      have e2 : (cur.toList.drop ((x :: xs).length * sz)).take ((ds.length - (x :: xs).length) * sz) = (cur.toList.take (ds.length * sz)).drop ((x :: xs).length * sz) := by
        rw [List.drop_take, Nat.sub_mul]
      rw [e2, htake, hsplit, List.drop_left' htl]
section
variable {P : Program} {w0 : World} {O : List Nat} {n : Nat} {D : List Deferred} {o : Oper} {V : List (Nat × Value)} {L : List Ent} {T : List (Nat × Value) → List Ent → Prop}
theorem op_copyHead {α : Type} (enc : α → Array Value) {x y : Operand} {t e : TypeId} {d i m k cap c sz bytes : Nat} {z : Value} {A B : Option Addr} {ds xs : List α} (ho : o.op = .call { callee := .builtin .copy, args := #[x, y], argTypes := #[t, t] }) (hd : o.dst = some d) (hdn : Nat.blt d n = true) (ht : SlB P t e sz bytes z)
    (hx : ev V x = some (.slice A m cap)) (hL : L[i]? = some (.row A cap e sz (ds.map enc))) (hm : ds.length = m) (hy : ev V y = some (.slice B k c)) (hk : xs.length = k) (hle : k ≤ m) (hr : ∀ w, SL w0 O w L → Rd w B sz (xs.map enc))
    (hT : T ((d, .int .i64 ((k : Nat) : Int)) :: V) (L.set i (.row A cap e sz ((xs ++ ds.drop k).map enc)))) : OpS P w0 O n D o V L T := by
  intro a w ha hw
  subst hm; subst hk
  obtain ⟨w', h1, h2, h3⟩ := run_copy_head (P := P) (w := w) (ty := o.type) (c := c) ht (hw.ents _ (List.mem_of_getElem? hL)) (hr w hw) (by rw [List.length_map, List.length_map]; exact hle)
  rw [List.length_map, List.length_map] at h1
  rw [List.length_map, ← List.map_drop, ← List.map_append] at h2
  have hr' : (execOp a.eval o).run P w = .ok (.value (.int .i64 ((xs.length : Nat) : Int))) w' := by
    simp only [execOp, ho, resolve, invoke, builtin, Sem.run_bind, Sem.run_pure, Result.andThen_ok, List.map_toArray, List.map_cons, List.map_nil, ha.eval hx, ha.eval hy, h1]
  unfold Does
  rw [hr', hd]
  refine ⟨_, _, hT, ha.put hdn _, hw.setI hL h3.os h3.tape h3.output h3.size h2 row_blocks_nodup (fun b hb => .inl hb) (fun k hk hkb => h3.block k hk (fun e => hkb ?_))⟩
  cases A with
  | none => cases e
  | some a =>
    injection e with e
    simp [Ent.blocks, e]
/-- append of elements that can be read. -/
theorem op_appendMR {α : Type} (enc : α → Array Value) {x y : Operand} {t e : TypeId} {d sz bytes i : Nat} {z : Value} {A B : Option Addr} {cap c m : Nat} {xs : List α} (ys : List α)
    (ho : o.op = .call { callee := .builtin .append, args := #[x, y], argTypes := #[t, t] }) (hd : o.dst = some d) (hdn : Nat.blt d n = true) (ht : SlB P t e sz bytes z) (hx : ev V x = some (.slice A xs.length cap)) (hL : L[i]? = some (.row A cap e sz (xs.map enc)))
    (hy : ev V y = some (.slice B m c)) (hm : ys.length = m) (hr : ∀ w, SL w0 O w L → Rd w B sz (ys.map enc)) (h63 : xs.length + ys.length ≤ 9223372036854775807) (hby : (xs.length + ys.length) * bytes ≤ 140737488355328)
    (hT : ∀ A' cap', T ((d, .slice A' (xs ++ ys).length cap') :: V) (L.set i (.row A' cap' e sz ((xs ++ ys).map enc)))) : OpS P w0 O n D o V L T := by
  subst hm
  have e1 : (xs.map enc).length = xs.length := List.length_map _
  have e2 : (xs.map enc ++ ys.map enc) = (xs ++ ys).map enc := List.map_append.symm
  refine op_append_core (xs := xs.map enc) (ys := ys.map enc) ho hd hdn ht (by rw [e1]; exact hx) hL hy (List.length_map _) hr (by rw [e1]; exact h63) (by rw [e1]; exact hby) fun A' cap' => ?_
  rw [e2, List.length_map]
  exact hT A' cap'
end
end Go.Proofs.YtnadipjlhlbfoaaDoor
