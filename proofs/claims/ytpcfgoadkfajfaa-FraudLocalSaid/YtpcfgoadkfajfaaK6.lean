/- make of a slice; a copy of all of a slice into it. A builder's buffer: a row of bytes to which strings are appended; its bytes as a string; pointers told apart; functions of the table. A slice of a slice between two places; rows picked out of rows. Two Bools compared. append of a part of a slice of one's own; copy into the head of a slice of one's own. A store into one cell of an element of a slice of one's own; an entry taken out of a pack, and put back. Loops whose rounds leave marks for the end of the call; ranges over functions that are left by a jump. Accounts grouped by what they represent. No program's function in it. Walks, printed by a program. What uniq keeps. No program's function in it. Walks, printed by a program. Each account with the first of its group. No program's function in it. -/
import Derived.Test.YtpcfgoadkfajfaaK5
import Derived.Laws.OwnMore
import Derived.Laws.CopyRow
import Derived.Test.YtpcfgoadkfajfaaK3
import Derived.Lib.Builder
import Derived.Lib.MakeNoZero
import Derived.Lib.UnsafeStr
import Derived.Laws.Externs
import Derived.LaidEqlPtr
import Derived.Test.YtpcfgoadkfajfaaK2
import Derived.Lib.RowBridge
namespace Go.Proofs.Ytpcfgoadkfajfaa
set_option linter.all false
open Go Go.RowKit
theorem made_flat {z : Array Value} {sz : Nat} (hz : z.size = sz) (h0 : 0 < sz) : ∀ n : Nat, (madeCells z (n * sz)).toList = flat (List.replicate n z) := by
  intro n
  apply List.ext_getElem?
  intro q
  have hlen : (flat (List.replicate n z)).length = n * sz := by
    rw [flat_length (sz := sz) (fun c hc => by rw [(List.mem_replicate.1 hc).2]; exact hz), List.length_replicate]
  by_cases hq : q < n * sz
  · have hk : q / sz < n := Nat.div_lt_of_lt_mul (by rw [Nat.mul_comm]; exact hq)
    have hr : q % sz < sz := Nat.mod_lt _ h0
    have hqe : q = q / sz * sz + q % sz := by rw [Nat.mul_comm]; exact (Nat.div_add_mod q sz).symm
    have h1 := flat_get (xs := List.replicate n z) (sz := sz) (k := q / sz) (j := q % sz) (c := z) (fun c hc => by rw [(List.mem_replicate.1 hc).2]; exact hz) (by rw [List.getElem?_replicate, if_pos hk]) hr
    rw [← hqe] at h1
    rw [h1]
    have h2 : q < (madeCells z (n * sz)).size := by rw [size_madeCells]; exact hq
    rw [Array.getElem?_toList, Array.getElem?_eq_getElem h2]
    simp [madeCells, hz]
    rw [Array.getElem?_eq_getElem (by omega), getElem!_pos z _ (by omega)]
  · rw [List.getElem?_eq_none (l := (madeCells z (n * sz)).toList) (by rw [Array.length_toList, size_madeCells]; omega), List.getElem?_eq_none (by rw [hlen]; omega)]
section
variable {P : Program} {w0 : World} {O : List Nat} {n : Nat} {D : List Deferred} {o : Oper} {V : List (Nat × Value)} {L : List Ent} {T : List (Nat × Value) → List Ent → Prop}
theorem op_makeSlice {t e : TypeId} {x y : Operand} {d sz bytes m : Nat} {z : Value} {q1 q2 : Int} (ho : o.op = .makeSlice t x y) (hd : o.dst = some d) (hdn : Nat.blt d n = true) (ht : SlB P t e sz bytes z) (hx : ev V x = some (.int .i64 q1)) (hy : ev V y = some (.int .i64 q2)) (h1 : q1 = (m : Int)) (h2 : q2 = (m : Int)) (hp : ∀ u ∈ z.cells.toList, u.oneCell' = true)
    (hb : bytes * m ≤ 281474976710656) (hm : m ≤ 281474976710656)
    (hT : ∀ g, T ((d, .slice (some ⟨g, 0, none⟩) m m) :: V) (.row (some ⟨g, 0, none⟩) m e sz (List.replicate m z.cells) :: L)) : OpS P w0 O n D o V L T := by
  intro a w ha hw
  subst h1; subst h2
  obtain ⟨i, hi, hz, hsz, hbb⟩ := ht.info
  have hr0 := run_make (P := P) w t e i z ht.under hi hz .i64 .i64 (m : Int) (m : Int) (by omega) (by omega) (by rw [hbb, ← Int.natCast_mul]; omega) (by omega)
  rw [hsz] at hr0
  simp only [Int.toNat_natCast] at hr0
  have hr : (execOp a.eval o).run P w = .ok (.value (.slice (some ⟨w.heap.size, 0, none⟩) m m)) (w.alloc (.cells (madeCells z.cells (m * sz)) e)) := by
    simp only [execOp, ho, ha.eval hx, ha.eval hy, Sem.run_bind, hr0, Result.andThen_ok, Sem.run_pure]
  unfold Does
  rw [hr, hd]
  refine ⟨_, _, hT w.heap.size, ha.put hdn _, ?_⟩
  have hall := hw.alloc (.cells (madeCells z.cells (m * sz)) e)
  have hfl := made_flat ht.zs ht.pos m
  have := hall.set (A := []) (R := L) (w' := w.alloc (.cells (madeCells z.cells (m * sz)) e)) (p := .blk w.heap.size (.cells (madeCells z.cells (m * sz)) e)) (p' := .row (some ⟨w.heap.size, 0, none⟩) m e sz (List.replicate m z.cells)) rfl rfl rfl rfl (Nat.le_refl _)
    ⟨⟨by rw [flat_length (sz := sz) (fun c hc => by rw [(List.mem_replicate.1 hc).2]; exact ht.zs)], .inr ⟨w.heap.size, m, _, by simp, Nat.zero_le _, heap_alloc_new w _, by simp, by unfold maxLen; omega, by rw [size_madeCells], by rw [List.length_replicate, hfl]; exact List.take_of_length_le (by rw [flat_length (sz := sz) (fun c hc => by rw [(List.mem_replicate.1 hc).2]; exact ht.zs), List.length_replicate]; exact Nat.le_refl _)⟩⟩, fun c hc => by rw [(List.mem_replicate.1 hc).2]; exact ⟨ht.zs, hp⟩⟩
    (by simp [Ent.blocks]) (fun b hb => .inl (by simpa [Ent.blocks] using hb)) (fun _ _ _ => rfl)
  simpa using this
theorem run_copy_rd {w : World} {t ty e : TypeId} {sz bytes : Nat} {z : Value} (ht : SlB P t e sz bytes z) {g cap : Nat} {ds : List (Array Value)} (hrow : (Ent.row (some ⟨g, 0, none⟩) cap e sz ds).sat w) {B : Option Addr} {c : Nat} {xs : List (Array Value)} (hB : Rd w B sz xs) (hl : xs.length = ds.length) :
    ∃ w', (Builtin.copy_ #[t, t] ty #[.slice (some ⟨g, 0, none⟩) ds.length cap, .slice B xs.length c]).run P w = .ok (.int .i64 ((xs.length : Nat) : Int)) w' ∧ (Ent.row (some ⟨g, 0, none⟩) cap e sz xs).sat w' ∧ w.grownBy w' (some g) := by
  obtain ⟨i, hi, hz, hsz, hbb⟩ := ht.info
  obtain ⟨⟨hd1, hd2⟩, hds⟩ := hrow
  rcases hd2 with ⟨hv, _⟩ | ⟨g', cp, cur, hv, hbg, hg, hnc, hcm, hcs, htake⟩
  · cases hv
  injection hv with h1 h2 h3
  injection h1 with h1
  injection h1 with h1
  subst h1; subst h3
  rcases xs with _ | ⟨x, xs⟩
  · obtain rfl := List.eq_nil_of_length_eq_zero hl.symm
    refine ⟨w, ?_, ⟨⟨hd1, .inr ⟨g, cap, cur, rfl, hbg, hg, hnc, hcm, hcs, htake⟩⟩, hds⟩, World.grownBy.refl w _⟩
    cases B with
    | none => simp [Builtin.copy_, run_underlying ht.under, Builtin.lenOf, Builtin.firstCells, sizeOf, typeInfo, hi, storeCells, goInt]
    | some b => simp [Builtin.copy_, run_underlying ht.under, Builtin.lenOf, Builtin.firstCells, sizeOf, typeInfo, hi, storeCells, goInt, loadCells, loadCellsFrom]
  · have hy := fun k c hk => hB.at_ k c hk
    obtain ⟨_, ⟨b, j, rfl⟩, _, _⟩ := hy 0 x (by simp)
    have hxs : ∀ c ∈ (x :: xs), c.size = sz ∧ ∀ u ∈ c.toList, u.oneCell' = true := by
      intro c hc
      obtain ⟨k, hk⟩ := List.mem_iff_getElem?.1 hc
      exact ⟨(hy k c hk).1, (hy k c hk).2.2.2.1⟩
    have hfl := flat_length (fun c hc => (hxs c hc).1)
    have hsrc : ∀ q u, (flat (x :: xs))[q]? = some u → w.cell? ((⟨b, j, none⟩ : Addr).add q) = some u := by
      intro q u hq
      have hqlt : q < (x :: xs).length * sz := by
        have := (List.getElem?_eq_some_iff.1 hq).1
        omega
      have hk : q / sz < (x :: xs).length := Nat.div_lt_of_lt_mul (by rw [Nat.mul_comm]; exact hqlt)
      have hr : q % sz < sz := Nat.mod_lt _ ht.pos
      have hqe : q = q / sz * sz + q % sz := by rw [Nat.mul_comm]; exact (Nat.div_add_mod q sz).symm
      have hget := flat_get (fun c hc => (hxs c hc).1) (List.getElem?_eq_getElem hk) hr
      rw [← hqe] at hget
      obtain ⟨_, _, _, _, hc⟩ := hy (q / sz) _ (List.getElem?_eq_getElem hk)
      have h1 := hc (q % sz) hr
      rw [add_none]
      rw [show ab (some ⟨b, j, none⟩) = b from rfl, show ao (some ⟨b, j, none⟩) = j from rfl, Nat.add_assoc, ← hqe] at h1
      rw [h1, ← hget, hq]
    have hle : (x :: xs).length * sz ≤ cap * sz := Nat.mul_le_mul_right _ (by rw [hl]; exact hnc)
    have hf := run_firstCells_some (P := P) w i.size (x :: xs).length ⟨b, j, none⟩ (x :: xs).length c (flat (x :: xs)) (by rw [hsz]; exact hfl) hsrc
    have hst := run_storeCells_at P g 0 e (flat (x :: xs)) 0 cur w hg (by rw [hcs, hfl]; omega) (fun u hu => by obtain ⟨c, hc, hcu⟩ := mem_flat.1 hu; exact (hxs c hc).2 u hcu)
    simp only [Nat.add_zero] at hst
    refine ⟨w.setRow g (cur.toList.take 0 ++ flat (x :: xs) ++ cur.toList.drop (0 + (flat (x :: xs)).length)).toArray, ?_, ⟨⟨hfl, .inr ⟨g, cap, _, rfl, hbg, setRow_heap w g cur _ e _ hg, by rw [hl]; exact hnc, hcm, ?_, ?_⟩⟩, hxs⟩, ⟨rfl, rfl, rfl, by simp, fun k _ hk => setRow_other w g k _ (fun e => hk (by simp [e]))⟩⟩
    · have hmin : Nat.min (x :: xs).length ds.length = (x :: xs).length := by rw [hl]; exact Nat.min_self _
      simp at hmin hf hst
      have hmin' : Nat.min (xs.length + 1) ds.length = xs.length + 1 := hmin
      simp [Builtin.copy_, run_underlying ht.under, Builtin.lenOf, sizeOf, typeInfo, hi, hmin', hf, hst, goInt]
    · simp only [List.size_toArray, List.length_append, List.length_take, List.length_drop, Array.length_toList, hfl, hcs]
      omega
    · simp only [Nat.zero_add, List.take_zero, List.nil_append]
      rw [← hfl]
      exact List.take_left
/-- copy of all of a slice into one of one's own of the same length. -/
theorem op_copyRd {α : Type} (enc : α → Array Value) {x y : Operand} {t e : TypeId} {d g i m cap c sz bytes : Nat} {z : Value} {ds : List (Array Value)} {B : Option Addr} {xs : List α} (ho : o.op = .call { callee := .builtin .copy, args := #[x, y], argTypes := #[t, t] }) (hd : o.dst = some d) (hdn : Nat.blt d n = true) (ht : SlB P t e sz bytes z)
    (hx : ev V x = some (.slice (some ⟨g, 0, none⟩) m cap)) (hL : L[i]? = some (.row (some ⟨g, 0, none⟩) cap e sz ds)) (hm : ds.length = m) (hy : ev V y = some (.slice B m c)) (hr : ∀ w, SL w0 O w L → Rd w B sz (xs.map enc)) (hl : xs.length = m)
    (hT : T ((d, .int .i64 ((m : Nat) : Int)) :: V) (L.set i (.row (some ⟨g, 0, none⟩) cap e sz (xs.map enc)))) : OpS P w0 O n D o V L T := by
  intro a w ha hw
  subst hm
  have hl' : (xs.map enc).length = ds.length := by rw [List.length_map, hl]
  obtain ⟨w', h1, h2, h3⟩ := run_copy_rd (P := P) (w := w) (ty := o.type) (c := c) ht (hw.ents _ (List.mem_of_getElem? hL)) (hr w hw) hl'
  rw [hl'] at h1
  have hr' : (execOp a.eval o).run P w = .ok (.value (.int .i64 ((ds.length : Nat) : Int))) w' := by
    simp only [execOp, ho, resolve, invoke, builtin, Sem.run_bind, Sem.run_pure, Result.andThen_ok, List.map_toArray, List.map_cons, List.map_nil, ha.eval hx, ha.eval hy, h1]
  unfold Does
  rw [hr', hd]
  refine ⟨_, _, hT, ha.put hdn _, hw.setI hL h3.os h3.tape h3.output h3.size h2 row_blocks_nodup (fun b hb => .inl hb) (fun k hk hkb => h3.block k hk (fun e => hkb ?_))⟩
  injection e with e
  simp [Ent.blocks, e]
end
end Go.Proofs.Ytpcfgoadkfajfaa
namespace Go.Proofs.Ytpcfgoadkfajfaa
set_option linter.all false
open Go Go.RowKit
theorem flat_u8 (xs : List UInt8) : flat (xs.map u8c) = xs.map u8v := by
  induction xs with
  | nil => rfl
  | cons x xs ih => simp [flat] at ih ⊢; exact ih
theorem strCells_u8 (s : ByteArray) : Lib.strCells s = s.data.toList.map u8v := rfl
theorem size_list (s : ByteArray) : s.data.toList.length = s.size := by rw [Array.length_toList]; rfl
section
variable {P : Program} {w0 : World} {O : List Nat} {n : Nat} {D : List Deferred} {o : Oper} {V : List (Nat × Value)} {L : List Ent} {T : List (Nat × Value) → List Ent → Prop}

theorem row_u8 {w : World} {A : Option Addr} {cap : Nat} {e : TypeId} {xs : List UInt8} : (Ent.row A cap e 1 (xs.map u8c)).sat w ↔ w.ownsRow 0 e 1 (.slice A xs.length cap) xs.length (xs.map u8v) := by
  constructor
  · rintro ⟨h, _⟩
    rw [flat_u8] at h
    simpa using h
  · intro h
    refine ⟨by rw [flat_u8]; simpa using h, ?_⟩
    intro c hc
    obtain ⟨b, _, rfl⟩ := List.mem_map.1 hc
    exact ⟨rfl, by intro u hu; simp at hu; subst hu; rfl⟩

theorem run_append_str {w : World} {t u ty e : TypeId} (ht : SlB P t e 1 1 (.int .u8 0)) (hu : P.underlying u = some .string) {A : Option Addr} {cap : Nat} {xs : List UInt8} (hrow : (Ent.row A cap e 1 (xs.map u8c)).sat w) (s : ByteArray) (hby : xs.length + s.size ≤ 140737488355328) :
    ∃ A' cap' w', (Builtin.append_ #[t, u] ty #[.slice A xs.length cap, .string s]).run P w = .ok (.slice A' (xs ++ s.data.toList).length cap') w' ∧ (Ent.row A' cap' e 1 ((xs ++ s.data.toList).map u8c)).sat w' ∧ w.grownBy w' (Value.slice A xs.length cap).ownBlock ∧
      (A'.map Addr.block = A.map Addr.block ∨ A'.map Addr.block = some w.heap.size) ∧ (A = none → s.size = 0 → A' = none) := by
  obtain ⟨i, hi, hz, hsz, hbb⟩ := ht.info
  have hown := row_u8.1 hrow
  have hsl := size_list s
  obtain ⟨v', w', h1, h2, h3, h4⟩ := Lib.run_append_own_string (P := P) w 0 t u ty e i ht.under hu hi hz hsz hbb _ _ _ hown s (by unfold maxLen; omega) hby (Nat.zero_le _)
  rw [strCells_u8, ← List.map_append] at h2
  have hn : xs.length + s.size = (xs ++ s.data.toList).length := by simp [hsl]
  rw [hn] at h2
  obtain ⟨A', cap', rfl⟩ : ∃ A' cap', v' = .slice A' (xs ++ s.data.toList).length cap' := by
    rcases h2.2 with ⟨hv, hn⟩ | ⟨g, cp, cur, hv, _⟩
    · exact ⟨none, 0, by rw [hv, hn]⟩
    · exact ⟨_, _, hv⟩
  have hnn : A = none → s.size = 0 → A' = none := by
    intro hA hs
    rcases hown.2 with ⟨hv, h0⟩ | ⟨g, cap, cur, hv, _⟩
    · have := h4.2 ⟨hv, hs⟩
      injection this
    · rw [hA] at hv; cases hv
  refine ⟨A', cap', w', h1, row_u8.2 h2, h3, ?_, hnn⟩
  rcases hown.2 with ⟨hv, h0⟩ | ⟨g, cap, cur, hv, hbg, hg, hnc, hcm, hcs, htake⟩
  · injection hv with hA hl hc
    subst hA; subst hc
    by_cases hs : s.size = 0
    · have : A' = none := by
        have := (h4.2 ⟨by rw [h0], hs⟩)
        injection this
      left; rw [this]
    · have hr := run_append_nil_string (P := P) w t u ty e i (.int .u8 0) ht.under hu hi hz s (by omega) (by omega) (by rw [hbb]; omega)
      rw [h0] at h1
      rw [h1] at hr
      injection hr with hr1 hr2
      injection hr1 with hr3
      right; rw [hr3]; rfl
  · injection hv with hA hl hc
    subst hA; subst hc
    by_cases hroom : xs.length + s.size ≤ cap
    · have hcs' : cur.size = cap := by simpa using hcs
      have hr := Lib.run_append_room_string (P := P) w t u ty e i ht.under hu hi hsz g xs.length cap cur hg s hroom (by omega)
      rw [h1] at hr
      injection hr with hr1 hr2
      injection hr1 with hr3
      left; rw [hr3]
    · have holds : ∀ j u, (xs.map u8v)[j]? = some u → w.cell? ((⟨g, 0, none⟩ : Addr).add j) = some u := hown.cells (g := g) rfl
      have hr := Lib.run_append_grow_string (P := P) w t u ty e i (.int .u8 0) ht.under hu hi hz ⟨g, 0, none⟩ xs.length cap (xs.map u8v) (by rw [hsz]; simp) holds s (by omega) (by omega) (by rw [hbb]; exact growslice_fits (by omega) (by omega))
      rw [h1] at hr
      injection hr with hr1 hr2
      injection hr1 with hr3
      right; rw [hr3]; rfl

/-- append(buf, s...), s a string. -/
theorem op_appendStr {x y : Operand} {t u e : TypeId} {d i cap : Nat} {A : Option Addr} {xs : List UInt8} {s : ByteArray}
    (ho : o.op = .call { callee := .builtin .append, args := #[x, y], argTypes := #[t, u] }) (hd : o.dst = some d) (hdn : Nat.blt d n = true) (ht : SlB P t e 1 1 (.int .u8 0)) (hu : P.underlying u = some .string) (hx : ev V x = some (.slice A xs.length cap)) (hL : L[i]? = some (.row A cap e 1 (xs.map u8c)))
    (hy : ev V y = some (.string s)) (hby : xs.length + s.size ≤ 140737488355328)
    (hT : ∀ A' cap', (A = none → s.size = 0 → A' = none) → T ((d, .slice A' (xs ++ s.data.toList).length cap') :: V) (L.set i (.row A' cap' e 1 ((xs ++ s.data.toList).map u8c)))) : OpS P w0 O n D o V L T := by
  intro a w ha hw
  obtain ⟨A', cap', w', hrun, hsat, hgr, hbl, hnn⟩ := run_append_str (P := P) (w := w) (ty := o.type) ht hu (hw.ents _ (List.mem_of_getElem? hL)) s hby
  have hr : (execOp a.eval o).run P w = .ok (.value (.slice A' (xs ++ s.data.toList).length cap')) w' := by
    simp only [execOp, ho, resolve, invoke, builtin, Sem.run_bind, Sem.run_pure, Result.andThen_ok, List.map_toArray, List.map_cons, List.map_nil, ha.eval hx, ha.eval hy, hrun]
  unfold Does
  rw [hr, hd]
  refine ⟨_, _, hT A' cap' hnn, ha.put hdn _, hw.setI hL hgr.os hgr.tape hgr.output hgr.size hsat row_blocks_nodup ?_ ?_⟩
  · intro b hb
    have hb' : A'.map Addr.block = some b := by simpa [Ent.blocks] using hb
    rcases hbl with h | h
    · left; rw [h] at hb'; simpa [Ent.blocks] using hb'
    · right; rw [h] at hb'; simp at hb'; omega
  · intro k hk hkb
    refine hgr.block k hk ?_
    intro hkk
    apply hkb
    cases A with
    | none => simp [Value.ownBlock] at hkk
    | some a => simp [Value.ownBlock] at hkk; simp [Ent.blocks, hkk]

/-- The rest of a slice, of which something is left. -/
theorem yw_sliceFromS {t e : TypeId} {x l : Operand} {A : Option Addr} {b q0 len cap sz k : Nat} {q : Int} (hA : A = some ⟨b, q0, none⟩) (ho : o.op = .slice t x (some l) none none) (ht : SlT P t e sz) (hx : ev V x = some (.slice A len cap)) (hl : ev V l = some (.int .i64 q)) (hq : q = (k : Int)) (hk : k ≤ len) (hc : len ≤ cap) (hkc : k < cap) :
    YldW P n D o V (.slice (some ⟨b, q0 + k * sz, none⟩) (len - k) (cap - k)) := by
  subst hA
  have := yw_sliceFrom (P := P) (n := n) (D := D) (k := k) ho ht hx hl hq (by first | exact hk | exact ⟨hk, hc⟩)
  rw [if_neg (by omega), Option.map_some, add_none] at this
  exact this
theorem Rd.dropM {α : Type} {f : α → Array Value} {w : World} {A : Option Addr} {b q0 sz : Nat} {xs : List α} (h : Rd w A sz (xs.map f)) (hA : A = Option.some ⟨b, q0, none⟩) (k : Nat) : Rd w (Option.some ⟨b, q0 + k * sz, none⟩) sz ((xs.drop k).map f) := by
  subst hA
  refine ⟨fun i c hc => ?_⟩
  rw [List.getElem?_map, List.getElem?_drop, ← List.getElem?_map] at hc
  obtain ⟨h1, _, h3, h4, h5⟩ := h.at_ (k + i) c hc
  refine ⟨h1, ⟨b, q0 + k * sz, rfl⟩, h3, h4, fun j hj => ?_⟩
  have := h5 j hj
  have e : (⟨ab (Option.some ⟨b, q0 + k * sz, none⟩), ao (Option.some ⟨b, q0 + k * sz, none⟩) + i * sz + j, none⟩ : Addr) = ⟨ab (Option.some ⟨b, q0, none⟩), ao (Option.some ⟨b, q0, none⟩) + (k + i) * sz + j, none⟩ := by
    simp [ab, ao, Nat.add_mul]; omega
  rw [e]; exact this
theorem Rd.takeM {α : Type} {f : α → Array Value} {w : World} {A : Option Addr} {sz : Nat} {xs : List α} (h : Rd w A sz (xs.map f)) (k : Nat) : Rd w A sz ((xs.take k).map f) := by
  rw [List.map_take]
  exact ⟨fun j c hc => by
    rw [List.getElem?_take] at hc
    split at hc
    · exact h.at_ j c hc
    · cases hc⟩

/-- The bytes of a row as a string. -/
theorem y_bytesRow {s d e ey : TypeId} {x : Operand} {A : Option Addr} {i cap c : Nat} {l : List UInt8} (ho : o.op = .convert s d x) (hx : ev V x = some (.slice A l.length c)) (hs : P.underlying s = some (.slice e)) (he : P.underlying e = some (.int .u8)) (hd : P.underlying d = some .string)
    (hL : L[i]? = some (.row A cap ey 1 (l.map u8c))) (hl : 0 < l.length) : Yld P w0 O n D o V L (.string ⟨l.toArray⟩) := by
  intro a w ha hw
  have hr := Ent.rd (hw.ents _ (List.mem_of_getElem? hL))
  obtain ⟨b, j, hA⟩ := hr.some (k := 0) (by simpa using hl)
  subst hA
  exact y_bytesRd (P := P) (O := O) (L := L) (w0 := w0) l ho hx hs he hd (fun w hw => Ent.rd (hw.ents _ (List.mem_of_getElem? hL))) rfl a w ha hw
/-- The rest of a map of a row whose place is known. -/
theorem u8c_bv (b : BitVec 8) : u8c (UInt8.ofBitVec b) = #[.int .u8 (wi b)] := rfl

/-! ### Functions of the model's table -/
theorem op_ext1 {x fo : Operand} {t : TypeId} {f d : Nat} {fn : Func} {e : Array Value → Sem Value} {v : Value} (ho : o.op = .call { callee := .value fo, args := #[x], argTypes := #[t] }) (hd : o.dst = some d) (hdn : Nat.blt d n = true) (hfo : ev V fo = some (.func (.func f) #[] #[])) (hx : ev V x = some v)
    (hf : P.funcs[f]? = some fn) (hname : (fn.name == "runtime.NumGoroutine") = false) (hb : fn.body.isNone = true) (hn : Extern.findNext fn = none) (he : Extern.find fn = some e) (hE : e = Extern.AbiNoEscape.same)
    (hT : T ((d, v) :: V) L) : OpS P w0 O n D o V L T := by
  intro a w ha hw
  subst hE
  have hr : (execOp a.eval o).run P w = .ok (.value v) w := by
    have h1 := run_callFunc_extern (P := P) hf hname hb hn he #[v] w
    rw [Lib.run_noEscape] at h1
    simp [execOp, ho, resolve, invoke, ha.eval hfo, ha.eval hx, Deferred.ofValue, h1]
  unfold Does
  rw [hr, hd]
  exact ⟨_, _, hT, ha.put hdn _, hw⟩
/-- New bytes for a buffer. -/
theorem op_makeNoZero {x fo : Operand} {t ts e : TypeId} {f d : Nat} {fn : Func} {ex : Array Value → Sem Value} {q : Int} {m : Nat} {ps : Array TypeId} (ho : o.op = .call { callee := .value fo, args := #[x], argTypes := #[t] }) (hd : o.dst = some d) (hdn : Nat.blt d n = true) (hfo : ev V fo = some (.func (.func f) #[] #[])) (hx : ev V x = some (.int .i64 q)) (hq : q = (m : Int))
    (hf : P.funcs[f]? = some fn) (hname : (fn.name == "runtime.NumGoroutine") = false) (hb : fn.body.isNone = true) (hn : Extern.findNext fn = none) (he : Extern.find fn = some ex) (hE : ex = Extern.BytealgMakeNoZero.makeNoZero ps #[ts]) (ht : P.underlying ts = some (.slice e)) (hm : m ≤ 281474976710656) (h0 : 0 < m)
    (hT : ∀ g cap, T ((d, .slice (some ⟨g, 0, none⟩) m cap) :: V) (.row (some ⟨g, 0, none⟩) cap e 1 (([] : List UInt8).map u8c) :: L)) : OpS P w0 O n D o V L T := by
  intro a w ha hw
  subst hE
  subst hq
  obtain ⟨cs, hrun, hle, hmax⟩ := Lib.run_makeNoZero (P := P) w ps ts e ht m hm
  have hr : (execOp a.eval o).run P w = .ok (.value (.slice (some ⟨w.heap.size, 0, none⟩) m cs.size)) (w.drew.drew.alloc (.cells cs e)) := by
    have h1 := run_callFunc_extern (P := P) hf hname hb hn he #[.int .i64 m] w
    rw [hrun] at h1
    simp [execOp, ho, resolve, invoke, ha.eval hfo, ha.eval hx, Deferred.ofValue, h1]
  unfold Does
  rw [hr, hd]
  refine ⟨_, _, hT w.heap.size cs.size, ha.put hdn _, ?_⟩
  have hw2 : SL w0 O w.drew.drew L := ⟨hw.os, hw.tape, hw.output, hw.size, hw.same, fun p hp => Ent.keep (hw.ents p hp) (fun _ _ => rfl), hw.nodup, hw.own⟩
  have hall := hw2.alloc (.cells cs e)
  have := hall.set (A := []) (R := L) (w' := w.drew.drew.alloc (.cells cs e)) (p := .blk w.heap.size (.cells cs e)) (p' := .row (some ⟨w.heap.size, 0, none⟩) cs.size e 1 (([] : List UInt8).map u8c)) rfl rfl rfl rfl (Nat.le_refl _)
    (row_u8.2 ⟨by simp, .inr ⟨w.heap.size, cs.size, cs, rfl, Nat.zero_le _, heap_alloc_new w.drew.drew _, by simp, hmax (by unfold maxLen; omega), by simp, by simp⟩⟩) (by simp [Ent.blocks]) (fun b hb => .inl (by simpa [Ent.blocks] using hb)) (fun _ _ _ => rfl)
  simpa using this
theorem yw_copyNone {x y : Operand} {t u e : TypeId} {A B : Option Addr} {m c m2 c2 : Nat} (ho : o.op = .call { callee := .builtin .copy, args := #[x, y], argTypes := #[t, u] }) (ht : SlT P t e 1) (hx : ev V x = some (.slice A m c)) (hy : ev V y = some (.slice B m2 c2)) (h0 : Nat.min m2 m = 0) : YldW P n D o V (.int .i64 0) := by
  intro a w ha
  obtain ⟨f, g1, g2, g3⟩ := ht
  have := run_copy_none (P := P) w t u o.type e A B m c m2 c2 g1 (by rw [g2]; simp [g3]) h0
  simp only [execOp, ho, resolve, invoke, builtin, Sem.run_bind, Sem.run_pure, Result.andThen_ok, List.map_toArray, List.map_cons, List.map_nil, ha.eval hx, ha.eval hy, this]
  rfl

theorem yw_capS {x : Operand} {t e : TypeId} {A : Option Addr} {m c : Nat} (ho : o.op = .call { callee := .builtin .cap, args := #[x], argTypes := #[t] }) (ht : P.underlying t = some (.slice e)) (hx : ev V x = some (.slice A m c)) : YldW P n D o V (.int .i64 c) := by
  intro a w ha
  simp [execOp, ho, resolve, invoke, builtin, ha.eval hx, Builtin.cap_, run_underlying ht, goInt]

/-! ### Pointers -/
/-- A pointer's type, whose element has a size. -/
def PtrT (P : Program) (t e : TypeId) : Prop := ∃ i, P.underlying t = some (.pointer e) ∧ P.info? e = some i ∧ i.size ≠ 0
theorem yw_ptrNil {t e u : TypeId} {x y : Operand} (ho : o.op = .binOp .eql t x y u) (ht : PtrT P t e) (hx : ev V x = some (.pointer none)) (hy : ev V y = some (.pointer none)) : YldW P n D o V (.bool true) := by
  intro a w ha
  obtain ⟨i, h1, h2, h3⟩ := ht
  have h : ∀ d : Nat, (Op.equalIn (d + 1) t (.pointer none) (.pointer none)).run P w = .ok true w := fun d => by
    simp [Op.equalIn, run_underlying h1, sizeOf, typeInfo, h2]
  simp [execOp, ho, ha.eval hx, ha.eval hy, eqGuard, binOp, Op.equal, Op.maxDepth, h 9999]
theorem yw_ptrSome {t e u : TypeId} {x y : Operand} {p : Addr} (ho : o.op = .binOp .eql t x y u) (ht : PtrT P t e) (hx : ev V x = some (.pointer (some p))) (hy : ev V y = some (.pointer none)) : YldW P n D o V (.bool false) := by
  intro a w ha
  obtain ⟨i, h1, h2, h3⟩ := ht
  have h : ∀ d : Nat, (Op.equalIn (d + 1) t (.pointer (some p)) (.pointer none)).run P w = .ok false w := fun d => by
    simp [Op.equalIn, run_underlying h1, sizeOf, typeInfo, h2]
  simp [execOp, ho, ha.eval hx, ha.eval hy, eqGuard, binOp, Op.equal, Op.maxDepth, h 9999]
theorem yw_ptrNe {t e u : TypeId} {x y : Operand} {p : Addr} (ho : o.op = .binOp .neq t x y u) (ht : PtrT P t e) (hx : ev V x = some (.pointer (some p))) (hy : ev V y = some (.pointer (some p))) : YldW P n D o V (.bool false) := by
  intro a w ha
  obtain ⟨i, h1, h2, h3⟩ := ht
  have := Lib.run_neq_ptr_same (P := P) w p h1 h2
  simp only [execOp, ho, ha.eval hx, ha.eval hy, Sem.run_bind]
  rw [show (eqGuard .neq t x y (.pointer (some p)) (.pointer (some p))) = pure () from by simp [eqGuard]]
  simp [this]
theorem y_toUnsafe {s d t e : TypeId} {x : Operand} {g i : Nat} {cs : Array Value} (ho : o.op = .convert s d x) (hs : PtrT P s t) (hd : P.underlying d = some .unsafePointer) (hx : ev V x = some (.pointer (some ⟨g, 0, none⟩))) (hL : L[i]? = some (.blk g (.cells cs e (0, 0)))) (h0 : 0 < cs.size) : Yld P w0 O n D o V L (.pointer (some ⟨g, 0, none⟩)) := by
  intro a w ha hw
  obtain ⟨j, h1, h2, h3⟩ := hs
  have hg : w.heap[g]? = some (.cells cs e (0, 0)) := hw.ents _ (List.mem_of_getElem? hL)
  have := Lib.run_to_unsafe (P := P) w ⟨g, 0, none⟩ h1 hd h2 h3 (e := e) (cells := cs.size) (by simp [World.shape?, hg]) h0
  simp only [execOp, ho, ha.eval hx, Sem.run_bind, this, Result.andThen_ok, Sem.run_pure]
theorem y_fromUnsafe {s d t e : TypeId} {x : Operand} {g i : Nat} {cs : Array Value} (ho : o.op = .convert s d x) (hs : P.underlying s = some .unsafePointer) (hd : PtrT P d t) (hx : ev V x = some (.pointer (some ⟨g, 0, none⟩))) (hL : L[i]? = some (.blk g (.cells cs e (0, 0)))) (hlies : liesAt P P.depth e (cs.size / P.cellsOf e) 0 t 1 = true) : Yld P w0 O n D o V L (.pointer (some ⟨g, 0, none⟩)) := by
  intro a w ha hw
  obtain ⟨j, h1, h2, h3⟩ := hd
  have hg : w.heap[g]? = some (.cells cs e (0, 0)) := hw.ents _ (List.mem_of_getElem? hL)
  have := Lib.run_from_unsafe (P := P) w ⟨g, 0, none⟩ hs h1 h2 (e := e) (cells := cs.size) (by simp [World.shape?, hg]) hlies
  simp only [execOp, ho, ha.eval hx, Sem.run_bind, this, Result.andThen_ok, Sem.run_pure]

/-! ### The bytes of a buffer as a string -/
theorem yw_sliceData0 {x : Operand} {ts : Array TypeId} {m c : Nat} (ho : o.op = .call { callee := .builtin .unsafeSliceData, args := #[x], argTypes := ts }) (hx : ev V x = some (.slice none m c)) : YldW P n D o V (.pointer none) := by
  intro a w ha
  have := Lib.run_unsafeSliceData_nil (P := P) w ts o.type m c
  simp only [execOp, ho, resolve, invoke, builtin, Sem.run_bind, Sem.run_pure, Result.andThen_ok, List.map_toArray, List.map_cons, List.map_nil, ha.eval hx, this]
theorem yw_sliceData {x : Operand} {ts : Array TypeId} {p : Addr} {m c : Nat} (ho : o.op = .call { callee := .builtin .unsafeSliceData, args := #[x], argTypes := ts }) (hx : ev V x = some (.slice (some p) m c)) (hc : c ≠ 0) : YldW P n D o V (.pointer (some p)) := by
  intro a w ha
  have := Lib.run_unsafeSliceData_row (P := P) w ts o.type p m c hc
  simp only [execOp, ho, resolve, invoke, builtin, Sem.run_bind, Sem.run_pure, Result.andThen_ok, List.map_toArray, List.map_cons, List.map_nil, ha.eval hx, this]
theorem yw_unsafeString0 {x y : Operand} {t u : TypeId} {p : Option Addr} (ho : o.op = .call { callee := .builtin .unsafeString, args := #[x, y], argTypes := #[t, u] }) (hx : ev V x = some (.pointer p)) (hy : ev V y = some (.int .i64 0)) : YldW P n D o V (.string .empty) := by
  intro a w ha
  have := Lib.run_unsafeString_none (P := P) w t u o.type p
  simp only [execOp, ho, resolve, invoke, builtin, Sem.run_bind, Sem.run_pure, Result.andThen_ok, List.map_toArray, List.map_cons, List.map_nil, ha.eval hx, ha.eval hy, this]
/-- The row is given up: its bytes are frozen. -/
theorem op_unsafeString {x y : Operand} {t u e : TypeId} {d g cap : Nat} {xs : List UInt8} {q : Int} (L' : List Ent) (ho : o.op = .call { callee := .builtin .unsafeString, args := #[x, y], argTypes := #[t, u] }) (hd : o.dst = some d) (hdn : Nat.blt d n = true) (hx : ev V x = some (.pointer (some ⟨g, 0, none⟩))) (hy : ev V y = some (.int .i64 q)) (hq : q = ((xs.length : Nat) : Int))
    (hp : P.underlying t = some (.pointer e)) (hc : P.cellsOf e = 1) (hL : L.Perm (.row (some ⟨g, 0, none⟩) cap e 1 (xs.map u8c) :: L')) (h0 : xs ≠ [])
    (hT : T ((d, .string ⟨xs.toArray⟩) :: V) L') : OpS P w0 O n D o V L T := by
  intro a w ha hw
  subst hq
  have hw1 := hw.perm hL
  have hown := row_u8.1 (hw1.ents _ List.mem_cons_self)
  obtain ⟨g', cp, cur, hv, _, hg, hnc, hcm, hcs, htk⟩ : ∃ g' cp cur, Value.slice (some ⟨g, 0, none⟩) xs.length cap = .slice (some ⟨g', 0, none⟩) xs.length cp ∧ 0 ≤ g' ∧ w.heap[g']? = some (.cells cur e (0, 0)) ∧ xs.length ≤ cp ∧ cp ≤ maxLen ∧ cur.size = cp * 1 ∧ cur.toList.take (xs.length * 1) = xs.map u8v := by
    rcases hown.2 with ⟨hv, _⟩ | h
    · cases hv
    · exact h
  obtain rfl : g = g' := by injection hv with h1; injection h1 with h1; injection h1
  have hrun := Lib.run_unsafeString_row (P := P) w t u o.type e hp hc g cur.size (by simp [World.shape?, hg]) xs h0 (by omega) (by unfold maxLen at hcm; omega) (fun j x hx => by
    have hjl := (List.getElem?_eq_some_iff.1 hx).1
    have h1 : (cur.toList.take (xs.length * 1))[j]? = some (u8v x) := by rw [htk, List.getElem?_map, hx]; rfl
    rw [List.getElem?_take_of_lt (by omega), Array.getElem?_toList] at h1
    rw [add_none, cell_of_row w _ _ cur e _ hg]
    simpa using h1)
  have hr : (execOp a.eval o).run P w = .ok (.value (.string ⟨xs.toArray⟩)) (w.freeze ⟨g, 0, none⟩ xs.length) := by
    simp only [execOp, ho, resolve, invoke, builtin, Sem.run_bind, Sem.run_pure, Result.andThen_ok, List.map_toArray, List.map_cons, List.map_nil, ha.eval hx, ha.eval hy, hrun]
  unfold Does
  rw [hr, hd]
  refine ⟨_, _, hT, ha.put hdn _, ?_⟩
  have hne : xs.length ≠ 0 := by simpa using h0
  have hsame : ∀ k, k ≠ g → (w.freeze ⟨g, 0, none⟩ xs.length).heap[k]? = w.heap[k]? := fun k hk => by
    simp only [World.freeze, hne, if_false, Array.getElem?_modify]
    rw [if_neg (fun h => hk h.symm)]
  have hsz : (w.freeze ⟨g, 0, none⟩ xs.length).heap.size = w.heap.size := by simp [World.freeze, hne]
  have := hw1.set (A := []) (R := L') (w' := w.freeze ⟨g, 0, none⟩ xs.length) (p := .row (some ⟨g, 0, none⟩) cap e 1 (xs.map u8c)) (p' := .row none 0 e 1 []) rfl (by simp [World.freeze, hne]) (by simp [World.freeze, hne]) (by simp [World.freeze, hne]) (Nat.le_of_eq hsz.symm) (sat_nil _ e 1) (by simp [Ent.blocks]) (by simp [Ent.blocks]) (fun k _ hkb => hsame k (by simpa [Ent.blocks] using hkb))
  exact this.sub (List.sublist_cons_self _ _)
end
end Go.Proofs.Ytpcfgoadkfajfaa
namespace Go.Proofs.Ytpcfgoadkfajfaa
set_option linter.all false
open Go Go.RowKit
section
variable {P : Program} {n : Nat} {D : List Deferred} {o : Oper} {V : List (Nat × Value)}
/-- x[lo:hi] -/
theorem yw_sliceMid {t e : TypeId} {x l h : Operand} {A : Option Addr} {b q0 len cap sz i j mm cc : Nat} {qi qj : Int} (hA : A = some ⟨b, q0, none⟩) (ho : o.op = .slice t x (some l) (some h) none) (ht : SlT P t e sz) (hx : ev V x = some (.slice A len cap)) (hl : ev V l = some (.int .i64 qi)) (hh : ev V h = some (.int .i64 qj))
    (e1 : qi = (i : Int)) (e2 : qj = (j : Int)) (h1 : i ≤ j) (h2 : j ≤ cap) (h4 : i < cap) (hmm : j - i = mm) (hcc : cap - i = cc) :
    YldW P n D o V (.slice (some ⟨b, q0 + i * sz, none⟩) mm cc) := by
  intro a w ha
  subst hA
  obtain ⟨f, g1, g2, g3⟩ := ht
  subst e1; subst e2; subst g3; subst hmm; subst hcc
  have a1 : (i : Int) ≤ (j : Int) := by omega
  have a3 : (j : Int) ≤ (cap : Int) := by omega
  have a4 : ¬ cap = i := by omega
  have := add_none
  simp [execOp, ho, ha.eval hx, ha.eval hl, ha.eval hh, Instr.sliceAt, Instr.slice, run_underlying g1, Instr.sliceBounds, Instr.sliceBound, asIntOf, h1, h2, sizeOf, typeInfo, g2, a4, add_none]
end
theorem Rd.mid {α : Type} {f : α → Array Value} {w : World} {A : Option Addr} {b q0 sz : Nat} {xs : List α} (h : Rd w A sz (xs.map f)) (hA : A = Option.some ⟨b, q0, none⟩) {k : Nat} {x : α} (hx : xs[k]? = Option.some x) : Rd w (Option.some ⟨b, q0 + k * sz, none⟩) sz ([x].map f) := by
  have h1 := (h.dropM hA k).takeM 1
  have hk := (List.getElem?_eq_some_iff.1 hx).1
  have e : (xs.drop k).take 1 = [x] := by
    rw [List.drop_eq_getElem_cons hk, List.take_succ_cons, List.take_zero]
    rw [List.getElem?_eq_getElem hk, Option.some.injEq] at hx
    rw [hx]
  rw [e] at h1
  exact h1
/-- A row with an element lies somewhere. -/
theorem Ent.rowAt {w : World} {A : Option Addr} {cap : Nat} {e : TypeId} {sz : Nat} {xs : List (Array Value)} (h : (Ent.row A cap e sz xs).sat w) (hl : 0 < xs.length) : ∃ g, A = Option.some ⟨g, 0, none⟩ := by
  obtain ⟨⟨_, h2⟩, _⟩ := h
  rcases h2 with ⟨_, h0⟩ | ⟨g, c, cur, hv, _⟩
  · omega
  · injection hv with hA _ _
    exact ⟨g, hA⟩
end Go.Proofs.Ytpcfgoadkfajfaa
namespace Go.Proofs.Ytpcfgoadkfajfaa
set_option linter.all false
open Go Go.RowKit
section
variable {P : Program} {n : Nat} {D : List Deferred} {o : Oper} {V : List (Nat × Value)}
theorem yw_beql {t u : TypeId} {x y : Operand} {a b : Bool} (ho : o.op = .binOp .eql t x y u) (ht : P.underlying t = some .bool) (hx : ev V x = some (.bool a)) (hy : ev V y = some (.bool b)) : YldW P n D o V (.bool (a == b)) := by
  intro c w ha
  have h : ∀ d : Nat, (Op.equalIn (d + 1) t (.bool a) (.bool b)).run P w = .ok (a == b) w := fun d => by
    simp [Op.equalIn, run_underlying ht]
  simp [execOp, ho, ha.eval hx, ha.eval hy, eqGuard, binOp, Op.equal, Op.maxDepth, h 9999]
theorem yw_bneq {t u : TypeId} {x y : Operand} {a b : Bool} (ho : o.op = .binOp .neq t x y u) (ht : P.underlying t = some .bool) (hx : ev V x = some (.bool a)) (hy : ev V y = some (.bool b)) : YldW P n D o V (.bool (!(a == b))) := by
  intro c w ha
  have h : ∀ d : Nat, (Op.equalIn (d + 1) t (.bool a) (.bool b)).run P w = .ok (a == b) w := fun d => by
    simp [Op.equalIn, run_underlying ht]
  simp [execOp, ho, ha.eval hx, ha.eval hy, eqGuard, binOp, Op.equal, Op.maxDepth, h 9999]
end
end Go.Proofs.Ytpcfgoadkfajfaa
namespace Go.Proofs.Ytpcfgoadkfajfaa
set_option linter.all false
open Go Go.RowKit
theorem run_copy_head {P : Program} {w : World} {t ty e : TypeId} {sz bytes : Nat} {z : Value} (ht : SlB P t e sz bytes z) {A : Option Addr} {cap : Nat} {ds : List (Array Value)} (hrow : (Ent.row A cap e sz ds).sat w) {B : Option Addr} {c : Nat} {xs : List (Array Value)} (hB : Rd w B sz xs) (hl : xs.length ≤ ds.length) :
    ∃ w', (Builtin.copy_ #[t, t] ty #[.slice A ds.length cap, .slice B xs.length c]).run P w = .ok (.int .i64 ((xs.length : Nat) : Int)) w' ∧ (Ent.row A cap e sz (xs ++ ds.drop xs.length)).sat w' ∧ w.grownBy w' (A.map Addr.block) := by
  obtain ⟨i, hi, hz, hsz, hbb⟩ := ht.info
  rcases xs with _ | ⟨x, xs⟩
  · refine ⟨w, ?_, by simpa using hrow, World.grownBy.refl w _⟩
    have h0 : Nat.min 0 ds.length = 0 := Nat.zero_min _
    cases B with
    | none => cases A <;> simp [Builtin.copy_, run_underlying ht.under, Builtin.lenOf, Builtin.firstCells, sizeOf, typeInfo, hi, storeCells, goInt, h0]
    | some b => cases A <;> simp [Builtin.copy_, run_underlying ht.under, Builtin.lenOf, Builtin.firstCells, sizeOf, typeInfo, hi, storeCells, goInt, loadCells, loadCellsFrom, h0]
  · obtain ⟨⟨hd1, hd2⟩, hds⟩ := hrow
    rcases hd2 with ⟨hv, hn0⟩ | ⟨g, cp, cur, hv, hbg, hg, hnc, hcm, hcs, htake⟩
    · rw [hn0] at hl; simp at hl
    injection hv with h1 h2 h3
    subst h1; subst h3
    have hy := fun k c hk => hB.at_ k c hk
    obtain ⟨_, ⟨b, j, rfl⟩, _, _⟩ := hy 0 x (by simp)
    have hxs : ∀ c ∈ (x :: xs), c.size = sz ∧ ∀ u ∈ c.toList, u.oneCell' = true := by
      intro c hc
      obtain ⟨k, hk⟩ := List.mem_iff_getElem?.1 hc
      exact ⟨(hy k c hk).1, (hy k c hk).2.2.2.1⟩
    have hfl := flat_length (fun c hc => (hxs c hc).1)
    have hsrc : ∀ q u, (flat (x :: xs))[q]? = some u → w.cell? ((⟨b, j, none⟩ : Addr).add q) = some u := by
      intro q u hq
      have hqlt : q < (x :: xs).length * sz := by
        have := (List.getElem?_eq_some_iff.1 hq).1
        omega
      have hk : q / sz < (x :: xs).length := Nat.div_lt_of_lt_mul (by rw [Nat.mul_comm]; exact hqlt)
      have hr : q % sz < sz := Nat.mod_lt _ ht.pos
      have hqe : q = q / sz * sz + q % sz := by rw [Nat.mul_comm]; exact (Nat.div_add_mod q sz).symm
      have hget := flat_get (fun c hc => (hxs c hc).1) (List.getElem?_eq_getElem hk) hr
      rw [← hqe] at hget
      obtain ⟨_, _, _, _, hc⟩ := hy (q / sz) _ (List.getElem?_eq_getElem hk)
      have h1 := hc (q % sz) hr
      rw [add_none]
      rw [show ab (some ⟨b, j, none⟩) = b from rfl, show ao (some ⟨b, j, none⟩) = j from rfl, Nat.add_assoc, ← hqe] at h1
      rw [h1, ← hget, hq]
    have hle : (x :: xs).length * sz ≤ cap * sz := Nat.mul_le_mul_right _ (by omega)
    have hf := run_firstCells_some (P := P) w i.size (x :: xs).length ⟨b, j, none⟩ (x :: xs).length c (flat (x :: xs)) (by rw [hsz]; exact hfl) hsrc
    have hst := run_storeCells_at P g 0 e (flat (x :: xs)) 0 cur w hg (by rw [hcs, hfl]; omega) (fun u hu => by obtain ⟨c, hc, hcu⟩ := mem_flat.1 hu; exact (hxs c hc).2 u hcu)
    simp only [Nat.add_zero] at hst
    have hsplit : flat ds = flat (ds.take (x :: xs).length) ++ flat (ds.drop (x :: xs).length) := by rw [← flat_append, List.take_append_drop]
    have htl : (flat (ds.take (x :: xs).length)).length = (x :: xs).length * sz := by
      rw [flat_length (sz := sz) (fun c hc => (hds c (List.mem_of_mem_take hc)).1), List.length_take, Nat.min_eq_left hl]
    have hdl : (flat (ds.drop (x :: xs).length)).length = (ds.length - (x :: xs).length) * sz := by
      rw [flat_length (sz := sz) (fun c hc => (hds c (List.mem_of_mem_drop hc)).1), List.length_drop]
    have hall : ∀ c ∈ ((x :: xs) ++ ds.drop (x :: xs).length), c.size = sz ∧ ∀ u ∈ c.toList, u.oneCell' = true := by
      intro c hc
      rcases List.mem_append.1 hc with hc | hc
      · exact hxs c hc
      · exact hds c (List.mem_of_mem_drop hc)
    have hlen : ((x :: xs) ++ ds.drop (x :: xs).length).length = ds.length := by rw [List.length_append, List.length_drop]; omega
    refine ⟨w.setRow g (cur.toList.take 0 ++ flat (x :: xs) ++ cur.toList.drop (0 + (flat (x :: xs)).length)).toArray, ?_, ⟨⟨flat_length (fun c hc => (hall c hc).1), .inr ⟨g, cap, _, by rw [hlen], hbg, setRow_heap w g cur _ e _ hg, by rw [hlen]; exact hnc, hcm, ?_, ?_⟩⟩, hall⟩, ⟨rfl, rfl, rfl, by simp, fun k _ hk => setRow_other w g k _ (fun e => hk (by simp [e]))⟩⟩
    · have hmin : Nat.min (x :: xs).length ds.length = (x :: xs).length := Nat.min_eq_left hl
      simp at hmin hf hst
      have hmin' : Nat.min (xs.length + 1) ds.length = xs.length + 1 := by simpa using hmin
      simp [Builtin.copy_, run_underlying ht.under, Builtin.lenOf, sizeOf, typeInfo, hi, hmin', hf, hst, goInt]
    · simp only [List.size_toArray, List.length_append, List.length_take, List.length_drop, Array.length_toList, hfl, hcs]
      omega
    · simp only [Nat.zero_add, List.take_zero, List.nil_append]
      rw [hlen, flat_append, List.take_append, hfl]
      have e1 : (flat (x :: xs)).take (ds.length * sz) = flat (x :: xs) := List.take_of_length_le (by rw [hfl]; exact Nat.mul_le_mul_right _ hl)
      rw [e1, ← Nat.sub_mul]
      congr 1
      have e2 : (cur.toList.drop ((x :: xs).length * sz)).take ((ds.length - (x :: xs).length) * sz) = (cur.toList.take (ds.length * sz)).drop ((x :: xs).length * sz) := by
        rw [List.drop_take, Nat.sub_mul]
      rw [e2, htake, hsplit, List.drop_left' htl]
section
variable {P : Program} {w0 : World} {O : List Nat} {n : Nat} {D : List Deferred} {o : Oper} {V : List (Nat × Value)} {L : List Ent} {T : List (Nat × Value) → List Ent → Prop}
theorem op_copyHead {α : Type} (enc : α → Array Value) {x y : Operand} {t e : TypeId} {d i m k cap c sz bytes : Nat} {z : Value} {A B : Option Addr} {ds xs : List α} (ho : o.op = .call { callee := .builtin .copy, args := #[x, y], argTypes := #[t, t] }) (hd : o.dst = some d) (hdn : Nat.blt d n = true) (ht : SlB P t e sz bytes z)
    (hx : ev V x = some (.slice A m cap)) (hL : L[i]? = some (.row A cap e sz (ds.map enc))) (hm : ds.length = m) (hy : ev V y = some (.slice B k c)) (hk : xs.length = k) (hle : k ≤ m) (hr : ∀ w, SL w0 O w L → Rd w B sz (xs.map enc))
    (hT : T ((d, .int .i64 ((k : Nat) : Int)) :: V) (L.set i (.row A cap e sz ((xs ++ ds.drop k).map enc)))) : OpS P w0 O n D o V L T := by
  intro a w ha hw
  subst hm; subst hk
  obtain ⟨w', h1, h2, h3⟩ := run_copy_head (P := P) (w := w) (ty := o.type) (c := c) ht (hw.ents _ (List.mem_of_getElem? hL)) (hr w hw) (by rw [List.length_map, List.length_map]; exact hle)
  rw [List.length_map, List.length_map] at h1
  rw [List.length_map, ← List.map_drop, ← List.map_append] at h2
  have hr' : (execOp a.eval o).run P w = .ok (.value (.int .i64 ((xs.length : Nat) : Int))) w' := by
    simp only [execOp, ho, resolve, invoke, builtin, Sem.run_bind, Sem.run_pure, Result.andThen_ok, List.map_toArray, List.map_cons, List.map_nil, ha.eval hx, ha.eval hy, h1]
  unfold Does
  rw [hr', hd]
  refine ⟨_, _, hT, ha.put hdn _, hw.setI hL h3.os h3.tape h3.output h3.size h2 row_blocks_nodup (fun b hb => .inl hb) (fun k hk hkb => h3.block k hk (fun e => hkb ?_))⟩
  cases A with
  | none => cases e
  | some a =>
    injection e with e
    simp [Ent.blocks, e]
/-- append of elements that can be read. -/
theorem op_appendMR {α : Type} (enc : α → Array Value) {x y : Operand} {t e : TypeId} {d sz bytes i : Nat} {z : Value} {A B : Option Addr} {cap c m : Nat} {xs : List α} (ys : List α)
    (ho : o.op = .call { callee := .builtin .append, args := #[x, y], argTypes := #[t, t] }) (hd : o.dst = some d) (hdn : Nat.blt d n = true) (ht : SlB P t e sz bytes z) (hx : ev V x = some (.slice A xs.length cap)) (hL : L[i]? = some (.row A cap e sz (xs.map enc)))
    (hy : ev V y = some (.slice B m c)) (hm : ys.length = m) (hr : ∀ w, SL w0 O w L → Rd w B sz (ys.map enc)) (h63 : xs.length + ys.length ≤ 9223372036854775807) (hby : (xs.length + ys.length) * bytes ≤ 140737488355328)
    (hT : ∀ A' cap', T ((d, .slice A' (xs ++ ys).length cap') :: V) (L.set i (.row A' cap' e sz ((xs ++ ys).map enc)))) : OpS P w0 O n D o V L T := by
  subst hm
  have e1 : (xs.map enc).length = xs.length := List.length_map _
  have e2 : (xs.map enc ++ ys.map enc) = (xs ++ ys).map enc := List.map_append.symm
  refine op_append_core (xs := xs.map enc) (ys := ys.map enc) ho hd hdn ht (by rw [e1]; exact hx) hL hy (List.length_map _) hr (by rw [e1]; exact h63) (by rw [e1]; exact hby) fun A' cap' => ?_
  rw [e2, List.length_map]
  exact hT A' cap'
end
end Go.Proofs.Ytpcfgoadkfajfaa
namespace Go.Proofs.Ytpcfgoadkfajfaa
set_option linter.all false
open Go Go.RowKit
theorem flat_setF {sz : Nat} : ∀ {xs : List (Array Value)}, (∀ c ∈ xs, c.size = sz) → ∀ {k j : Nat} {c : Array Value} (v : Value), xs[k]? = some c → j < sz → flat (xs.set k (c.setIfInBounds j v)) = (flat xs).set (k * sz + j) v
  | [], _, k, j, c, v, h, _ => by simp at h
  | d :: xs, hs, 0, j, c, v, h, hj => by
    have hd := hs d List.mem_cons_self
    obtain rfl : d = c := by simpa using h
    have hdl : d.toList.length = sz := by rw [Array.length_toList, hd]
    rw [List.set_cons_zero, flat_cons, flat_cons, Nat.zero_mul, Nat.zero_add, List.set_append_left _ _ (by omega), Array.toList_setIfInBounds]
  | d :: xs, hs, k + 1, j, c, v, h, hj => by
    have hd := hs d List.mem_cons_self
    have hdl : d.toList.length = sz := by rw [Array.length_toList, hd]
    rw [List.set_cons_succ, flat_cons, flat_cons, flat_setF (fun c hc => hs c (List.mem_cons_of_mem _ hc)) v (by simpa using h) hj, List.set_append_right _ _ (by rw [Nat.add_mul]; omega), hdl]
    congr 2
    rw [Nat.add_mul]; omega
section
variable {P : Program} {w0 : World} {O : List Nat} {n : Nat} {D : List Deferred} {o : Oper} {V : List (Nat × Value)} {L : List Ent} {T : List (Nat × Value) → List Ent → Prop}
theorem op_storeElemF {t e : TypeId} {x y : Operand} {A : Option Addr} {cap sz k j i : Nat} {v : Value} {c : Array Value} {xs ys : List (Array Value)} (ho : o.op = .store t x y) (hd : o.dst = none) (hx : ev V x = some (.pointer (some ⟨ab A, ao A + k * sz + j, none⟩))) (hy : ev V y = some v) (hs : SzT P t 1)
    (hv : v.cells = #[v]) (h1 : v.oneCell' = true) (hL : L[i]? = some (.row A cap e sz xs)) (hk : xs[k]? = some c) (hj : j < sz) (hset : xs.set k (c.setIfInBounds j v) = ys)
    (hT : T V (L.set i (.row A cap e sz ys))) : OpS P w0 O n D o V L T := by
  intro a w ha hw
  subst hset
  have hkl := (List.getElem?_eq_some_iff.1 hk).1
  have hsat := hw.ents _ (List.mem_of_getElem? hL)
  obtain ⟨⟨hl, h2⟩, hxs⟩ := hsat
  have hcm' := hxs c (List.mem_of_getElem? hk)
  rcases h2 with ⟨hvv, hn⟩ | ⟨g, cp, cur, hvv, _, hg, hnc, hcm, hcs, htake⟩
  · omega
  · injection hvv with hA hn hc
    subst hA; subst hc
    have hle : (k + 1) * sz ≤ xs.length * sz := Nat.mul_le_mul_right _ hkl
    have hle2 : xs.length * sz ≤ cap * sz := Nat.mul_le_mul_right _ hnc
    rw [Nat.add_mul, Nat.one_mul] at hle
    have hx' : a.eval x = .pointer (some ⟨g, k * sz + j, none⟩) := by
      rw [ha.eval hx]
      show Value.pointer (some ⟨g, 0 + k * sz + j, none⟩) = _
      rw [Nat.zero_add]
    have hr := run_store_row (P := P) (w := w) (g := g) (j := k * sz + j) (v := v) hs (by rw [hv]; rfl) (by rw [hv]; intro u hu; simp at hu; rw [hu]; exact h1) hg (by omega)
    rw [hv] at hr
    have hr' : (execOp a.eval o).run P w = .ok .skip (w.setRow g (cur.toList.take (k * sz + j) ++ [v] ++ cur.toList.drop (k * sz + j + 1)).toArray) := by
      simp only [execOp, ho, hx', ha.eval hy, Instr.storeAt, Instr.sureAddr]
      simp only [Sem.run_bind, Sem.run_pure, Result.andThen_ok, hr]
    unfold Does
    rw [hr', hd]
    refine ⟨_, _, hT, ha, hw.setI hL rfl rfl rfl (by simp) ?_ row_blocks_nodup (fun b hb => .inl hb) (fun j _ hj => setRow_other w g j _ (by simpa [Ent.blocks] using hj))⟩
    have hxs' : ∀ d ∈ xs.set k (c.setIfInBounds j v), d.size = sz ∧ ∀ u ∈ d.toList, u.oneCell' = true := by
      intro d hd
      rcases List.mem_or_eq_of_mem_set hd with hd | rfl
      · exact hxs d hd
      · refine ⟨by rw [Array.size_setIfInBounds]; exact hcm'.1, fun u hu => ?_⟩
        rw [Array.toList_setIfInBounds] at hu
        rcases List.mem_or_eq_of_mem_set hu with hu | rfl
        · exact hcm'.2 u hu
        · exact h1
    have hclen : cur.toList.length = cap * sz := by rw [Array.length_toList]; exact hcs
    have hcur : cur.toList.take (k * sz + j) ++ [v] ++ cur.toList.drop (k * sz + j + 1) = cur.toList.set (k * sz + j) v := by
      rw [List.set_eq_take_append_cons_drop, if_pos (by omega), List.append_assoc]; rfl
    refine ⟨⟨by rw [flat_length (fun d hd => (hxs' d hd).1)], .inr ⟨g, cap, _, by simp, Nat.zero_le _, setRow_heap w g cur _ e _ hg, by simpa using hnc, hcm, ?_, ?_⟩⟩, hxs'⟩
    · rw [hcur, List.size_toArray, List.length_set, hclen]
    · rw [hcur, flat_setF (fun c hc => (hxs c hc).1) v hk hj, List.length_set, ← htake, List.toList_toArray, List.take_set]
end
section
variable {P : Program} {w0 : World} {O : List Nat} {n : Nat} {D : List Deferred} {V : List (Nat × Value)} {L : List Ent} {Q : Exit → Act → World → Prop} {c : Code} {r : Option Nat}
/-- An entry comes out of a pack. -/
theorem CX.packOut {L' : List Ent} {e : Ent} {es es' : List Ent} (hL : L.Perm (pack es :: L')) (he : es.Perm (e :: es')) (h : CX P r Q w0 O n D c V (e :: pack es' :: L')) : CX P r Q w0 O n D c V L := fun a w ha hw => by
  have h1 : SL w0 O w (pack es :: L') := hw.perm hL
  have h2 : SL w0 O w ((e :: es') ++ L') := h1.unpack.perm (he.append_right _)
  have h3 : SL w0 O w (es' ++ (e :: L')) := h2.perm (by
    rw [List.cons_append]
    exact List.perm_middle.symm)
  exact h a w ha (h3.pack.perm (List.Perm.swap _ _ _))
/-- .. and goes back into it, changed. -/
theorem CX.packIn {L' : List Ent} {e : Ent} {es es' : List Ent} (hL : L.Perm (e :: pack es' :: L')) (he : es.Perm (e :: es')) (h : CX P r Q w0 O n D c V (pack es :: L')) : CX P r Q w0 O n D c V L := fun a w ha hw => by
  have h1 : SL w0 O w (pack es' :: e :: L') := (hw.perm hL).perm (List.Perm.swap _ _ _)
  have h3 : SL w0 O w (es ++ L') := h1.unpack.perm (by
    refine List.perm_middle.trans ?_
    rw [← List.cons_append]
    exact (he.symm).append_right _)
  exact h a w ha h3.pack
end
/-- An entry known otherwise. -/
theorem DX.know1 {P : Program} {ops : Array Oper} {tab : Tab} {Q : Exit → Act → World → Prop} {w0 : World} {O : List Nat} {n : Nat} {D : List Deferred} {th fuel m : Nat} {LS : List Ent} {V : List (Nat × Value)} {L : List Ent} (i : Nat) {p q : Ent} (hL : L[i]? = some p) (e : p = q) (h : DX P ops tab Q w0 O n D th LS fuel m V (L.set i q)) : DX P ops tab Q w0 O n D th LS fuel m V L := by
  subst e
  have : L.set i p = L := by
    obtain ⟨hi, h⟩ := List.getElem?_eq_some_iff.1 hL
    subst h; exact List.set_getElem_self hi
  rw [this] at h
  exact h
theorem set_perm {α : Type} : ∀ {l : List α} {i : Nat} {x : α} (y : α), l[i]? = some x → (l.set i y).Perm (y :: l.eraseIdx i)
  | [], i, x, y, h => by simp at h
  | a :: l, 0, x, y, h => by simp
  | a :: l, i + 1, x, y, h => by
    have h' : l[i]? = some x := by simpa using h
    simp only [List.set_cons_succ, List.eraseIdx_cons_succ]
    exact ((set_perm y h').cons a).trans (List.Perm.swap _ _ _)
end Go.Proofs.Ytpcfgoadkfajfaa
namespace Go.Proofs.Ytpcfgoadkfajfaa
set_option linter.all false
open Go Go.RowKit
/-- What a range over a function leaves to be done at the call's end. -/
def markD (k : Nat) : Deferred := { target := .collected k, args := #[] }
/-- The blocks of these marks. -/
def openB (ks : List Nat) : Ent := pack (ks.map fun k => .blk k (.deferred (some [])))
section
variable {P : Program} {w0 : World} {O : List Nat} {n : Nat} {D : List Deferred} {o : Oper} {V : List (Nat × Value)} {L : List Ent} {T : List (Nat × Value) → List Ent → Prop} {Q : Exit → Act → World → Prop} {r : Option Nat}
def AgainD {σ : Type} (Vx : σ → List (Nat × Value)) (Lx : σ → List Ent) (Dx : σ → List Deferred) (I : σ → Prop) (m : σ → Nat) (w0 : World) (O : List Nat) (n : Nat) (k : Nat) (a : Act) (w : World) : Prop :=
  ∃ j, j < k ∧ ∃ x, m x = j ∧ I x ∧ Holds n (Dx x) a (Vx x) ∧ SL w0 O w (Lx x)
theorem CX.loopD {σ : Type} (Vx : σ → List (Nat × Value)) (Lx : σ → List Ent) (Dx : σ → List Deferred) (I : σ → Prop) (m : σ → Nat) (x0 : σ) {body : Code} (h0 : I x0) (hD : D = Dx x0) (hV : Sub V (Vx x0)) (hL : L = Lx x0)
    (round : ∀ x, I x → CX P r (Exit.then (AgainD Vx Lx Dx I m w0 O n (m x)) Q) w0 O n (Dx x) body (Vx x) (Lx x)) : CX P r Q w0 O n D (.loop body) V L := by
  intro a w ha hw
  subst hL; subst hD
  refine wpIn_loop_ghost (fun k a w => ∃ x, m x = k ∧ I x ∧ Holds n (Dx x) a (Vx x) ∧ SL w0 O w (Lx x)) (m x0) ⟨x0, rfl, h0, ha.sub hV, hw⟩ ?_
  rintro k a w ⟨x, rfl, hI, ha, hw⟩
  exact round x hI a w ha hw
theorem XX.againD {σ : Type} {Vx : σ → List (Nat × Value)} {Lx : σ → List Ent} {Dx : σ → List Deferred} {I : σ → Prop} {m : σ → Nat} {k : Nat} (R : List Ent) (x : σ) (hm : m x < k) (hI : I x) (hD : D = Dx x) (hV : Sub V (Vx x)) (hL : L.Perm (Lx x ++ R)) :
    XX (Exit.then (AgainD Vx Lx Dx I m w0 O n k) Q) w0 O n D .normal V L :=
  fun a w ha hw => ⟨m x, hm, x, rfl, hI, by subst hD; exact ha.sub hV, hw.pick hL⟩
theorem CX.openNil {c : Code} (h : CX P r Q w0 O n D c V (openB [] :: L)) : CX P r Q w0 O n D c V L := CX.packNil (L := L) h
theorem XX.openMore {e : Exit} {L' : List Ent} {k : Nat} {ks : List Nat} (hL : L.Perm (.blk k (.deferred (some [])) :: openB ks :: L')) (h : XX Q w0 O n D e V (openB (k :: ks) :: L')) : XX Q w0 O n D e V L := fun a w ha hw => by
  have h1 : SL w0 O w (pack (ks.map fun k => .blk k (.deferred (some []))) :: .blk k (.deferred (some [])) :: L') := (hw.perm hL).perm (List.Perm.swap _ _ _)
  have h2 : SL w0 O w ((Ent.blk k (.deferred (some [])) :: ks.map fun k => .blk k (.deferred (some []))) ++ L') := h1.unpack.perm List.perm_middle
  exact h a w ha h2.pack
end
section
variable {P : Program} {w0 : World} {O : List Nat} {L : List Ent} {fn : Func} {R : Ending → World → Prop} {n : Nat} {V : List (Nat × Value)}
theorem leaves_marks {tmps : Array Value} : ∀ (ks : List Nat) (w : World) {L : List Ent}, SL w0 O w (openB ks :: L) → (∀ w', SL w0 O w' L → LeavesInM Fence.wide 0 P fn tmps R [] .returning w') → LeavesInM Fence.wide 0 P fn tmps R (ks.map markD) .returning w
  | [], w, L, hw, h => h w (SL.unpack hw)
  | k :: ks, w, L, hw, h => by
    have h1 : SL w0 O w (.blk k (.deferred (some [])) :: ((ks.map fun k => .blk k (.deferred (some []))) ++ L)) := SL.unpack hw
    have hk : w.heap[k]? = some (.deferred (some [])) := h1.ents _ List.mem_cons_self
    have h2 : SL w0 O (w.putObj k (.deferred none)) ((ks.map fun k => .blk k (.deferred (some []))) ++ L) := (putObj_SL (i := 0) h1 rfl (.deferred none)).sub (List.sublist_cons_self _ _)
    exact ⟨by simp, .inl ⟨k, _, rfl, run_takeDeferred hk, leaves_marks ks _ h2.pack h⟩⟩
theorem ret_tmpMs {t : Nat} {v : Value} {ks : List Nat} {L' : List Ent} (hr : fn.results = #[.tmp t]) (hv : lk V t = some v) (hL : L.Perm (openB ks :: L')) (h : ∀ w, SL w0 O w L' → R (.returned v) w) : XX (bodyPostM Fence.wide 0 P fn R) w0 O n (ks.map markD) .ret V L := by
  intro a w ha hw
  have hp := ha.at_ _ _ hv
  show LeavesInM Fence.wide 0 P fn a.tmps R a.defers .returning w
  rw [ha.defers]
  refine leaves_marks ks w (hw.perm hL) fun w' hw' => ⟨v, ?_, h _ hw'⟩
  simp [results, hr, hp]
end
/-! ### Ranges left by a jump -/
/-- The record behind a round that has left this jump. -/
def leftBy (rec : Loop) (j : Option Code) : Loop := { rec with state := if j.isNone then .ready else .done, pending := j }
/-- How a round ends. -/
def jumpOf : Exit → Option (Option Code)
  | .normal => some none
  | .ret => some (some .ret)
  | .exit id => some (some (.exit id))
  | _ => none
section
variable {P : Program} {w0 : World} {O : List Nat} {n : Nat} {D : List Deferred} {o : Oper} {V : List (Nat × Value)} {L : List Ent} {T : List (Nat × Value) → List Ent → Prop} {Q : Exit → Act → World → Prop}
def MetJ {τ : Type} (LL : τ → List Ent) (post : τ → Prop) (pend : τ → Option Code) (w0 : World) (O : List Nat) (e : Exit) (_ : Act) (w : World) : Prop := ∃ y, post y ∧ jumpOf e = some (pend y) ∧ SL w0 O w (LL y)
theorem XX.metJ {τ : Type} {LL : τ → List Ent} {post : τ → Prop} {pend : τ → Option Code} {e : Exit} (R : List Ent) (y : τ) (hp : post y) (hj : jumpOf e = some (pend y)) (hL : L.Perm (LL y ++ R)) : XX (MetJ LL post pend w0 O) w0 O n D e V L :=
  fun a w ha hw => ⟨y, hp, hj, hw.pick hL⟩
theorem round_of_CXJ {w : World} {l Dk p : Nat} {rec : Loop} {v : Value} {M : List Ent} {V0 : List (Nat × Value)} {σ τ : Type} (V1 : σ → List (Nat × Value)) (L1 : σ → List Ent) (I1 : σ → Prop) {LL : τ → List Ent} {post : τ → Prop} {pend : τ → Option Code}
    (hst : rec.state = .ready) (hpe : rec.pending = none) (hps : rec.params = #[p]) (hV : Holds n [] { tmps := rec.tmps.setIfInBounds p v, defers := [] } V0)
    (hA : CX P (some l) (Met V1 (fun x => RB l Dk rec ++ L1 x) I1 w O n []) w O n [] rec.assign V0 (RB l Dk rec ++ M))
    (hB : ∀ x, I1 x → CX P (some l) (MetJ (fun y => RB l Dk { rec with state := .busy } ++ LL y) post pend w O) w O n [] rec.body (V1 x) (RB l Dk { rec with state := .busy } ++ L1 x))
    (hw : SL w O w (RB l Dk rec ++ M)) :
    ∃ f tmps asg body, (Instr.yield l #[v]).run P w = .ok (.round l f tmps asg body) w ∧
      RoundIn Fence.wide 0 P l f tmps asg body w fun e w' => ∃ y, post y ∧ e = .returned (.bool (pend y).isNone) ∧ SL w O w' (RB l Dk (leftBy rec (pend y)) ++ LL y) := by
  have hl : w.heap[l]? = some (.loop rec) := hw.ents (.blk l (.loop rec)) (by simp)
  have hy := run_yield (P := P) (args := #[v]) hl (by simp [hps])
  have e : (rec.params.zip #[v]).foldl (fun tmps (t, a) => tmps.setIfInBounds t a) rec.tmps = rec.tmps.setIfInBounds p v := by simp [hps]
  rw [e] at hy
  refine ⟨_, _, _, _, hy, roundIn_of_wpIn (F := Fence.wide) trivial ?_⟩
  refine wpIn_mono (hA _ w hV hw) ?_
  rintro e a1 w1 ⟨rfl, x, hI, ha1, hw1⟩
  have hl1 : w1.heap[l]? = some (.loop rec) := hw1.ents (.blk l (.loop rec)) (by simp)
  refine ⟨_, run_beginRound hl1 hst, ?_⟩
  have hw2 : SL w O (w1.putObj l (.loop { rec with state := .busy })) (RB l Dk { rec with state := .busy } ++ L1 x) := putObj_SL (i := 0) hw1 rfl _
  refine wpIn_mono (hB x hI a1 _ ha1 hw2) ?_
  rintro e a3 w3 ⟨y, hp, hj, hw3⟩
  have hl3 : w3.heap[l]? = some (.loop { rec with state := .busy }) := hw3.ents (.blk l (.loop { rec with state := .busy })) (by simp)
  have hr3 := run_endRound (P := P) (pend y) hl3
  have e3 : ({ ({ rec with state := .busy } : Loop) with state := if (pend y).isNone then .ready else .done, pending := pend y } : Loop) = leftBy rec (pend y) := rfl
  rw [e3] at hr3
  have hfin : ∃ v w', (Instr.endRound l (pend y)).run P w3 = .ok v w' ∧ ∃ y, post y ∧ Ending.returned v = .returned (.bool (pend y).isNone) ∧ SL w O w' (RB l Dk (leftBy rec (pend y)) ++ LL y) := ⟨_, _, hr3, y, hp, rfl, putObj_SL (i := 0) hw3 rfl _⟩
  cases e <;> simp only [jumpOf, Option.some.injEq, reduceCtorEq] at hj
  · rw [← hj] at hfin; exact hfin
  · rw [← hj] at hfin; exact hfin
  · rw [← hj] at hfin; exact hfin
theorem leftBy_none {rec : Loop} (hst : rec.state = .ready) (hpe : rec.pending = none) : leftBy rec none = rec := by
  cases rec; simp at hst hpe; simp [leftBy, hst, hpe]
theorem CX.rangeFuncJ {g : Operand} {ps : Array Tmp} {asg body : Code} {gf : Nat} {cap : Array Value} {σ : Type} {LL : σ → List Ent} {post : σ → Prop} {pend : σ → Option Code} (M R : List Ent) (hL : L.Perm (M ++ R)) (hg : ev V g = some (.func (.func gf) #[] cap))
    (ent : ∀ args w, (callFunc gf args).run P w = .ok (.enter gf args) w)
    (hc : ∀ (l Dk fn : Nat) (a : Act) (w : World), Holds n D a V → SL w0 O w (RB l Dk (mkRec fn a.tmps ps asg body Dk) ++ (M ++ R)) → SL w ((RB l Dk (mkRec fn a.tmps ps asg body Dk) ++ M).flatMap Ent.blocks) w (RB l Dk (mkRec fn a.tmps ps asg body Dk) ++ M) →
      Calls P gf (#[.func (.yield l) #[] #[]] ++ cap) w fun e w' => ∃ x, post x ∧ (∃ v, e = .returned v) ∧ SL w ((RB l Dk (mkRec fn a.tmps ps asg body Dk) ++ M).flatMap Ent.blocks) w' (RB l Dk (leftBy (mkRec fn a.tmps ps asg body Dk) (pend x)) ++ LL x))
    (hT : ∀ x l Dk ob, post x → pend x = none → XX Q w0 O n (markD Dk :: D) .normal V (.blk l ob :: .blk Dk (.deferred (some [])) :: (LL x ++ R)))
    (hJ : ∀ x l Dk ob c, post x → pend x = some c → CX P none Q w0 O n (markD Dk :: D) c V (.blk l ob :: .blk Dk (.deferred (some [])) :: (LL x ++ R))) :
    CX P none Q w0 O n D (.rangeFunc g ps asg body) V L := by
  intro a w ha hw
  refine wpIn_rangeFunc (F := FW none) fun fn _ => ?_
  obtain ⟨W1, hW1⟩ : ∃ W1, (w.alloc (.deferred (some []))).alloc (.loop (mkRec fn a.tmps ps asg body w.heap.size)) = W1 := ⟨_, rfl⟩
  have hs1 : SL w0 O W1 (RB (w.heap.size + 1) w.heap.size (mkRec fn a.tmps ps asg body w.heap.size) ++ (M ++ R)) := by
    have := ((hw.perm hL).alloc (.deferred (some []))).alloc (.loop (mkRec fn a.tmps ps asg body w.heap.size))
    rw [World.size_alloc, hW1] at this
    exact this
  refine ⟨w.heap.size + 1, [markD w.heap.size], W1, { target := .fn (.func gf) cap, args := #[.func (.yield (w.heap.size + 1)) #[] #[]] }, W1, gf,
    #[.func (.yield (w.heap.size + 1)) #[] #[]] ++ cap, W1, ?_, ?_, ?_, ?_, ?_, ?_⟩
  · rw [← hW1]; exact run_enterLoop_outer _ _ _ _ _
  · simp only [resolve, ha.eval hg]
    simp [Deferred.ofValue, Act.eval]
  · intro f' _; trivial
  · simp [invoke, ent]
  · intro hh; simp [Fence.wide] at hh
  · have hr := hc (w.heap.size + 1) w.heap.size fn a W1 ha hs1 (hs1.restart (by rw [List.append_assoc]))
    refine CallsIn.mono (callsIn_wide.2 hr) ?_
    rintro e w' ⟨x, hp, ⟨v, rfl⟩, hs⟩
    have hs' : SL w0 O w' ((RB (w.heap.size + 1) w.heap.size (leftBy (mkRec fn a.tmps ps asg body w.heap.size) (pend x)) ++ LL x) ++ R) := SL.call (M := RB (w.heap.size + 1) w.heap.size (mkRec fn a.tmps ps asg body w.heap.size) ++ M) (by rw [List.append_assoc]; exact hs1) rfl hs
    have hl : w'.heap[w.heap.size + 1]? = some (.loop (leftBy (mkRec fn a.tmps ps asg body w.heap.size) (pend x))) := hs'.ents (.blk (w.heap.size + 1) (.loop _)) (by simp)
    have hend := run_endLoop (P := P) hl (by simp [leftBy]; split <;> simp)
    refine ⟨pend x, _, hend, ?_⟩
    have hd : Holds n (markD w.heap.size :: D) { a with defers := [markD w.heap.size] ++ a.defers } V := ⟨by rw [← ha.defers]; rfl, ha.size, ha.at_⟩
    cases hpx : pend x with
    | none => exact hT x (w.heap.size + 1) w.heap.size _ hp hpx _ _ hd (putObj_SL (i := 0) hs' rfl _)
    | some c => exact hJ x (w.heap.size + 1) w.heap.size _ c hp hpx _ _ hd (putObj_SL (i := 0) hs' rfl _)
/-- What an iterator's yield does: it takes the loop from a state s to a state s', and says whether to go on. -/
def YieldB (P : Program) (wb : World) (Ob : List Nat) (l : Nat) {σ : Type} (St : σ → List Ent) (pre : σ → Prop) (Rl : σ → Value → σ → Bool → Prop) (ok : Value → Prop) : Prop :=
  ∀ (s : σ) (x : Value) (w : World), pre s → ok x → (∀ k, k < wb.heap.size → k ∉ Ob → w.heap[k]? = wb.heap[k]?) → SL w ((St s).flatMap Ent.blocks) w (St s) →
    ∃ f tmps asg body, (Instr.yield l #[x]).run P w = .ok (.round l f tmps asg body) w ∧ RoundIn Fence.wide 0 P l f tmps asg body w fun e w' => ∃ y : σ × Bool, Rl s x y.1 y.2 ∧ e = .returned (.bool y.2) ∧ SL w ((St s).flatMap Ent.blocks) w' (St y.1)
/-- Rounds that all went on. -/
inductive Upto {σ : Type} (Rl : σ → Value → σ → Bool → Prop) : σ → List Value → σ → Prop
  | nil (s : σ) : Upto Rl s [] s
  | snoc {s s' s'' : σ} {xs : List Value} {x : Value} : Upto Rl s xs s' → Rl s' x s'' true → Upto Rl s (xs ++ [x]) s''
/-- Rounds to the end, or up to one that stopped. -/
def Went {σ : Type} (Rl : σ → Value → σ → Bool → Prop) (s0 : σ) (xs : List Value) (s' : σ) : Prop := Upto Rl s0 xs s' ∨ ∃ (i : Nat) (x : Value) (st : σ), xs[i]? = some x ∧ Upto Rl s0 (xs.take i) st ∧ Rl st x s' false
theorem op_yieldB {f : Operand} {xs : Array Operand} {ts : Array TypeId} {l d : Nat} {v : Value} {σ : Type} {St : σ → List Ent} {pre : σ → Prop} {Rl : σ → Value → σ → Bool → Prop} {ok : Value → Prop} (s : σ) (R : List Ent) (hy : YieldB P w0 O l St pre Rl ok) (hpre : pre s)
    (ho : o.op = .call { callee := .value f, args := xs, argTypes := ts }) (hd : o.dst = some d) (hdn : Nat.blt d n = true) (hf : ev V f = some (.func (.yield l) #[] #[])) (hx : evs V xs.toList = some [v]) (hok : ok v) (hL : L = R ++ St s)
    (hT : ∀ s' b, Rl s v s' b → T ((d, .bool b) :: V) (R ++ St s')) : OpS P w0 O n D o V L T := by
  subst hL
  intro a w ha hw
  have hp : (R ++ St s).Perm (St s ++ R) := List.perm_append_comm
  have hw' := hw.perm hp
  obtain ⟨f', tmps, asg, body, hy', hr⟩ := hy s v w hpre hok hw.same (hw'.restart (List.Perm.refl _))
  have h1 := ha.evals hx
  have e1 : xs.map a.eval = #[v] := Array.ext' (by simpa using h1)
  have hrun : (execOp a.eval o).run P w = .ok (.round l f' tmps asg body) w := by
    simp only [execOp, ho, resolve, ha.eval hf, Deferred.ofValue, e1]
    simp only [Sem.run_bind, Sem.run_pure, Result.andThen_ok, invoke]
    simpa using hy'
  unfold Does
  rw [hrun, hd]
  refine RoundIn.mono hr ?_
  rintro e w'' ⟨y, hR, he, hs⟩
  exact ⟨_, he, _, _, hT y.1 y.2 hR, ha.put hdn _, (hw'.call rfl hs).perm List.perm_append_comm⟩
/-- The greater one of two numbers; a cell that is known of every memory of this form. -/
theorem yw_max {x y : Operand} {ts : Array TypeId} {k : IntKind} {p q : Int} (ho : o.op = .call { callee := .builtin .max, args := #[x, y], argTypes := ts }) (hx : ev V x = some (.int k p)) (hy : ev V y = some (.int k q)) : YldW P n D o V (.int k (max p q)) := by
  intro a w ha
  have : (if p < q then q else p) = max p q := by split <;> omega
  simp [execOp, ho, resolve, invoke, builtin, ha.eval hx, ha.eval hy, Builtin.max_, Builtin.max2, this]
theorem y_loadH {t : TypeId} {x : Operand} {p : Addr} {v : Value} (ho : o.op = .load t x) (hx : ev V x = some (.pointer (some p))) (h1 : One P t) (h : ∀ w, SL w0 O w L → w.cell? p = some v) : Yld P w0 O n D o V L v := by
  intro a w ha hw
  simp [execOp, ho, ha.eval hx, Instr.loadAt, Instr.sureAddr, run_load_one h1 (h w hw)]
end
end Go.Proofs.Ytpcfgoadkfajfaa
namespace Go.Proofs.Ytpcfgoadkfajfaa
set_option linter.all false
open Go Go.RowKit
/-- A group in memory: its slice, and what it holds. -/
abbrev Gp := (Option Addr × Nat) × List Int
abbrev gpC (g : Gp) : Array Value := #[.slice g.1.1 g.2.length g.1.2]
def gpE (g : Gp) : Ent := .row g.1.1 g.1.2 3 1 (List.map iR g.2)
structure GrpOk (R : Nd → Nd) (done : List Int) (gs : List Gp) (kv : List (Nd × Int)) : Prop where
  at_ : ∀ (j : Nat) (g : Gp), gs[j]? = some g → g.2 ≠ [] ∧ ∀ x ∈ g.2, x ∈ done ∧ kget (R (false, x)) kv = some ((j : Nat) : Int)
  has : ∀ x ∈ done, ∃ (j : Nat) (g : Gp), gs[j]? = some g ∧ x ∈ g.2
  idx : ∀ r i, kget r kv = some i → ∃ j : Nat, i = ((j : Nat) : Int) ∧ j < gs.length
  len : gs.length ≤ done.length
  lens : ∀ g ∈ gs, g.2.length ≤ done.length
  inj : ∀ r r' i, kget r kv = some i → kget r' kv = some i → r = r'
variable {R : Nd → Nd} {done : List Int} {gs : List Gp} {kv : List (Nd × Int)}
theorem GrpOk.nil (R : Nd → Nd) : GrpOk R [] [] [] := ⟨fun j g h => (by simp at h), fun x h => (by cases h), fun r i h => (by cases h), Nat.le_refl _, fun g h => (by cases h), fun r r' i h => (by cases h)⟩
theorem GrpOk.old (h : GrpOk R done gs kv) {a : Int} {j : Nat} {g : Gp} (hk : kget (R (false, a)) kv = some ((j : Nat) : Int)) (hg : gs[j]? = some g) (z : Option Addr × Nat) : GrpOk R (done ++ [a]) (gs.set j (z, g.2 ++ [a])) kv := by
  have hj : j < gs.length := (List.getElem?_eq_some_iff.1 hg).1
  have hset : ∀ (k : Nat) (g' : Gp), (gs.set j (z, g.2 ++ [a]))[k]? = some g' → (k = j ∧ g' = (z, g.2 ++ [a])) ∨ (k ≠ j ∧ gs[k]? = some g') := by
    intro k g' hk'
    rw [List.getElem?_set] at hk'
    by_cases e : j = k
    · rw [if_pos e, if_pos hj] at hk'
      exact .inl ⟨e.symm, (Option.some.inj hk').symm⟩
    · rw [if_neg e] at hk'
      exact .inr ⟨fun e2 => e e2.symm, hk'⟩
  refine ⟨fun k g' hk' => ?_, fun x hx => ?_, fun r i hr => ?_, ?_, fun g' hg' => ?_, h.inj⟩
  · rcases hset k g' hk' with ⟨rfl, rfl⟩ | ⟨_, hk'⟩
    · refine ⟨by simp, fun x hx => ?_⟩
      rcases List.mem_append.1 hx with hx | hx
      · have := (h.at_ _ _ hg).2 x hx
        exact ⟨List.mem_append_left _ this.1, this.2⟩
      · rw [List.mem_singleton.1 hx]
        exact ⟨List.mem_append_right _ (List.mem_singleton.2 rfl), hk⟩
    · have := h.at_ _ _ hk'
      exact ⟨this.1, fun x hx => ⟨List.mem_append_left _ (this.2 x hx).1, (this.2 x hx).2⟩⟩
  · rcases List.mem_append.1 hx with hx | hx
    · obtain ⟨k, g', h1, h2⟩ := h.has x hx
      by_cases e : j = k
      · subst e
        rw [hg] at h1
        obtain rfl := Option.some.inj h1
        exact ⟨j, (z, g.2 ++ [a]), by rw [List.getElem?_set_self hj], List.mem_append_left _ h2⟩
      · exact ⟨k, g', by rw [List.getElem?_set_ne e]; exact h1, h2⟩
    · rw [List.mem_singleton.1 hx]
      exact ⟨j, (z, g.2 ++ [a]), by rw [List.getElem?_set_self hj], List.mem_append_right _ (List.mem_singleton.2 rfl)⟩
  · rw [List.length_set]; exact h.idx r i hr
  · rw [List.length_set, List.length_append]; have := h.len; omega
  · rw [List.length_append, List.length_singleton]
    rcases List.mem_or_eq_of_mem_set hg' with h1 | h1
    · have := h.lens _ h1; omega
    · rw [h1, List.length_append, List.length_singleton]
      have := h.lens g (List.mem_of_getElem? hg); omega
theorem GrpOk.new (h : GrpOk R done gs kv) {a : Int} (hk : kget (R (false, a)) kv = none) (z : Option Addr × Nat) : GrpOk R (done ++ [a]) (gs ++ [(z, [a])]) (kset (R (false, a)) ((gs.length : Nat) : Int) kv) := by
  refine ⟨fun k g' hk' => ?_, fun x hx => ?_, fun r i hr => ?_, ?_, fun g' hg' => ?_, fun r r' i h1 h2 => ?_⟩
  · rw [List.getElem?_append] at hk'
    split at hk'
    · have := h.at_ _ _ hk'
      refine ⟨this.1, fun x hx => ⟨List.mem_append_left _ (this.2 x hx).1, ?_⟩⟩
      have h2 := (this.2 x hx).2
      rw [kget_kset, if_neg (fun e => by rw [e, hk] at h2; cases h2)]
      exact h2
    · rename_i hge
      have hkl : k - gs.length = 0 := by
        rcases Nat.eq_zero_or_pos (k - gs.length) with e | e
        · exact e
        · rw [List.getElem?_eq_none (by simp; omega)] at hk'; cases hk'
      rw [hkl] at hk'
      obtain rfl : g' = (z, [a]) := (Option.some.inj hk').symm
      refine ⟨by simp, fun x hx => ?_⟩
      rw [List.mem_singleton.1 hx]
      refine ⟨List.mem_append_right _ (List.mem_singleton.2 rfl), ?_⟩
      rw [kget_kset, if_pos rfl]
      congr 2; omega
  · rcases List.mem_append.1 hx with hx | hx
    · obtain ⟨k, g', h1, h2⟩ := h.has x hx
      exact ⟨k, g', by rw [List.getElem?_append_left (List.getElem?_eq_some_iff.1 h1).1]; exact h1, h2⟩
    · rw [List.mem_singleton.1 hx]
      exact ⟨gs.length, (z, [a]), by simp, List.mem_singleton.2 rfl⟩
  · rw [List.length_append, List.length_singleton]
    rw [kget_kset] at hr
    split at hr
    · exact ⟨gs.length, (Option.some.inj hr).symm, by omega⟩
    · obtain ⟨j, h1, h2⟩ := h.idx r i hr
      exact ⟨j, h1, by omega⟩
  · rw [List.length_append, List.length_append, List.length_singleton, List.length_singleton]; have := h.len; omega
  · rw [List.length_append, List.length_singleton]
    rcases List.mem_append.1 hg' with h1 | h1
    · have := h.lens _ h1; omega
    · rw [List.mem_singleton.1 h1]; simp
  · have hlt : ∀ r i, kget r kv = some i → i < ((gs.length : Nat) : Int) := fun r i hr => by
      obtain ⟨j, h1, h2⟩ := h.idx r i hr
      omega
    rw [kget_kset] at h1 h2
    split at h1
    · rename_i e1
      split at h2
      · rename_i e2; rw [e1, e2]
      · have := hlt _ _ h2; have := Option.some.inj h1; omega
    · split at h2
      · have := hlt _ _ h1; have := Option.some.inj h2; omega
      · exact h.inj r r' i h1 h2
theorem gpE_out {gs : List Gp} {j : Nat} {g : Gp} (h : gs[j]? = some g) : (gs.map gpE).Perm (gpE g :: (gs.eraseIdx j).map gpE) := (perm_pick j h).map gpE
theorem gpE_in {gs : List Gp} {j : Nat} {g : Gp} (g' : Gp) (h : gs[j]? = some g) : ((gs.set j g').map gpE).Perm (gpE g' :: (gs.eraseIdx j).map gpE) := (set_perm g' h).map gpE
theorem gpE_snoc (gs : List Gp) (g : Gp) : ((gs ++ [g]).map gpE).Perm (gpE g :: gs.map gpE) := by
  rw [List.map_append]; exact List.perm_append_comm
theorem SL.packIn {w0 w : World} {O : List Nat} {L' : List Ent} {e : Ent} {es es' : List Ent} (h : SL w0 O w (e :: Go.Proofs.Ytpcfgoadkfajfaa.pack es' :: L')) (he : es.Perm (e :: es')) : SL w0 O w (Go.Proofs.Ytpcfgoadkfajfaa.pack es :: L') := by
  have h1 : SL w0 O w (Go.Proofs.Ytpcfgoadkfajfaa.pack es' :: e :: L') := h.perm (List.Perm.swap _ _ _)
  have h3 : SL w0 O w (es ++ L') := h1.unpack.perm (by
    refine List.perm_middle.trans ?_
    rw [← List.cons_append]
    exact (he.symm).append_right _)
  exact h3.pack
/-- What the groups are in the end. -/
structure Grouped (R : Nd → Nd) (all : List Int) (gs : List (List Int)) : Prop where
  ne : ∀ g ∈ gs, g ≠ []
  one : ∀ g ∈ gs, ∀ x ∈ g, x ∈ all
  has : ∀ x ∈ all, ∃ g ∈ gs, x ∈ g
  same : ∀ g ∈ gs, ∀ h ∈ gs, ∀ x ∈ g, ∀ y ∈ h, (R (false, x) = R (false, y) ↔ g = h)
theorem GrpOk.grouped (h : GrpOk R done gs kv) : Grouped R done (gs.map Prod.snd) := by
  have hat : ∀ g ∈ gs.map Prod.snd, ∃ (j : Nat) (g' : Gp), gs[j]? = some g' ∧ g'.2 = g := by
    intro g hg
    obtain ⟨g', h1, rfl⟩ := List.mem_map.1 hg
    obtain ⟨j, hj⟩ := List.mem_iff_getElem?.1 h1
    exact ⟨j, g', hj, rfl⟩
  refine ⟨fun g hg => ?_, fun g hg x hx => ?_, fun x hx => ?_, fun g hg k hk x hx y hy => ?_⟩
  · obtain ⟨j, g', h1, rfl⟩ := hat g hg; exact (h.at_ _ _ h1).1
  · obtain ⟨j, g', h1, rfl⟩ := hat g hg; exact ((h.at_ _ _ h1).2 x hx).1
  · obtain ⟨j, g, h1, h2⟩ := h.has x hx
    exact ⟨g.2, List.mem_map.2 ⟨g, List.mem_of_getElem? h1, rfl⟩, h2⟩
  · obtain ⟨i, g', h1, rfl⟩ := hat g hg
    obtain ⟨j, k', h2, rfl⟩ := hat k hk
    have e1 := ((h.at_ _ _ h1).2 x hx).2
    have e2 := ((h.at_ _ _ h2).2 y hy).2
    constructor
    · intro e
      rw [e, e2] at e1
      have : j = i := by have := Option.some.inj e1; omega
      subst this
      rw [h1] at h2
      rw [Option.some.inj h2]
    · intro e
      rw [← e] at hy
      exact h.inj _ _ _ e1 ((h.at_ _ _ h1).2 y hy).2
end Go.Proofs.Ytpcfgoadkfajfaa
namespace Go.Proofs.Ytpcfgoadkfajfaa
set_option linter.all false
open Go Go.RowKit
set_option maxRecDepth 100000
theorem one_74 : One Try.prog 74 := ⟨_, Try.underlying74, rfl⟩
theorem one_118 : One Try.prog 118 := ⟨_, Try.underlying118, rfl⟩
theorem kmapt_118 : KMapT Try.prog keyB 118 (.int .i64 0) := ⟨_, _, (Try.prog.info? 3).get!, Try.underlying118, (keyOk_boolInt Try.underlying77 (by kernel_rfl) (by decide) (by decide) Try.underlying4 Try.underlying3 rfl rfl), by kernel_rfl, by kernel_rfl⟩
theorem one_109 : One Try.prog 109 := ⟨_, Try.underlying109, rfl⟩
theorem slb_109 : SlB Try.prog 109 36 1 24 (.slice none 0 0) := ⟨Try.underlying109, ⟨(Try.prog.info? 36).get!, by kernel_rfl, by kernel_rfl, by kernel_rfl, by kernel_rfl⟩, by decide, by decide⟩
theorem szt_109 : SzT Try.prog 109 1 := ⟨(Try.prog.info? 109).get!, by kernel_rfl, by kernel_rfl⟩
theorem slt_109 : SlT Try.prog 109 36 1 := ⟨(Try.prog.info? 36).get!, Try.underlying109, by kernel_rfl, by kernel_rfl⟩
theorem gp_set_last (gs : List Gp) (A : Option Addr) (c : Nat) (a : Int) : (List.map gpC (gs ++ [((none, 0), [])])).set gs.length #[.slice A 1 c] = List.map gpC (gs ++ [((A, c), [a])]) := by
  rw [List.map_append, List.map_append, List.set_append_right _ _ (by simp)]
  simp
theorem gp_set (gs : List Gp) (j : Nat) (A : Option Addr) (c : Nat) (ys : List Int) : (List.map gpC gs).set j #[.slice A ys.length c] = List.map gpC (gs.set j ((A, c), ys)) := by rw [List.map_set]
set_option maxRecDepth 100000 in
theorem w_clusters1 {w : World} {gc gm g3 g4 g5 gat : Nat} {rk : Nd → Nat} {Ao A1 A2 : Option Addr} {co c1 c2 : Nat} (E : List (Int × Int)) (a : Int) (p : List (Nd × Nd)) (gs : List Gp) (kv : List (Nd × Int)) (done xs ds : List Int) (hF : Forest p (rep E) rk) (hG : GrpOk (rep E) done gs kv) (hd : done.length ≤ 1000000) (hs : SL w (List.flatMap Ent.blocks [pack (List.map gpE gs), .row Ao co 36 1 (List.map gpC gs), .blk g5 (.cells (#[.slice Ao (List.length (gs : List Gp)) co]) 109 (0, 0)), kmap keyB (fun x : Int => Value.int .i64 x) gat kv, .blk g4 (.cells (#[.map (some gat)]) 118 (0, 0)), kmap keyB keyB gm p, .blk gc (.cells (#[.map (some gm), .slice A1 (List.length (xs : List Int)) c1, .slice A2 (List.length (ds : List Int)) c2]) 83 (0, 0)), .blk g3 (.cells (#[.pointer (some ⟨gc, 0, none⟩)]) 74 (0, 0))]) w [pack (List.map gpE gs), .row Ao co 36 1 (List.map gpC gs), .blk g5 (.cells (#[.slice Ao (List.length (gs : List Gp)) co]) 109 (0, 0)), kmap keyB (fun x : Int => Value.int .i64 x) gat kv, .blk g4 (.cells (#[.map (some gat)]) 118 (0, 0)), kmap keyB keyB gm p, .blk gc (.cells (#[.map (some gm), .slice A1 (List.length (xs : List Int)) c1, .slice A2 (List.length (ds : List Int)) c2]) 83 (0, 0)), .blk g3 (.cells (#[.pointer (some ⟨gc, 0, none⟩)]) 74 (0, 0))]) :
    Calls Try.prog 71 #[.int .i64 a, .pointer (some ⟨g3, 0, none⟩), .pointer (some ⟨g4, 0, none⟩), .pointer (some ⟨g5, 0, none⟩)] w (fun e w' => ∃ z : List (Nd × Nd) × (Option Addr × Nat) × List Gp × List (Nd × Int), (Forest z.1 (rep E) rk ∧ GrpOk (rep E) (done ++ [a]) z.2.2.1 z.2.2.2) ∧ e = .returned (.tuple #[]) ∧ SL w (List.flatMap Ent.blocks [pack (List.map gpE gs), .row Ao co 36 1 (List.map gpC gs), .blk g5 (.cells (#[.slice Ao (List.length (gs : List Gp)) co]) 109 (0, 0)), kmap keyB (fun x : Int => Value.int .i64 x) gat kv, .blk g4 (.cells (#[.map (some gat)]) 118 (0, 0)), kmap keyB keyB gm p, .blk gc (.cells (#[.map (some gm), .slice A1 (List.length (xs : List Int)) c1, .slice A2 (List.length (ds : List Int)) c2]) 83 (0, 0)), .blk g3 (.cells (#[.pointer (some ⟨gc, 0, none⟩)]) 74 (0, 0))]) w' [pack (List.map gpE z.2.2.1), .row z.2.1.1 z.2.1.2 36 1 (List.map gpC z.2.2.1), .blk g5 (.cells (#[.slice z.2.1.1 (List.length (z.2.2.1 : List Gp)) z.2.1.2]) 109 (0, 0)), kmap keyB (fun x : Int => Value.int .i64 x) gat z.2.2.2, .blk g4 (.cells (#[.map (some gat)]) 118 (0, 0)), kmap keyB keyB gm z.1, .blk gc (.cells (#[.map (some gm), .slice A1 (List.length (xs : List Int)) c1, .slice A2 (List.length (ds : List Int)) c2]) 83 (0, 0)), .blk g3 (.cells (#[.pointer (some ⟨gc, 0, none⟩)]) 74 (0, 0))]) := by
  refine calls_of_CX (O := (List.flatMap Ent.blocks [pack (List.map gpE gs), .row Ao co 36 1 (List.map gpC gs), .blk g5 (.cells (#[.slice Ao (List.length (gs : List Gp)) co]) 109 (0, 0)), kmap keyB (fun x : Int => Value.int .i64 x) gat kv, .blk g4 (.cells (#[.map (some gat)]) 118 (0, 0)), kmap keyB keyB gm p, .blk gc (.cells (#[.map (some gm), .slice A1 (List.length (xs : List Int)) c1, .slice A2 (List.length (ds : List Int)) c2]) 83 (0, 0)), .blk g3 (.cells (#[.pointer (some ⟨gc, 0, none⟩)]) 74 (0, 0))])) (L := [pack (List.map gpE gs), .row Ao co 36 1 (List.map gpC gs), .blk g5 (.cells (#[.slice Ao (List.length (gs : List Gp)) co]) 109 (0, 0)), kmap keyB (fun x : Int => Value.int .i64 x) gat kv, .blk g4 (.cells (#[.map (some gat)]) 118 (0, 0)), kmap keyB keyB gm p, .blk gc (.cells (#[.map (some gm), .slice A1 (List.length (xs : List Int)) c1, .slice A2 (List.length (ds : List Int)) c2]) 83 (0, 0)), .blk g3 (.cells (#[.pointer (some ⟨gc, 0, none⟩)]) 74 (0, 0))]) (args := [.int .i64 a, .pointer (some ⟨g3, 0, none⟩), .pointer (some ⟨g4, 0, none⟩), .pointer (some ⟨g5, 0, none⟩)]) Try.func71 rfl (by simp [Try.ntmps71]) hs ?_
  refine CX.sub (V' := [(0, .int .i64 a), (1, .pointer (some ⟨g3, 0, none⟩)), (2, .pointer (some ⟨g4, 0, none⟩)), (3, .pointer (some ⟨g5, 0, none⟩))]) ⟨rfl, rfl, rfl, rfl, trivial⟩ ?_
  refine CX.seq ?_
  refine CX.region ?_
  refine RX.cons rfl rfl (op_yld (y_load (i := 7) rfl rfl one_74 rfl rfl) rfl rfl ?_)
  refine RX.cons rfl rfl (op_w (yw_nilCheck rfl rfl) rfl rfl ?_)
  refine RX.cons rfl rfl (op_w (yw_field0 rfl fld_83_0 rfl) rfl rfl ?_)
  refine RX.cons rfl rfl (op_yld (y_loadP (i := 6) (vs := #[.map (some gm)]) rfl rfl agg_81 rfl rfl (fun k hk => by match k, hk with | 0, _ => rfl)) rfl rfl ?_)
  refine RX.cons rfl rfl (op_w (yw_move rfl rfl) rfl rfl ?_)
  refine RX.cons rfl rfl (op_w (yw_build (v := .agg (#[.bool false, .int .i64 a])) rfl rfl (fun _ => by kernel_rfl)) rfl rfl ?_)
  refine RX.cons rfl rfl (op_callP [kmap keyB keyB gm p] [pack (List.map gpE gs), .row Ao co 36 1 (List.map gpC gs), .blk g5 (.cells (#[.slice Ao (List.length (gs : List Gp)) co]) 109 (0, 0)), kmap keyB (fun x : Int => Value.int .i64 x) gat kv, .blk g4 (.cells (#[.map (some gat)]) 118 (0, 0)), .blk gc (.cells (#[.map (some gm), .slice A1 (List.length (xs : List Int)) c1, .slice A2 (List.length (ds : List Int)) c2]) 83 (0, 0)), .blk g3 (.cells (#[.pointer (some ⟨gc, 0, none⟩)]) 74 (0, 0))] rfl rfl rfl rfl rfl ent_43 ((perm_pick 5 rfl).trans (List.Perm.cons _ (List.Perm.refl _))) (σ := List (Nd × Nd)) (val := fun _ => keyB (rep E (false, a))) (LL := fun p' => [kmap keyB keyB gm p']) (post := fun p' => Forest p' (rep E) rk) (fun w hw hs => w_find (false, a) p hF hs) (fun p1 hp1 => ?_))
  refine RX.cons rfl rfl (op_alloc rfl rfl rfl zero_77 fun g7 => ?_)
  refine RX.cons rfl rfl (op_storeAll (i := 0) rfl rfl rfl rfl szt_77 rfl (plain_of rfl) rfl rfl ?_)
  refine RX.nil (XX.next (V' := [(0, _), (2, _), (3, _), (5, _)]) ⟨rfl, rfl, rfl, rfl, trivial⟩ ?_)
  refine CX.seq ?_
  rcases hk : kget (rep E (false, a)) kv with _ | i
  · have hgl := hG.len
    refine CX.region ?_
    refine RX.cons rfl rfl (op_yld (y_load (i := 6) rfl rfl one_118 rfl rfl) rfl rfl ?_)
    refine RX.cons rfl rfl (op_yld (y_loadA (i := 0) rfl rfl agg_77 rfl rfl) rfl rfl ?_)
    refine RX.cons rfl rfl (op_yld (y_klookupOk (i := 5) (k := (rep E (false, a))) (kv := kv) (encK := keyB) (encV := (fun x : Int => Value.int .i64 x)) rfl rfl rfl kmapt_118 rfl) rfl rfl ?_)
    refine RX.know (t := 18) (u := .tuple #[.int .i64 0, .bool false]) rfl (by rw [hk]; rfl) ?_
    refine RX.cons rfl rfl (op_w (yw_move rfl rfl) rfl rfl ?_)
    refine RX.cons rfl rfl (op_w (yw_extract rfl rfl rfl) rfl rfl ?_)
    refine RX.cons rfl rfl (op_w (yw_extract rfl rfl rfl) rfl rfl ?_)
    refine RX.cons rfl rfl (op_w (yw_assign rfl rfl) rfl rfl ?_)
    refine RX.cons rfl rfl (op_w (yw_assign rfl rfl) rfl rfl ?_)
    refine RX.nil (XX.next (V' := [(0, _), (2, _), (3, _), (5, _), (6, _), (7, _)]) ⟨rfl, rfl, rfl, rfl, rfl, rfl, trivial⟩ ?_)
    refine CX.seq ?_
    refine CX.seq ?_
    refine CX.region ?_
    refine RX.cons rfl rfl (op_w (yw_move rfl rfl) rfl rfl ?_)
    refine RX.cons rfl rfl (op_w (yw_not rfl rfl) rfl rfl ?_)
    refine RX.nil (XX.next (V' := [(0, _), (2, _), (3, _), (5, _), (6, _), (22, _)]) ⟨rfl, rfl, rfl, rfl, rfl, rfl, trivial⟩ ?_)
    refine CX.condT rfl ?_
    refine CX.seq ?_
    refine CX.region ?_
    refine RX.cons rfl rfl (op_yld (y_load (i := 4) rfl rfl one_109 rfl rfl) rfl rfl ?_)
    refine RX.cons rfl rfl (op_w (yw_lenS rfl Try.underlying109 rfl) rfl rfl ?_)
    refine RX.cons rfl rfl (op_w (yw_assign rfl rfl) rfl rfl ?_)
    refine RX.nil (XX.next (V' := [(0, _), (2, _), (3, _), (5, _), (6, _)]) ⟨rfl, rfl, rfl, rfl, rfl, trivial⟩ ?_)
    refine CX.seq ?_
    refine CX.region ?_
    refine RX.cons rfl rfl (op_yld (y_load (i := 6) rfl rfl one_118 rfl rfl) rfl rfl ?_)
    refine RX.cons rfl rfl (op_yld (y_loadA (i := 0) rfl rfl agg_77 rfl rfl) rfl rfl ?_)
    refine RX.cons rfl rfl (op_w (yw_move rfl rfl) rfl rfl ?_)
    refine RX.cons rfl rfl (op_kupdate (i := 5) (k := (rep E (false, a))) (u := ((gs.length : Nat) : Int)) (kv := kv) (encK := keyB) (encV := (fun x : Int => Value.int .i64 x)) (.inl rfl) rfl rfl rfl rfl kmapt_118 rfl ?_)
    refine RX.nil (XX.next (V' := [(0, _), (3, _), (6, _)]) ⟨rfl, rfl, rfl, trivial⟩ ?_)
    refine CX.region ?_
    refine RX.cons rfl rfl (op_yld (y_load (i := 4) rfl rfl one_109 rfl rfl) rfl rfl ?_)
    refine RX.cons rfl rfl (op_buildSlice rfl rfl rfl slb_109 rfl rfl (by intro v hv; simp only [List.mem_cons, List.not_mem_nil, or_false] at hv; subst hv; exact ⟨rfl, (plain_of rfl)⟩) (by decide) fun g8 => ?_)
    refine RX.cons rfl rfl (op_appendM gpC (i := 4) (j := 0) (xs := gs) ([((none, 0), [])]) rfl rfl rfl slb_109 rfl rfl rfl rfl rfl rfl (by simp; omega) (by simp; omega) fun A7 c7 => ?_)
    refine RX.cons rfl rfl (op_storeAll (i := 5) rfl rfl rfl rfl szt_109 rfl (plain_of rfl) rfl rfl ?_)
    refine RX.nil (XX.next (V' := [(0, _), (3, _), (6, _)]) ⟨rfl, rfl, rfl, trivial⟩ ?_)
    refine CX.rowNil 3 1 ?_
    refine CX.rowSome 5 rfl (by simp <;> omega) (fun hAo => ?_)
    refine CX.drawL 10 ([kmap keyB keyB gm p1, pack (List.map gpE gs), .row A7 c7 36 1 (List.map gpC (gs ++ [((none, 0), [])])), .blk g5 (.cells (#[.slice A7 ((gs ++ [((none, 0), [])]).length) c7]) 109 (0, 0)), kmap keyB (fun x : Int => Value.int .i64 x) gat (kset (rep E (false, a)) ((gs.length : Nat) : Int) kv), .blk g4 (.cells (#[.map (some gat)]) 118 (0, 0)), .blk gc (.cells (#[.map (some gm), .slice A1 (List.length (xs : List Int)) c1, .slice A2 (List.length (ds : List Int)) c2]) 83 (0, 0)), .blk g3 (.cells (#[.pointer (some ⟨gc, 0, none⟩)]) 74 (0, 0))]) [(0, 8, 2147483648), (0, 64, 4294967296), (0, 8, 8589934592), (0, 64, 17179869184), (12, 25769803776, 34359738368), (16, 34359738368, 68719476736), (0, 1, 137438953472), (64, 137438953472, 274877906944), (160, 343597383680, 549755813888), (511, 6442450944, 1099511627776), (1023, 1649267441664, 0)] (by kernel_rfl) (by kernel_rfl) (by kernel_rfl) ?_
    refine DX.take 0 1 (by kernel_rfl) rfl rfl rfl rfl rfl (List.Sublist.cons _ (List.Sublist.cons _ (List.Sublist.cons _ (List.Sublist.refl _)))) (y_load (i := 3) rfl rfl one_109 rfl rfl) ?_
    refine DX.takeW 1 3 (by kernel_rfl) rfl rfl rfl rfl rfl (yw_move rfl rfl) ?_
    refine DX.take 2 7 (by kernel_rfl) rfl rfl rfl rfl rfl (List.Sublist.cons _ (List.Sublist.cons _ (List.Sublist.cons _ (List.Sublist.refl _)))) (y_load (i := 3) rfl rfl one_109 rfl rfl) ?_
    refine DX.takeW 3 15 (by kernel_rfl) rfl rfl rfl rfl rfl (yw_move rfl rfl) ?_
    refine DX.takeW 4 31 (by kernel_rfl) rfl rfl rfl rfl rfl (yw_index (k := gs.length) rfl slt_109 rfl rfl (by omega) (by rw [List.length_append, List.length_singleton]; omega) hAo) ?_
    refine DX.take 5 63 (by kernel_rfl) rfl rfl rfl rfl rfl (List.Sublist.cons _ (List.Sublist.cons _ (List.Sublist.cons _ (List.Sublist.refl _)))) (y_rowElem1 (i := 2) rfl rfl one_36 rfl (map_get (l := gs ++ [((none, 0), [])]) (x := ((none, 0), [])) (by simp))) ?_
    refine DX.takeW 6 127 (by kernel_rfl) rfl rfl rfl rfl rfl (yw_move rfl rfl) ?_
    refine DX.step 7 255 (by kernel_rfl) rfl rfl rfl (op_buildSlice rfl rfl rfl slb_36 rfl rfl (by intro v hv; simp only [List.mem_cons, List.not_mem_nil, or_false] at hv; subst hv; exact ⟨rfl, (plain_of rfl)⟩) (by decide) fun g9 => (DXs.mk (List.Sublist.cons _ (List.Sublist.cons _ (List.Sublist.cons _ (List.Sublist.cons _ (List.Sublist.refl _))))) ?_))
    refine DX.step 8 511 (by kernel_rfl) rfl rfl rfl (op_appendM iR (i := 1) (j := 0) (xs := ([] : List Int)) ([a]) rfl rfl rfl slb_36 rfl rfl rfl rfl rfl rfl (by simp <;> omega) (by simp <;> omega) fun A6 c6 => (DXs.mk (List.Sublist.cons _ (List.Sublist.cons _ (List.Sublist.cons _ (List.Sublist.cons _ (List.Sublist.refl _))))) ?_))
    refine DX.takeW 9 1023 (by kernel_rfl) rfl rfl rfl rfl rfl (yw_index (k := gs.length) rfl slt_109 rfl rfl (by omega) (by rw [List.length_append, List.length_singleton]; omega) hAo) ?_
    refine DX.stepT 10 2047 (by kernel_rfl) rfl rfl rfl rfl (op_storeElemE (i := 6) (k := gs.length) (ys := List.map gpC (gs ++ [((A6, c6), [a])])) rfl rfl rfl rfl szt_36 rfl (plain_of rfl) rfl (by simp) (gp_set_last gs A6 c6 a) ?_)
    refine DX.done (by kernel_rfl) ?_
    exact end_none rfl fun w1 hw => ⟨(p1, (A7, c7), gs ++ [((A6, c6), [a])], kset (rep E (false, a)) ((gs.length : Nat) : Int) kv), ⟨hp1, hG.new hk (A6, c6)⟩, rfl, by dsimp only; rw [show (gs ++ [(((A6, c6), [a]) : Gp)]).length = (gs ++ [((none, 0), [])]).length from by simp]; exact SL.packIn (hw.pick ((perm_pick 1 rfl).trans (List.Perm.cons _ ((perm_pick 4 rfl).trans (List.Perm.cons _ ((perm_pick 4 rfl).trans (List.Perm.cons _ ((perm_pick 4 rfl).trans (List.Perm.cons _ ((perm_pick 4 rfl).trans (List.Perm.cons _ ((perm_pick 4 rfl).trans (List.Perm.cons _ ((perm_pick 3 rfl).trans (List.Perm.cons _ ((perm_pick 3 rfl).trans (List.Perm.cons _ ((perm_pick 3 rfl).trans (List.Perm.cons _ (List.Perm.refl _)))))))))))))))))))) (gpE_snoc gs ((A6, c6), [a]))⟩
  · obtain ⟨j, rfl, hj⟩ := hG.idx _ _ hk
    obtain ⟨⟨⟨A5, c5⟩, ys⟩, hg⟩ := get_some (l := gs) (k := j) hj
    have hyl := hG.lens _ (List.mem_of_getElem? hg)
    dsimp only at hyl
    have hgl := hG.len
    refine CX.region ?_
    refine RX.cons rfl rfl (op_yld (y_load (i := 6) rfl rfl one_118 rfl rfl) rfl rfl ?_)
    refine RX.cons rfl rfl (op_yld (y_loadA (i := 0) rfl rfl agg_77 rfl rfl) rfl rfl ?_)
    refine RX.cons rfl rfl (op_yld (y_klookupOk (i := 5) (k := (rep E (false, a))) (kv := kv) (encK := keyB) (encV := (fun x : Int => Value.int .i64 x)) rfl rfl rfl kmapt_118 rfl) rfl rfl ?_)
    refine RX.know (t := 18) (u := .tuple #[.int .i64 ((j : Nat) : Int), .bool true]) rfl (by rw [hk]; rfl) ?_
    refine RX.cons rfl rfl (op_w (yw_move rfl rfl) rfl rfl ?_)
    refine RX.cons rfl rfl (op_w (yw_extract rfl rfl rfl) rfl rfl ?_)
    refine RX.cons rfl rfl (op_w (yw_extract rfl rfl rfl) rfl rfl ?_)
    refine RX.cons rfl rfl (op_w (yw_assign rfl rfl) rfl rfl ?_)
    refine RX.cons rfl rfl (op_w (yw_assign rfl rfl) rfl rfl ?_)
    refine RX.nil (XX.next (V' := [(0, _), (2, _), (3, _), (5, _), (6, _), (7, _)]) ⟨rfl, rfl, rfl, rfl, rfl, rfl, trivial⟩ ?_)
    refine CX.seq ?_
    refine CX.seq ?_
    refine CX.region ?_
    refine RX.cons rfl rfl (op_w (yw_move rfl rfl) rfl rfl ?_)
    refine RX.cons rfl rfl (op_w (yw_not rfl rfl) rfl rfl ?_)
    refine RX.nil (XX.next (V' := [(0, _), (2, _), (3, _), (5, _), (6, _), (22, _)]) ⟨rfl, rfl, rfl, rfl, rfl, rfl, trivial⟩ ?_)
    refine CX.condF rfl ?_
    refine CX.skip (XX.next (V' := [(0, _), (3, _), (6, _)]) ⟨rfl, rfl, rfl, trivial⟩ ?_)
    refine CX.packOut (e := .row A5 c5 3 1 (List.map iR ys)) (L' := [.blk g7 (.cells (#[Value.bool (Prod.fst (rep E (false, a))), Value.int .i64 (Prod.snd (rep E (false, a)))]) 77 (0, 0)), kmap keyB keyB gm p1, .row Ao co 36 1 (List.map gpC gs), .blk g5 (.cells (#[.slice Ao (List.length (gs : List Gp)) co]) 109 (0, 0)), kmap keyB (fun x : Int => Value.int .i64 x) gat kv, .blk g4 (.cells (#[.map (some gat)]) 118 (0, 0)), .blk gc (.cells (#[.map (some gm), .slice A1 (List.length (xs : List Int)) c1, .slice A2 (List.length (ds : List Int)) c2]) 83 (0, 0)), .blk g3 (.cells (#[.pointer (some ⟨gc, 0, none⟩)]) 74 (0, 0))]) ((perm_pick 2 rfl).trans (List.Perm.cons _ (List.Perm.refl _))) (gpE_out hg) ?_
    refine CX.rowSome 4 rfl (by simp <;> omega) (fun hAo => ?_)
    refine CX.drawL 10 ([pack (List.map gpE (gs.eraseIdx j)), kmap keyB keyB gm p1, .row Ao co 36 1 (List.map gpC gs), .blk g5 (.cells (#[.slice Ao (List.length (gs : List Gp)) co]) 109 (0, 0)), kmap keyB (fun x : Int => Value.int .i64 x) gat kv, .blk g4 (.cells (#[.map (some gat)]) 118 (0, 0)), .blk gc (.cells (#[.map (some gm), .slice A1 (List.length (xs : List Int)) c1, .slice A2 (List.length (ds : List Int)) c2]) 83 (0, 0)), .blk g3 (.cells (#[.pointer (some ⟨gc, 0, none⟩)]) 74 (0, 0))]) [(0, 8, 2147483648), (0, 64, 4294967296), (0, 8, 8589934592), (0, 64, 17179869184), (12, 25769803776, 34359738368), (16, 34359738368, 68719476736), (0, 1, 137438953472), (64, 137438953472, 274877906944), (160, 343597383680, 549755813888), (511, 6442450944, 1099511627776), (1023, 1649267441664, 0)] (by kernel_rfl) (by kernel_rfl) (by kernel_rfl) ?_
    refine DX.take 0 1 (by kernel_rfl) rfl rfl rfl rfl rfl (List.Sublist.cons _ (List.Sublist.cons_cons _ (List.Sublist.cons _ (List.Sublist.refl _)))) (y_load (i := 3) rfl rfl one_109 rfl rfl) ?_
    refine DX.takeW 1 3 (by kernel_rfl) rfl rfl rfl rfl rfl (yw_move rfl rfl) ?_
    refine DX.take 2 7 (by kernel_rfl) rfl rfl rfl rfl rfl (List.Sublist.cons _ (List.Sublist.cons_cons _ (List.Sublist.cons _ (List.Sublist.refl _)))) (y_load (i := 3) rfl rfl one_109 rfl rfl) ?_
    refine DX.takeW 3 15 (by kernel_rfl) rfl rfl rfl rfl rfl (yw_move rfl rfl) ?_
    refine DX.takeW 4 31 (by kernel_rfl) rfl rfl rfl rfl rfl (yw_index (k := j) rfl slt_109 rfl rfl (by omega) (by omega) hAo) ?_
    refine DX.take 5 63 (by kernel_rfl) rfl rfl rfl rfl rfl (List.Sublist.cons _ (List.Sublist.cons_cons _ (List.Sublist.cons _ (List.Sublist.refl _)))) (y_rowElem1 (i := 2) rfl rfl one_36 rfl (map_get hg)) ?_
    refine DX.takeW 6 127 (by kernel_rfl) rfl rfl rfl rfl rfl (yw_move rfl rfl) ?_
    refine DX.step 7 255 (by kernel_rfl) rfl rfl rfl (op_buildSlice rfl rfl rfl slb_36 rfl rfl (by intro v hv; simp only [List.mem_cons, List.not_mem_nil, or_false] at hv; subst hv; exact ⟨rfl, (plain_of rfl)⟩) (by decide) fun g9 => (DXs.mk (List.Sublist.cons _ (List.Sublist.cons _ (List.Sublist.cons_cons _ (List.Sublist.cons _ (List.Sublist.refl _))))) ?_))
    refine DX.step 8 511 (by kernel_rfl) rfl rfl rfl (op_appendM iR (i := 1) (j := 0) (xs := ys) ([a]) rfl rfl rfl slb_36 rfl rfl rfl rfl rfl rfl (by simp <;> omega) (by simp <;> omega) fun A6 c6 => (DXs.mk (List.Sublist.cons _ (List.Sublist.cons _ (List.Sublist.cons_cons _ (List.Sublist.cons _ (List.Sublist.refl _))))) ?_))
    refine DX.takeW 9 1023 (by kernel_rfl) rfl rfl rfl rfl rfl (yw_index (k := j) rfl slt_109 rfl rfl (by omega) (by omega) hAo) ?_
    refine DX.stepT 10 2047 (by kernel_rfl) rfl rfl rfl rfl (op_storeElemE (i := 5) (k := j) (ys := List.map gpC (gs.set j ((A6, c6), ys ++ [a]))) rfl rfl rfl rfl szt_36 rfl (plain_of rfl) rfl (by simp; omega) (gp_set gs j A6 c6 (ys ++ [a])) ?_)
    refine DX.done (by kernel_rfl) ?_
    exact end_none rfl fun w1 hw => ⟨(p1, (Ao, co), gs.set j ((A6, c6), ys ++ [a]), kv), ⟨hp1, hG.old hk hg (A6, c6)⟩, rfl, by dsimp only; rw [List.length_set]; exact SL.packIn (hw.pick ((perm_pick 1 rfl).trans (List.Perm.cons _ ((perm_pick 1 rfl).trans (List.Perm.cons _ ((perm_pick 3 rfl).trans (List.Perm.cons _ ((perm_pick 3 rfl).trans (List.Perm.cons _ ((perm_pick 3 rfl).trans (List.Perm.cons _ ((perm_pick 3 rfl).trans (List.Perm.cons _ ((perm_pick 2 rfl).trans (List.Perm.cons _ ((perm_pick 2 rfl).trans (List.Perm.cons _ ((perm_pick 2 rfl).trans (List.Perm.cons _ (List.Perm.refl _)))))))))))))))))))) (gpE_in ((A6, c6), ys ++ [a]) hg)⟩

end Go.Proofs.Ytpcfgoadkfajfaa
namespace Go.Proofs.Ytpcfgoadkfajfaa
set_option linter.all false
theorem mem_compact (zs : List Int) (x : Int) : x ∈ Lib.compact zs ↔ x ∈ zs := by
  unfold Lib.compact Lib.compactUpTo
  rw [List.mem_map]
  constructor
  · rintro ⟨j, hj, rfl⟩
    have hlt : j < zs.length := List.mem_range.1 (List.mem_filter.1 hj).1
    have : zs.toArray[j]! = zs[j] := by simp [hlt]
    rw [this]; exact List.getElem_mem hlt
  · intro hx
    obtain ⟨j, hj⟩ := List.mem_iff_getElem?.1 hx
    have H : ∀ (n j : Nat), j ≤ n → ∀ x, zs[j]? = some x → ∃ a, a ∈ List.filter (Lib.keeps zs.toArray) (List.range zs.length) ∧ zs.toArray[a]! = x := by
      intro n
      induction n with
      | zero =>
        intro j hjn x hx
        have : j = 0 := by omega
        subst this
        have hlt := (List.getElem?_eq_some_iff.1 hx).1
        exact ⟨0, List.mem_filter.2 ⟨List.mem_range.2 hlt, Lib.keeps_lt_one _ 0 (by omega)⟩, by have := (List.getElem?_eq_some_iff.1 hx).2; simp [hlt, this]⟩
      | succ n ih =>
        intro j hjn x hx
        have hlt := (List.getElem?_eq_some_iff.1 hx).1
        have hv : zs.toArray[j]! = x := by have := (List.getElem?_eq_some_iff.1 hx).2; simp [hlt, this]
        cases hk : Lib.keeps zs.toArray j with
        | true => exact ⟨j, List.mem_filter.2 ⟨List.mem_range.2 hlt, hk⟩, hv⟩
        | false =>
          have hj0 : 0 < j := by
            rcases Nat.eq_zero_or_pos j with e | e
            · rw [Lib.keeps_lt_one _ j (by omega)] at hk; cases hk
            · exact e
          have he : zs.toArray[j]! = zs.toArray[j - 1]! := by
            by_cases e : zs.toArray[j]! = zs.toArray[j - 1]!
            · exact e
            · rw [Lib.keeps_pos e] at hk; cases hk
          refine ih (j - 1) (by omega) x ?_
          rw [List.getElem?_eq_getElem (by omega)]
          rw [hv] at he
          rw [he]; simp [show j - 1 < zs.length by omega]
    exact H j j (Nat.le_refl _) x hj
theorem mem_uniq (xs : List Int) (x : Int) : x ∈ uniq xs ↔ x ∈ xs := by
  unfold uniq isort
  rw [mem_compact, List.mem_mergeSort]
theorem uniq_length (xs : List Int) : (uniq xs).length ≤ xs.length := by
  have h1 := Lib.compact_length_le (isort xs)
  have h2 : (isort xs).length = xs.length := List.length_mergeSort xs
  unfold uniq; omega
end Go.Proofs.Ytpcfgoadkfajfaa
namespace Go.Proofs.Ytpcfgoadkfajfaa
set_option linter.all false
open Go Go.RowKit
set_option maxRecDepth 100000
theorem zero_74 : Zero Try.prog 74 (.pointer none) := ⟨(Try.prog.info? 74).get!, by kernel_rfl, by kernel_rfl⟩
theorem szt_74 : SzT Try.prog 74 1 := ⟨(Try.prog.info? 74).get!, by kernel_rfl, by kernel_rfl⟩
theorem zero_118 : Zero Try.prog 118 (.map none) := ⟨(Try.prog.info? 118).get!, by kernel_rfl, by kernel_rfl⟩
theorem szt_118 : SzT Try.prog 118 1 := ⟨(Try.prog.info? 118).get!, by kernel_rfl, by kernel_rfl⟩
theorem zero_109 : Zero Try.prog 109 (.slice none 0 0) := ⟨(Try.prog.info? 109).get!, by kernel_rfl, by kernel_rfl⟩
theorem ent_71 : ∀ args w, (callFunc 71 args).run Try.prog w = .ok (.enter 71 args) w := enters_of Try.func71 (by kernel_rfl) rfl
set_option maxRecDepth 100000 in
theorem w_clusters {w : World} {A : Option Addr} {cap : Nat} (E : List (Int × Int)) (hr : Rd w A 2 (E.map edC)) (hl : E.length ≤ 1000000) :
    Calls Try.prog 61 #[.slice A E.length cap] w (fun e w' => ∃ z : (Option Addr × Nat) × List Gp, (Grouped (rep E) (uniq (List.map Prod.fst E)) (z.2.map Prod.snd) ∧ z.2.length ≤ E.length ∧ ∀ g ∈ z.2, g.2.length ≤ E.length) ∧ e = .returned (.slice z.1.1 z.2.length z.1.2) ∧ SL w [] w' [pack (List.map gpE z.2), .row z.1.1 z.1.2 36 1 (List.map gpC z.2)]) := by
  refine calls_of_CX (O := []) (L := []) (args := [.slice A E.length cap]) Try.func61 rfl (by simp [Try.ntmps61]) (SL.refl w) ?_
  refine CX.sub (V' := [(0, .slice A E.length cap)]) ⟨rfl, trivial⟩ ?_
  refine CX.seq ?_
  refine CX.region ?_
  refine RX.cons rfl rfl (op_w (yw_assign rfl rfl) rfl rfl ?_)
  refine RX.nil (XX.next (V' := [(0, _)]) ⟨rfl, trivial⟩ ?_)
  refine CX.seq ?_
  refine CX.region ?_
  refine RX.cons rfl rfl (op_w (yw_move rfl rfl) rfl rfl ?_)
  refine RX.cons rfl rfl (op_callE rfl rfl rfl rfl rfl ent_42 (fun w hw => w_of E (hw.rd hr (by simp)) hl) (fun ⟨⟨⟨gc, gm⟩, p, rk⟩, ⟨A1, c1⟩, ⟨A2, c2⟩⟩ hF => ?_))
  refine RX.cons rfl rfl (op_alloc rfl rfl rfl zero_74 fun g3 => ?_)
  refine RX.cons rfl rfl (op_storeAll (i := 0) rfl rfl rfl rfl szt_74 rfl (plain_of rfl) rfl rfl ?_)
  refine RX.nil (XX.next (V' := [(3, _)]) ⟨rfl, trivial⟩ ?_)
  refine CX.seq ?_
  refine CX.region ?_
  refine RX.cons rfl rfl (op_kmake keyB (fun x : Int => Value.int .i64 x) rfl rfl rfl fun gat => ?_)
  refine RX.cons rfl rfl (op_alloc rfl rfl rfl zero_118 fun g4 => ?_)
  refine RX.cons rfl rfl (op_storeAll (i := 0) rfl rfl rfl rfl szt_118 rfl (plain_of rfl) rfl rfl ?_)
  refine RX.nil (XX.next (V' := [(3, _), (4, _)]) ⟨rfl, rfl, trivial⟩ ?_)
  refine CX.seq ?_
  refine CX.region ?_
  refine RX.cons rfl rfl (op_alloc rfl rfl rfl zero_109 fun g5 => ?_)
  refine RX.nil (XX.next (V' := [(3, _), (4, _), (5, _)]) ⟨rfl, rfl, rfl, trivial⟩ ?_)
  refine CX.seq ?_
  refine CX.region ?_
  refine RX.cons rfl rfl (op_w (yw_makeFunc rfl rfl rfl) rfl rfl ?_)
  refine RX.cons rfl rfl (op_w (yw_assign rfl rfl) rfl rfl ?_)
  refine RX.nil (XX.next (V' := [(3, _), (5, _), (6, _)]) ⟨rfl, rfl, rfl, trivial⟩ ?_)
  refine CX.seq ?_
  refine CX.seq ?_
  refine CX.rowNil 36 1 ?_
  refine CX.packNil ?_
  refine CX.perm (L' := [pack [], .row none 0 36 1 (List.map gpC ([])), .blk g5 (.cells (#[.slice none 0 0]) 109 (0, 0)), kmap keyB (fun x : Int => Value.int .i64 x) gat ([]), .blk g4 (.cells (#[.map (some gat)]) 118 (0, 0)), kmap keyB keyB gm p, .blk gc (.cells (#[.map (some gm), .slice A1 (List.length ((uniq (List.map Prod.fst E)) : List Int)) c1, .slice A2 (List.length ((uniq (List.map Prod.snd E)) : List Int)) c2]) 83 (0, 0)), .blk g3 (.cells (#[.pointer (some ⟨gc, 0, none⟩)]) 74 (0, 0)), .row A2 c2 3 1 (List.map iR (uniq (List.map Prod.snd E))), .row A1 c1 3 1 (List.map iR (uniq (List.map Prod.fst E)))]) ((perm_pick 0 rfl).trans (List.Perm.cons _ ((perm_pick 0 rfl).trans (List.Perm.cons _ ((perm_pick 0 rfl).trans (List.Perm.cons _ ((perm_pick 1 rfl).trans (List.Perm.cons _ ((perm_pick 0 rfl).trans (List.Perm.cons _ ((perm_pick 4 rfl).trans (List.Perm.cons _ ((perm_pick 3 rfl).trans (List.Perm.cons _ ((perm_pick 0 rfl).trans (List.Perm.cons _ ((perm_pick 0 rfl).trans (List.Perm.cons _ ((perm_pick 0 rfl).trans (List.Perm.cons _ (List.Perm.refl _))))))))))))))))))))) ?_
  refine CX.region ?_
  refine RX.cons rfl rfl (op_yld (y_load (i := 7) rfl rfl one_74 rfl rfl) rfl rfl ?_)
  refine RX.cons rfl rfl (op_w (yw_nilCheck rfl rfl) rfl rfl ?_)
  refine RX.cons rfl rfl (op_w (yw_fieldAddr rfl fld_83_1 rfl) rfl rfl ?_)
  refine RX.cons rfl rfl (op_yld (y_load (i := 6) rfl rfl one_36 rfl rfl) rfl rfl ?_)
  refine RX.cons rfl rfl (op_w (yw_lenS rfl Try.underlying36 rfl) rfl rfl ?_)
  refine RX.cons rfl rfl (op_w (yw_move rfl rfl) rfl rfl ?_)
  refine RX.nil (XX.next (V' := [(5, _), (6, _), (16, _), (17, _), (18, _)]) ⟨rfl, rfl, rfl, rfl, rfl, trivial⟩ ?_)
  refine CX.block ?_
  have huf : (uniq (List.map Prod.fst E)).length ≤ E.length := by have := uniq_length (List.map Prod.fst E); rwa [List.length_map] at this
  refine CX.loop (σ := Nat × List (Nd × Nd) × (Option Addr × Nat) × List Gp × List (Nd × Int)) (fun z => [(5, .pointer (some ⟨g5, 0, none⟩)), (6, .func (.func 71) #[] #[.pointer (some ⟨g3, 0, none⟩), .pointer (some ⟨g4, 0, none⟩), .pointer (some ⟨g5, 0, none⟩)]), (16, .slice A1 (List.length ((uniq (List.map Prod.fst E)) : List Int)) c1), (17, .int .i64 ((List.length ((uniq (List.map Prod.fst E)) : List Int) : Nat) : Int)), (18, .int .i64 ((z.1 : Nat) : Int))]) (fun z => [pack (List.map gpE z.2.2.2.1), .row z.2.2.1.1 z.2.2.1.2 36 1 (List.map gpC z.2.2.2.1), .blk g5 (.cells (#[.slice z.2.2.1.1 (List.length (z.2.2.2.1 : List Gp)) z.2.2.1.2]) 109 (0, 0)), kmap keyB (fun x : Int => Value.int .i64 x) gat z.2.2.2.2, .blk g4 (.cells (#[.map (some gat)]) 118 (0, 0)), kmap keyB keyB gm z.2.1, .blk gc (.cells (#[.map (some gm), .slice A1 (List.length ((uniq (List.map Prod.fst E)) : List Int)) c1, .slice A2 (List.length ((uniq (List.map Prod.snd E)) : List Int)) c2]) 83 (0, 0)), .blk g3 (.cells (#[.pointer (some ⟨gc, 0, none⟩)]) 74 (0, 0)), .row A2 c2 3 1 (List.map iR (uniq (List.map Prod.snd E))), .row A1 c1 3 1 (List.map iR (uniq (List.map Prod.fst E)))]) (fun z => z.1 ≤ (uniq (List.map Prod.fst E)).length ∧ Forest z.2.1 (rep E) rk ∧ GrpOk (rep E) (List.take z.1 (uniq (List.map Prod.fst E))) z.2.2.2.1 z.2.2.2.2) (fun z => (uniq (List.map Prod.fst E)).length - z.1) (0, p, (none, 0), [], []) ⟨Nat.zero_le _, hF, GrpOk.nil _⟩ ⟨rfl, rfl, rfl, rfl, rfl, trivial⟩ rfl (fun z hI => ?_)
  clear hF
  obtain ⟨k, p, ⟨Ao, co⟩, gs, kv⟩ := z
  dsimp only at hI ⊢
  obtain ⟨hk, hF, hG⟩ := hI
  refine CX.seq ?_
  refine CX.region ?_
  refine RX.cons rfl rfl (op_w (yw_lss rfl rfl rfl) rfl rfl ?_)
  refine RX.nil (XX.next (V' := [(5, _), (6, _), (16, _), (17, _), (18, _), (19, _)]) ⟨rfl, rfl, rfl, rfl, rfl, rfl, trivial⟩ ?_)
  refine CX.seq ?_
  refine CX.condD (p := ((k : Nat) : Int) < ((List.length ((uniq (List.map Prod.fst E)) : List Int) : Nat) : Int)) rfl (fun c19 => ?_) (fun c19 => ?_)
  · obtain ⟨x0, hx0⟩ := get_some (l := (uniq (List.map Prod.fst E))) (k := k) (by omega)
    have hx0m := List.mem_of_getElem? hx0
    refine CX.rowSome 9 rfl (by rw [List.length_map]; omega) (fun hA => ?_)
    refine CX.skip (XX.next (V' := [(5, _), (6, _), (16, _), (17, _), (18, _)]) ⟨rfl, rfl, rfl, rfl, rfl, trivial⟩ ?_)
    refine CX.seq ?_
    refine CX.block ?_
    refine CX.seq ?_
    refine CX.region ?_
    refine RX.cons rfl rfl (op_w (yw_index (k := k) rfl slt_36 rfl rfl (by omega) (by omega) hA) rfl rfl ?_)
    refine RX.cons rfl rfl (op_yld (y_rowElem1 (i := 9) rfl rfl one_3 rfl (map_get hx0)) rfl rfl ?_)
    refine RX.cons rfl rfl (op_w (yw_assign rfl rfl) rfl rfl ?_)
    refine RX.nil (XX.next (V' := [(5, _), (6, _), (8, _), (16, _), (17, _), (18, _)]) ⟨rfl, rfl, rfl, rfl, rfl, rfl, trivial⟩ ?_)
    refine CX.region ?_
    refine RX.cons rfl rfl (op_w (yw_move rfl rfl) rfl rfl ?_)
    refine RX.cons rfl rfl (op_w (yw_move rfl rfl) rfl rfl ?_)
    refine RX.cons rfl rfl (op_callP [pack (List.map gpE gs), .row Ao co 36 1 (List.map gpC gs), .blk g5 (.cells (#[.slice Ao (List.length (gs : List Gp)) co]) 109 (0, 0)), kmap keyB (fun x : Int => Value.int .i64 x) gat kv, .blk g4 (.cells (#[.map (some gat)]) 118 (0, 0)), kmap keyB keyB gm p, .blk gc (.cells (#[.map (some gm), .slice A1 (List.length ((uniq (List.map Prod.fst E)) : List Int)) c1, .slice A2 (List.length ((uniq (List.map Prod.snd E)) : List Int)) c2]) 83 (0, 0)), .blk g3 (.cells (#[.pointer (some ⟨gc, 0, none⟩)]) 74 (0, 0))] [.row A2 c2 3 1 (List.map iR (uniq (List.map Prod.snd E))), .row A1 c1 3 1 (List.map iR (uniq (List.map Prod.fst E)))] rfl rfl rfl rfl rfl ent_71 ((perm_pick 0 rfl).trans (List.Perm.cons _ ((perm_pick 0 rfl).trans (List.Perm.cons _ ((perm_pick 0 rfl).trans (List.Perm.cons _ ((perm_pick 0 rfl).trans (List.Perm.cons _ ((perm_pick 0 rfl).trans (List.Perm.cons _ ((perm_pick 0 rfl).trans (List.Perm.cons _ ((perm_pick 0 rfl).trans (List.Perm.cons _ ((perm_pick 0 rfl).trans (List.Perm.cons _ (List.Perm.refl _))))))))))))))))) (σ := List (Nd × Nd) × (Option Addr × Nat) × List Gp × List (Nd × Int)) (val := fun _ => .tuple #[]) (LL := fun q => [pack (List.map gpE q.2.2.1), .row q.2.1.1 q.2.1.2 36 1 (List.map gpC q.2.2.1), .blk g5 (.cells (#[.slice q.2.1.1 (List.length (q.2.2.1 : List Gp)) q.2.1.2]) 109 (0, 0)), kmap keyB (fun x : Int => Value.int .i64 x) gat q.2.2.2, .blk g4 (.cells (#[.map (some gat)]) 118 (0, 0)), kmap keyB keyB gm q.1, .blk gc (.cells (#[.map (some gm), .slice A1 (List.length ((uniq (List.map Prod.fst E)) : List Int)) c1, .slice A2 (List.length ((uniq (List.map Prod.snd E)) : List Int)) c2]) 83 (0, 0)), .blk g3 (.cells (#[.pointer (some ⟨gc, 0, none⟩)]) 74 (0, 0))]) (post := fun q => Forest q.1 (rep E) rk ∧ GrpOk (rep E) (List.take k (uniq (List.map Prod.fst E)) ++ [x0]) q.2.2.1 q.2.2.2) (fun w hw hs => w_clusters1 E x0 p gs kv (List.take k (uniq (List.map Prod.fst E))) (uniq (List.map Prod.fst E)) (uniq (List.map Prod.snd E)) hF hG (by rw [List.length_take]; omega) hs) (fun q hq => ?_))
    refine RX.nil (XX.inBlock (V' := [(5, _), (6, _), (16, _), (17, _), (18, _)]) ⟨rfl, rfl, rfl, rfl, rfl, trivial⟩ ?_)
    refine XX.next (V' := [(5, _), (6, _), (16, _), (17, _), (18, _)]) ⟨rfl, rfl, rfl, rfl, rfl, trivial⟩ ?_
    refine CX.region ?_
    refine RX.cons rfl rfl (op_w (yw_add rfl rfl rfl (by omega) (by omega)) rfl rfl ?_)
    refine RX.cons rfl rfl (op_w (yw_move rfl rfl) rfl rfl ?_)
    refine RX.nil (XX.againP ([]) (k + 1, q) (by dsimp only; omega) ⟨by dsimp only; omega, hq.1, by dsimp only; rw [take_succ hx0]; exact hq.2⟩ ⟨rfl, rfl, rfl, rfl, rfl, trivial⟩ ((perm_pick 0 rfl).trans (List.Perm.cons _ ((perm_pick 0 rfl).trans (List.Perm.cons _ ((perm_pick 0 rfl).trans (List.Perm.cons _ ((perm_pick 0 rfl).trans (List.Perm.cons _ ((perm_pick 0 rfl).trans (List.Perm.cons _ ((perm_pick 0 rfl).trans (List.Perm.cons _ ((perm_pick 0 rfl).trans (List.Perm.cons _ ((perm_pick 0 rfl).trans (List.Perm.cons _ ((perm_pick 0 rfl).trans (List.Perm.cons _ ((perm_pick 0 rfl).trans (List.Perm.cons _ (List.Perm.refl _))))))))))))))))))))))
  · rw [List.take_of_length_le (show (uniq (List.map Prod.fst E)).length ≤ k by omega)] at hG
    refine CX.exit ?_
    refine XX.then_exit ?_
    refine XX.then_exit ?_
    refine XX.block_exit ?_
    refine XX.next (V' := [(5, _)]) ⟨rfl, trivial⟩ ?_
    refine CX.seq ?_
    refine CX.region ?_
    refine RX.cons rfl rfl (op_yld (y_load (i := 2) rfl rfl one_109 rfl rfl) rfl rfl ?_)
    refine RX.cons rfl rfl (op_w (yw_assign rfl rfl) rfl rfl ?_)
    refine RX.nil (XX.next (V' := [(2, .slice Ao (List.length (gs : List Gp)) co)]) ⟨rfl, trivial⟩ ?_)
    refine CX.ret ?_
    exact ret_tmp rfl rfl fun w1 hw => ⟨((Ao, co), gs), ⟨hG.grouped, by have := hG.len; dsimp only; omega, fun g hg => by have := hG.lens g hg; omega⟩, rfl, hw.pick ((perm_pick 0 rfl).trans (List.Perm.cons _ ((perm_pick 0 rfl).trans (List.Perm.cons _ (List.Perm.refl _)))))⟩

end Go.Proofs.Ytpcfgoadkfajfaa
namespace Go.Proofs.Ytpcfgoadkfajfaa
set_option linter.all false
structure HeadOk (Gs : List (List Int)) (seen : List Int) (kv : List (Int × Int)) : Prop where
  src : ∀ a h, kget a kv = some h → ∃ g ∈ Gs, a ∈ g ∧ g[0]? = some h
  all : ∀ a ∈ seen, (kget a kv).isSome = true
theorem HeadOk.nil (Gs : List (List Int)) : HeadOk Gs [] [] := ⟨fun a h hk => (by cases hk), fun a h => (by cases h)⟩
theorem HeadOk.set {Gs : List (List Int)} {seen : List Int} {kv : List (Int × Int)} (h : HeadOk Gs seen kv) {g : List Int} {a h0 : Int} (hg : g ∈ Gs) (ha : a ∈ g) (hh : g[0]? = some h0) : HeadOk Gs (seen ++ [a]) (kset a h0 kv) := by
  refine ⟨fun b c hk => ?_, fun b hb => ?_⟩
  · rw [kget_kset] at hk
    split at hk
    · rename_i e
      rw [e, ← Option.some.inj hk]
      exact ⟨g, hg, ha, hh⟩
    · exact h.src b c hk
  · rw [kget_kset]
    split
    · rfl
    · rename_i hne
      rcases List.mem_append.1 hb with hb | hb
      · exact h.all b hb
      · exact absurd (List.mem_singleton.1 hb) hne
/-- Each account of a list, and no other, has a number; they are equal where the accounts are joined. -/
structure ClOk (R : Nd → Nd) (all : List Int) (kv : List (Int × Int)) : Prop where
  some_ : ∀ a ∈ all, ∃ c, kget a kv = some c
  none_ : ∀ a, a ∉ all → kget a kv = none
  same : ∀ a b c d, kget a kv = some c → kget b kv = some d → (c = d ↔ R (false, a) = R (false, b))
theorem HeadOk.done {R : Nd → Nd} {all : List Int} {Gs : List (List Int)} {kv : List (Int × Int)} (hG : Grouped R all Gs) (h : HeadOk Gs (Gs.flatMap id) kv) : ClOk R all kv := by
  have hone : ∀ g ∈ Gs, ∀ c, g[0]? = some c → c ∈ g := fun g _ c hc => List.mem_of_getElem? hc
  refine ⟨fun a ha => ?_, fun a ha => ?_, fun a b c d h1 h2 => ?_⟩
  · obtain ⟨g, hg, hag⟩ := hG.has a ha
    exact Option.isSome_iff_exists.1 (h.all a (List.mem_flatMap.2 ⟨g, hg, hag⟩))
  · cases hk : kget a kv with
    | none => rfl
    | some c =>
      obtain ⟨g, hg, hag, _⟩ := h.src a c hk
      exact absurd (hG.one g hg a hag) ha
  · obtain ⟨g, hg, hag, hgc⟩ := h.src a c h1
    obtain ⟨k, hk, hbk, hkd⟩ := h.src b d h2
    have e1 : R (false, a) = R (false, c) := (hG.same g hg g hg a hag c (hone g hg c hgc)).2 rfl
    have e2 : R (false, b) = R (false, d) := (hG.same k hk k hk b hbk d (hone k hk d hkd)).2 rfl
    constructor
    · intro e; rw [e1, e2, e]
    · intro e
      have : g = k := (hG.same g hg k hk a hag b hbk).1 e
      subst this
      rw [hgc] at hkd
      exact Option.some.inj hkd
theorem ClOk.of_mem {R : Nd → Nd} {all all' : List Int} {kv : List (Int × Int)} (h : ClOk R all kv) (hm : ∀ x, x ∈ all ↔ x ∈ all') : ClOk R all' kv :=
  ⟨fun a ha => h.some_ a ((hm a).2 ha), fun a ha => h.none_ a (fun h2 => ha ((hm a).1 h2)), h.same⟩
theorem flat_snoc {α : Type} (Gs : List (List α)) {j : Nat} {g : List α} (hg : Gs[j]? = some g) : (Gs.take (j + 1)).flatMap id = (Gs.take j).flatMap id ++ g := by
  rw [List.take_add_one, hg, List.flatMap_append]; simp
end Go.Proofs.Ytpcfgoadkfajfaa
