/- What the arguments of a law are, opened out of their reading; and the law's end: the arguments read as they did. Nothing here knows a program. -/
import Derived.Test.YtmndhiaaolfepaaDoorOps6
import Derived.Deep.Slices
import Derived.ReadAgain
import Derived.ProofKit
import Derived.Carry
namespace Go.Proofs.YtmndhiaaolfepaaDoor
set_option linter.all false
open Go Go.RowKit Go.ChangeShapes Go.WideShapes
section
variable {H : Type} {enc : TypeId × Value → H} {P : Program} {w : World} {base : Nat} {spare : Nat → Bool} {held : Bool}

def isI64 (n : Int) : Prop := -9223372036854775808 ≤ n ∧ n ≤ 9223372036854775807
theorem wf_i64 {n : Int} (h : (Lit.int .i64 n).wf = true) : isI64 n := by
  simpa [Lit.wf, isI64, IntKind.min, IntKind.max, IntKind.bits, IntKind.signed] using h

/-- The cell of a field of a struct. -/
theorem field_at {fs : Array Field} {cs : List Value} {xs : List (DataW H × List MemPlace)} {n i : Nat} {f : Field} (hx : ∀ (i : Nat) (f : Field), fs[i]? = some f → DataW.trod enc P w base spare held n f.type ((cs.drop f.offset).take (P.cellsOf f.type)) = xs[i]?)
    (hl : xs.length = fs.size) (hf : fs[i]? = some f) : ∃ y, DataW.trod enc P w base spare held n f.type ((cs.drop f.offset).take (P.cellsOf f.type)) = some y := by
  have hi : i < xs.length := by rw [hl]; exact (Array.getElem?_eq_some_iff.1 hf).1
  exact ⟨xs[i], (hx i f hf).trans (List.getElem?_eq_getElem hi)⟩
theorem field_int {fs : Array Field} {cs : List Value} {xs : List (DataW H × List MemPlace)} {n i : Nat} {f : Field} (hx : ∀ (i : Nat) (f : Field), fs[i]? = some f → DataW.trod enc P w base spare held n f.type ((cs.drop f.offset).take (P.cellsOf f.type)) = xs[i]?)
    (hl : xs.length = fs.size) (hf : fs[i]? = some f) (ht : P.underlying f.type = some (.int .i64)) (hc : P.cellsOf f.type = 1) : ∃ k, cs[f.offset]? = some (.int .i64 k) ∧ isI64 k := by
  obtain ⟨y, h⟩ := field_at hx hl hf
  obtain ⟨k, h1, _, h3⟩ := DataW.trod_int ht h
  refine ⟨k, ?_, wf_i64 h3⟩
  rw [hc] at h1
  have := congrArg (·[0]?) h1
  simpa using this
theorem field_str {fs : Array Field} {cs : List Value} {xs : List (DataW H × List MemPlace)} {n i : Nat} {f : Field} (hx : ∀ (i : Nat) (f : Field), fs[i]? = some f → DataW.trod enc P w base spare held n f.type ((cs.drop f.offset).take (P.cellsOf f.type)) = xs[i]?)
    (hl : xs.length = fs.size) (hf : fs[i]? = some f) (ht : P.underlying f.type = some .string) (hc : P.cellsOf f.type = 1) : ∃ s : ByteArray, cs[f.offset]? = some (.string s) ∧ s.size ≤ maxLen := by
  obtain ⟨y, h⟩ := field_at hx hl hf
  obtain ⟨s, h1, _, h3⟩ := DataW.trod_string ht h
  refine ⟨s, ?_, h3⟩
  rw [hc] at h1
  have := congrArg (·[0]?) h1
  simpa using this

/-- A slice whose elements are known to be values of a type α under an encoding. -/
theorem open_rows {α : Type} {t e : TypeId} {sz fuel : Nat} (cells : α → Array Value) (good : α → Prop) (d : α) {A : Option Addr} {len cap : Nat} {x : DataW H × List MemPlace} (ht : P.underlying t = some (.slice e)) (hc : P.cellsOf e = sz) (hsz : ∀ x, (cells x).size = sz) (hpos : 0 < sz) (hone : ∀ x, ∀ u ∈ (cells x).toList, u.oneCell' = true)
    (hel : ∀ n cs y, DataW.trod enc P w base spare held n e cs = some y → ∃ x, cs = (cells x).toList ∧ good x)
    (h : DataW.trod enc P w base spare held fuel t (Value.slice A len cap).cells.toList = some x) :
    ∃ xs : List α, len = xs.length ∧ Rd w A sz (xs.map cells) ∧ (∀ x ∈ xs, good x) ∧ xs.length ≤ cap ∧ cap ≤ maxLen := by
  rcases DataW.trod_slice ht h with ⟨h0, _⟩ | ⟨a, len', cap', elems, rest, n, _, h1, _, _, hl, hm, hlen, hat, _, _⟩
  · have e0 : Value.slice A len cap = .slice none 0 0 := by simpa [Value.cells] using h0
    injection e0 with e1 e2 e3
    subst e1; subst e2; subst e3
    exact ⟨[], rfl, Rd.nil _ _ _, by simp, Nat.le_refl _, Nat.zero_le _⟩
  · have e0 : Value.slice A len cap = .slice (some a) len' cap' := by simpa [Value.cells] using h1
    injection e0 with e1 e2 e3
    subst e1; subst e2; subst e3
    have each : ∀ i, i < len → ∃ x : α, w.cells? base (a.add (i * sz)) sz = some (cells x).toList ∧ good x := by
      intro i hi
      have hi' := hat i hi
      rw [List.getElem?_eq_getElem (by omega), hc] at hi'
      obtain ⟨cs, hcs, hy⟩ := Option.bind_eq_some_iff.1 hi'
      obtain ⟨x, rfl, hg⟩ := hel _ _ _ hy
      exact ⟨x, hcs, hg⟩
    obtain ⟨F, hF⟩ := @Go.Deep.choose_lt α ⟨d⟩ len _ each
    refine ⟨(List.range len).map F, by simp, ⟨?_⟩, ?_, by simpa using hl, hm⟩
    · intro k c hk
      rw [List.getElem?_map, List.getElem?_map] at hk
      have hkl : k < len := by
        rcases Nat.lt_or_ge k len with h | h
        · exact h
        · rw [List.getElem?_eq_none (by simpa using h)] at hk; simp at hk
      rw [List.getElem?_range hkl] at hk
      simp only [Option.map_some, Option.some.injEq] at hk
      subst hk
      obtain ⟨_, _, hcell⟩ := World.cells?_some (hF k hkl).1
      have h0 := hcell 0 hpos
      obtain ⟨v, hs0⟩ : ∃ v, (cells (F k)).toList[0]? = some v := ⟨_, List.getElem?_eq_getElem (by rw [Array.length_toList, hsz]; exact hpos)⟩
      rw [hs0] at h0
      obtain ⟨b, off, spot⟩ := a
      have hspot : spot = none := by
        obtain ⟨_, _, hz⟩ := World.cells?_some (hF 0 (by omega)).1
        have hz0 := hz 0 hpos
        obtain ⟨u, hu⟩ : ∃ u, (cells (F 0)).toList[0]? = some u := ⟨_, List.getElem?_eq_getElem (by rw [Array.length_toList, hsz]; exact hpos)⟩
        rw [hu] at hz0
        simpa [Addr.add] using World.cell?_spot hz0
      subst hspot
      refine ⟨hsz _, ⟨b, off, rfl⟩, ?_, hone _, fun j hj => ?_⟩
      · have := World.block_lt_of_cell? w _ h0
        rw [add_none, add_none] at this
        exact this
      · have := hcell j hj
        rw [Array.getElem?_toList, add_none, add_none] at this
        exact this
    · intro x hx
      obtain ⟨k, hk, rfl⟩ := List.mem_map.1 hx
      exact (hF k (by simpa using hk)).2
end

section
variable {H : Type} {enc : TypeId × Value → H} {P : Program} {W W' : World}
theorem trodAll_stays (hl : laidOutB P = true) (hb : Below W.heap.size W W') : ∀ {ts : List TypeId} {vs : List Value} {ds : List (DataW H)} {ps : List MemPlace}, (∀ t ∈ ts, P.readableRec t = true ∧ t < P.types.size) →
    DataW.TrodAll enc P W 0 (fun _ => true) true ts vs ds ps → (∀ x ∈ ps, x.block < W.heap.size) → DataW.TrodAll enc P W' 0 (fun b => decide (b < W.heap.size)) true ts vs ds ps
  | [], [], [], _, _, h, _ => h
  | t :: _, _ :: _, _ :: _, _, ht, ⟨p, q, h1, h2, e⟩, hs =>
    ⟨p, q, Below.trod hl (ht t List.mem_cons_self).1 (ht t List.mem_cons_self).2 h1 hb (fun x hx => hs x (by rw [e]; exact List.mem_append_left _ hx)), trodAll_stays hl hb (fun u hu => ht u (List.mem_cons_of_mem _ hu)) h2 (fun x hx => hs x (by rw [e]; exact List.mem_append_right _ hx)), e⟩

/-- The law's end: it has returned true, and the arguments read as they did. -/
theorem law_post {f : Func} {s : ChangeSpec} {args : Array Value} {ds gs : List (DataW H)} {before : List MemPlace} {tb : TypeId} (hl : laidOutB P = true) (ht : f.params.toList.all (fun t => P.readableRec t && decide (t < P.types.size)) = true)
    (hW : DataW.Whole enc P f.params.toList s.vars false W args.toList ds gs before) (hv : s.vars = []) (hfn : s.fn H (ds ++ gs) = { results := [.lit (.bool true)], args := ds }) (hr : f.resultTypes = #[tb]) (htb : P.underlying tb = some .bool) (hb : Below W.heap.size W W') :
    s.post enc P f false true false false W args (.bool true) W' := by
  have hlt : ∀ x ∈ before, x.block < W.heap.size := fun x hx => hW.lt x hx
  have hW' := hW
  obtain ⟨p, q, hA, hV, he, _, _⟩ := hW'
  refine ⟨ds, gs, before, [], p, [], hW, ?_, ?_, ?_, hb.frame _, fun h => by cases h⟩
  · rw [hfn, hr]
    exact trodAll_mk1 (shut_bool htb _)
  · rw [hfn]
    exact trodAll_stays hl hb (fun t h => by have := List.all_eq_true.1 ht t h; simpa using this) hA (fun x hx => hlt x (by rw [he]; exact List.mem_append_left _ hx))
  · rw [hfn, hv]
    exact rfl
end
end Go.Proofs.YtmndhiaaolfepaaDoor
