/- What the arguments of a law are, opened out of their reading; and the law's end: the arguments read as they did. Nothing here knows a program. The arguments of FraudHistories, and the lengths of months, out of their readings. -/
import Derived.Test.YtpcfgoadkfajfaaGreatDoorK2
import Derived.Deep.Slices
import Derived.ReadAgain
import Derived.ProofKit
import Derived.Carry
import Derived.Test.YtpcfgoadkfajfaaGreatDoorK13
import Derived.Test.YtpcfgoadkfajfaaGreatDoorRows
import Derived.LaidMore
import Derived.OpenShut
import Derived.DataShut
namespace Go.Proofs.YtpcfgoadkfajfaaGreatDoor
set_option linter.all false
open Go Go.RowKit Go.ChangeShapes Go.WideShapes
section
variable {H : Type} {enc : TypeId × Value → H} {P : Program} {w : World} {base : Nat} {spare : Nat → Bool} {held : Bool}

def isI64 (n : Int) : Prop := -9223372036854775808 ≤ n ∧ n ≤ 9223372036854775807
theorem wf_i64 {n : Int} (h : (Lit.int .i64 n).wf = true) : isI64 n := by
  simpa [Lit.wf, isI64, IntKind.min, IntKind.max, IntKind.bits, IntKind.signed] using h

/-- The cell of a field of a struct. -/
theorem field_at {fs : Array Field} {cs : List Value} {xs : List (DataW H × List MemPlace)} {n i : Nat} {f : Field} (hx : ∀ (i : Nat) (f : Field), fs[i]? = some f → DataW.trod enc P w base spare held n f.type ((cs.drop f.offset).take (P.cellsOf f.type)) = xs[i]?)
    (hl : xs.length = fs.size) (hf : fs[i]? = some f) : ∃ y, DataW.trod enc P w base spare held n f.type ((cs.drop f.offset).take (P.cellsOf f.type)) = some y := by
  have hi : i < xs.length := by rw [hl]; exact (Array.getElem?_eq_some_iff.1 hf).1
  exact ⟨xs[i], (hx i f hf).trans (List.getElem?_eq_getElem hi)⟩
theorem field_int {fs : Array Field} {cs : List Value} {xs : List (DataW H × List MemPlace)} {n i : Nat} {f : Field} (hx : ∀ (i : Nat) (f : Field), fs[i]? = some f → DataW.trod enc P w base spare held n f.type ((cs.drop f.offset).take (P.cellsOf f.type)) = xs[i]?)
    (hl : xs.length = fs.size) (hf : fs[i]? = some f) (ht : P.underlying f.type = some (.int .i64)) (hc : P.cellsOf f.type = 1) : ∃ k, cs[f.offset]? = some (.int .i64 k) ∧ isI64 k := by
  obtain ⟨y, h⟩ := field_at hx hl hf
  obtain ⟨k, h1, _, h3⟩ := DataW.trod_int ht h
  refine ⟨k, ?_, wf_i64 h3⟩
  rw [hc] at h1
  have := congrArg (·[0]?) h1
  simpa using this
theorem field_str {fs : Array Field} {cs : List Value} {xs : List (DataW H × List MemPlace)} {n i : Nat} {f : Field} (hx : ∀ (i : Nat) (f : Field), fs[i]? = some f → DataW.trod enc P w base spare held n f.type ((cs.drop f.offset).take (P.cellsOf f.type)) = xs[i]?)
    (hl : xs.length = fs.size) (hf : fs[i]? = some f) (ht : P.underlying f.type = some .string) (hc : P.cellsOf f.type = 1) : ∃ s : ByteArray, cs[f.offset]? = some (.string s) ∧ s.size ≤ maxLen := by
  obtain ⟨y, h⟩ := field_at hx hl hf
  obtain ⟨s, h1, _, h3⟩ := DataW.trod_string ht h
  refine ⟨s, ?_, h3⟩
  rw [hc] at h1
  have := congrArg (·[0]?) h1
  simpa using this

/-- A slice whose elements are known to be values of a type α under an encoding. -/
theorem open_rows {α : Type} {t e : TypeId} {sz fuel : Nat} (cells : α → Array Value) (good : α → Prop) (d : α) {A : Option Addr} {len cap : Nat} {x : DataW H × List MemPlace} (ht : P.underlying t = some (.slice e)) (hc : P.cellsOf e = sz) (hsz : ∀ x, (cells x).size = sz) (hpos : 0 < sz) (hone : ∀ x, ∀ u ∈ (cells x).toList, u.oneCell' = true)
    (hel : ∀ n cs y, DataW.trod enc P w base spare held n e cs = some y → ∃ x, cs = (cells x).toList ∧ good x)
    (h : DataW.trod enc P w base spare held fuel t (Value.slice A len cap).cells.toList = some x) :
    ∃ xs : List α, len = xs.length ∧ Rd w A sz (xs.map cells) ∧ (∀ x ∈ xs, good x) ∧ xs.length ≤ cap ∧ cap ≤ maxLen := by
  rcases DataW.trod_slice ht h with ⟨h0, _⟩ | ⟨a, len', cap', elems, rest, n, _, h1, _, _, hl, hm, hlen, hat, _, _⟩
  · have e0 : Value.slice A len cap = .slice none 0 0 := by simpa [Value.cells] using h0
    injection e0 with e1 e2 e3
    subst e1; subst e2; subst e3
    exact ⟨[], rfl, Rd.nil _ _ _, by simp, Nat.le_refl _, Nat.zero_le _⟩
  · have e0 : Value.slice A len cap = .slice (some a) len' cap' := by simpa [Value.cells] using h1
    injection e0 with e1 e2 e3
    subst e1; subst e2; subst e3
    have each : ∀ i, i < len → ∃ x : α, w.cells? base (a.add (i * sz)) sz = some (cells x).toList ∧ good x := by
      intro i hi
      have hi' := hat i hi
      rw [List.getElem?_eq_getElem (by omega), hc] at hi'
      obtain ⟨cs, hcs, hy⟩ := Option.bind_eq_some_iff.1 hi'
      obtain ⟨x, rfl, hg⟩ := hel _ _ _ hy
      exact ⟨x, hcs, hg⟩
    obtain ⟨F, hF⟩ := @Go.Deep.choose_lt α ⟨d⟩ len _ each
    refine ⟨(List.range len).map F, by simp, ⟨?_⟩, ?_, by simpa using hl, hm⟩
    · intro k c hk
      rw [List.getElem?_map, List.getElem?_map] at hk
      have hkl : k < len := by
        rcases Nat.lt_or_ge k len with h | h
        · exact h
        · rw [List.getElem?_eq_none (by simpa using h)] at hk; simp at hk
      rw [List.getElem?_range hkl] at hk
      simp only [Option.map_some, Option.some.injEq] at hk
      subst hk
      obtain ⟨_, _, hcell⟩ := World.cells?_some (hF k hkl).1
      have h0 := hcell 0 hpos
      obtain ⟨v, hs0⟩ : ∃ v, (cells (F k)).toList[0]? = some v := ⟨_, List.getElem?_eq_getElem (by rw [Array.length_toList, hsz]; exact hpos)⟩
      rw [hs0] at h0
      obtain ⟨b, off, spot⟩ := a
      have hspot : spot = none := by
        obtain ⟨_, _, hz⟩ := World.cells?_some (hF 0 (by omega)).1
        have hz0 := hz 0 hpos
        obtain ⟨u, hu⟩ : ∃ u, (cells (F 0)).toList[0]? = some u := ⟨_, List.getElem?_eq_getElem (by rw [Array.length_toList, hsz]; exact hpos)⟩
        rw [hu] at hz0
        simpa [Addr.add] using World.cell?_spot hz0
      subst hspot
      refine ⟨hsz _, ⟨b, off, rfl⟩, ?_, hone _, fun j hj => ?_⟩
      · have := World.block_lt_of_cell? w _ h0
        rw [add_none, add_none] at this
        exact this
      · have := hcell j hj
        rw [Array.getElem?_toList, add_none, add_none] at this
        exact this
    · intro x hx
      obtain ⟨k, hk, rfl⟩ := List.mem_map.1 hx
      exact (hF k (by simpa using hk)).2
end

section
variable {H : Type} {enc : TypeId × Value → H} {P : Program} {W W' : World}
theorem trodAll_stays (hl : laidOutB P = true) (hb : Below W.heap.size W W') : ∀ {ts : List TypeId} {vs : List Value} {ds : List (DataW H)} {ps : List MemPlace}, (∀ t ∈ ts, P.readableRec t = true ∧ t < P.types.size) →
    DataW.TrodAll enc P W 0 (fun _ => true) true ts vs ds ps → (∀ x ∈ ps, x.block < W.heap.size) → DataW.TrodAll enc P W' 0 (fun b => decide (b < W.heap.size)) true ts vs ds ps
  | [], [], [], _, _, h, _ => h
  | t :: _, _ :: _, _ :: _, _, ht, ⟨p, q, h1, h2, e⟩, hs =>
    ⟨p, q, Below.trod hl (ht t List.mem_cons_self).1 (ht t List.mem_cons_self).2 h1 hb (fun x hx => hs x (by rw [e]; exact List.mem_append_left _ hx)), trodAll_stays hl hb (fun u hu => ht u (List.mem_cons_of_mem _ hu)) h2 (fun x hx => hs x (by rw [e]; exact List.mem_append_right _ hx)), e⟩

/-- The law's end: it has returned true, and the arguments read as they did. -/
theorem law_post {f : Func} {s : ChangeSpec} {args : Array Value} {ds gs : List (DataW H)} {before : List MemPlace} {tb : TypeId} (hl : laidOutB P = true) (ht : f.params.toList.all (fun t => P.readableRec t && decide (t < P.types.size)) = true)
    (hW : DataW.Whole enc P f.params.toList s.vars false W args.toList ds gs before) (hv : s.vars = []) (hfn : s.fn H (ds ++ gs) = { results := [.lit (.bool true)], args := ds }) (hr : f.resultTypes = #[tb]) (htb : P.underlying tb = some .bool) (hb : Below W.heap.size W W') :
    s.post enc P f false true false false W args (.bool true) W' := by
  have hlt : ∀ x ∈ before, x.block < W.heap.size := fun x hx => hW.lt x hx
  have hW' := hW
  obtain ⟨p, q, hA, hV, he, _, _⟩ := hW'
  refine ⟨ds, gs, before, [], p, [], hW, ?_, ?_, ?_, hb.frame _, fun h => by cases h⟩
  · rw [hfn, hr]
    exact trodAll_mk1 (shut_bool htb _)
  · rw [hfn]
    exact trodAll_stays hl hb (fun t h => by have := List.all_eq_true.1 ht t h; simpa using this) hA (fun x hx => hlt x (by rw [he]; exact List.mem_append_left _ hx))
  · rw [hfn, hv]
    exact rfl
end
end Go.Proofs.YtpcfgoadkfajfaaGreatDoor
namespace Go.Proofs.YtpcfgoadkfajfaaGreatDoor
set_option linter.all false
open Go Go.RowKit Go.ChangeShapes Go.WideShapes
set_option maxRecDepth 100000
theorem co3 : Tryz.prog.cellsOf 3 = 1 := by kernel_rfl
theorem co9 : Tryz.prog.cellsOf 9 = 1 := by kernel_rfl
theorem co27 : Tryz.prog.cellsOf 27 = 18 := by kernel_rfl
theorem co42 : Tryz.prog.cellsOf 42 = 4 := by kernel_rfl
theorem co12 : Tryz.prog.cellsOf 172 = 12 := by kernel_rfl
theorem laidOut : laidOutB Tryz.prog = true := by kernel_rfl
theorem own : ownKnob Tryz.prog.godebug = none := by kernel_rfl
section
variable {H : Type} {enc : TypeId × Value → H} {w : World} {base : Nat} {spare : Nat → Bool} {held : Bool}
theorem open_ru (n : Nat) (cs : List Value) (y : DataW H × List MemPlace) (h : DataW.trod enc Tryz.prog w base spare held n 42 cs = some y) : ∃ f : Ru, cs = (ruC f).toList ∧ isI64 f.n := by
  obtain ⟨xs, m, _, _, hlen, hxl, hx⟩ := DataW.trod_struct Tryz.underlying42 h
  rw [co42] at hlen
  obtain ⟨k0, e0, i0⟩ := field_int (i := 0) hx hxl rfl Tryz.underlying3 co3
  obtain ⟨k1, e1, i1⟩ := field_int (i := 1) hx hxl rfl Tryz.underlying3 co3
  obtain ⟨k2, e2, i2⟩ := field_int (i := 2) hx hxl rfl Tryz.underlying3 co3
  obtain ⟨k3, e3, i3⟩ := field_int (i := 3) hx hxl rfl Tryz.underlying3 co3
  refine ⟨⟨k0, k1, k2, k3⟩, List.ext_getElem? fun i => ?_, i3⟩
  match i with
  | 0 => exact e0.trans rfl
  | 1 => exact e1.trans rfl
  | 2 => exact e2.trans rfl
  | 3 => exact e3.trans rfl
  | i + 4 => rw [List.getElem?_eq_none (by omega), List.getElem?_eq_none (by simp)]
theorem open_fc (n : Nat) (cs : List Value) (y : DataW H × List MemPlace) (h : DataW.trod enc Tryz.prog w base spare held n 27 cs = some y) : ∃ f : Fc, cs = (fcC f).toList ∧ True := by
  obtain ⟨xs, m, _, _, hlen, hxl, hx⟩ := DataW.trod_struct Tryz.underlying27 h
  rw [co27] at hlen
  obtain ⟨k0, e0, i0⟩ := field_int (i := 0) hx hxl rfl Tryz.underlying3 co3
  obtain ⟨k1, e1, i1⟩ := field_int (i := 1) hx hxl rfl Tryz.underlying3 co3
  obtain ⟨k2, e2, i2⟩ := field_int (i := 2) hx hxl rfl Tryz.underlying3 co3
  obtain ⟨k3, e3, i3⟩ := field_int (i := 3) hx hxl rfl Tryz.underlying3 co3
  obtain ⟨k4, e4, i4⟩ := field_int (i := 4) hx hxl rfl Tryz.underlying3 co3
  obtain ⟨k5, e5, i5⟩ := field_int (i := 5) hx hxl rfl Tryz.underlying3 co3
  obtain ⟨k6, e6, i6⟩ := field_int (i := 6) hx hxl rfl Tryz.underlying3 co3
  obtain ⟨k7, e7, i7⟩ := field_int (i := 7) hx hxl rfl Tryz.underlying3 co3
  obtain ⟨k8, e8, i8⟩ := field_int (i := 8) hx hxl rfl Tryz.underlying3 co3
  obtain ⟨k9, e9, i9⟩ := field_int (i := 9) hx hxl rfl Tryz.underlying3 co3
  obtain ⟨k10, e10, i10⟩ := field_int (i := 10) hx hxl rfl Tryz.underlying3 co3
  obtain ⟨k11, e11, i11⟩ := field_int (i := 11) hx hxl rfl Tryz.underlying3 co3
  obtain ⟨k12, e12, i12⟩ := field_int (i := 12) hx hxl rfl Tryz.underlying3 co3
  obtain ⟨k13, e13, i13⟩ := field_int (i := 13) hx hxl rfl Tryz.underlying3 co3
  obtain ⟨k14, e14, i14⟩ := field_int (i := 14) hx hxl rfl Tryz.underlying3 co3
  obtain ⟨k15, e15, i15⟩ := field_int (i := 15) hx hxl rfl Tryz.underlying3 co3
  obtain ⟨k16, e16, i16⟩ := field_int (i := 16) hx hxl rfl Tryz.underlying3 co3
  obtain ⟨k17, e17, i17⟩ := field_str (i := 17) hx hxl rfl Tryz.underlying9 co9
  refine ⟨⟨k0, k1, k2, k3, k4, k5, k6, k7, k8, k9, k10, k11, k12, k13, k14, k15, k16, k17⟩, List.ext_getElem? fun i => ?_, trivial⟩
  match i with
  | 0 => exact e0.trans rfl
  | 1 => exact e1.trans rfl
  | 2 => exact e2.trans rfl
  | 3 => exact e3.trans rfl
  | 4 => exact e4.trans rfl
  | 5 => exact e5.trans rfl
  | 6 => exact e6.trans rfl
  | 7 => exact e7.trans rfl
  | 8 => exact e8.trans rfl
  | 9 => exact e9.trans rfl
  | 10 => exact e10.trans rfl
  | 11 => exact e11.trans rfl
  | 12 => exact e12.trans rfl
  | 13 => exact e13.trans rfl
  | 14 => exact e14.trans rfl
  | 15 => exact e15.trans rfl
  | 16 => exact e16.trans rfl
  | 17 => exact e17.trans rfl
  | i + 18 => rw [List.getElem?_eq_none (by omega), List.getElem?_eq_none (by simp)]
theorem open_rus {b0 : Nat} {v : Value} {d : DataW H} {ps : List MemPlace} (hv : Value.okWide Tryz.prog w .any b0 23 v) (h : DataW.Trod enc Tryz.prog w base spare held 23 v d ps) :
    ∃ (A : Option Addr) (cap : Nat) (X : List Ru), v = .slice A X.length cap ∧ Rd w A 4 (X.map ruC) ∧ (∀ f ∈ X, isI64 f.n) ∧ X.length ≤ cap ∧ X.length ≤ 9223372036854775807 := by
  obtain ⟨A, len, cap, rfl⟩ := okWide_slice Tryz.underlying23 hv
  obtain ⟨fuel, hf⟩ := h
  obtain ⟨X, rfl, hr, hg, h1, h2⟩ := open_rows (fun x : Ru => ruC x) (fun f => isI64 f.n) ⟨0, 0, 0, 0⟩ Tryz.underlying23 co42 (fun _ => rfl) (by decide) (fun x u hu => by simp at hu; rcases hu with rfl | rfl | rfl | rfl <;> rfl) open_ru hf
  exact ⟨A, cap, X, rfl, hr, hg, h1, Nat.le_trans h1 (Nat.le_trans h2 (by decide))⟩
theorem open_fcs {b0 : Nat} {v : Value} {d : DataW H} {ps : List MemPlace} (hv : Value.okWide Tryz.prog w .any b0 22 v) (h : DataW.Trod enc Tryz.prog w base spare held 22 v d ps) :
    ∃ (A : Option Addr) (cap : Nat) (X : List Fc), v = .slice A X.length cap ∧ Rd w A 18 (X.map fcC) ∧ (∀ f ∈ X, True) ∧ X.length ≤ cap ∧ X.length ≤ 9223372036854775807 := by
  obtain ⟨A, len, cap, rfl⟩ := okWide_slice Tryz.underlying22 hv
  obtain ⟨fuel, hf⟩ := h
  obtain ⟨X, rfl, hr, hg, h1, h2⟩ := open_rows (fun x : Fc => fcC x) (fun f => True) fc0 Tryz.underlying22 co27 (fun _ => rfl) (by decide) (fun x u hu => by simp at hu; rcases hu with rfl | rfl | rfl | rfl | rfl | rfl | rfl | rfl | rfl | rfl | rfl | rfl | rfl | rfl | rfl | rfl | rfl | rfl <;> rfl) open_fc hf
  exact ⟨A, cap, X, rfl, hr, hg, h1, Nat.le_trans h1 (Nat.le_trans h2 (by decide))⟩
theorem open_one3 (n : Nat) (cs : List Value) (y : DataW H × List MemPlace) (h : DataW.trod enc Tryz.prog w base spare held n 3 cs = some y) : ∃ x : Int, cs = (iR x).toList ∧ isI64 x := by
  obtain ⟨v, e1, _, e3⟩ := DataW.trod_int Tryz.underlying3 h
  exact ⟨v, e1, wf_i64 e3⟩
theorem open_ints {b0 : Nat} {v : Value} {d : DataW H} {ps : List MemPlace} (hv : Value.okWide Tryz.prog w .any b0 24 v) (h : DataW.Trod enc Tryz.prog w base spare held 24 v d ps) :
    ∃ (A : Option Addr) (cap : Nat) (X : List Int), v = .slice A X.length cap ∧ Rd w A 1 (X.map iR) ∧ (∀ f ∈ X, isI64 f) ∧ X.length ≤ cap ∧ X.length ≤ 9223372036854775807 := by
  obtain ⟨A, len, cap, rfl⟩ := okWide_slice Tryz.underlying24 hv
  obtain ⟨fuel, hf⟩ := h
  obtain ⟨X, rfl, hr, hg, h1, h2⟩ := open_rows (fun x : Int => iR x) (fun f => isI64 f) 0 Tryz.underlying24 co3 (fun _ => rfl) (by decide) (fun x u hu => by simp at hu; subst hu; rfl) open_one3 hf
  exact ⟨A, cap, X, rfl, hr, hg, h1, Nat.le_trans h1 (Nat.le_trans h2 (by decide))⟩
end
def laid : List (String × DataW Unit) := [("royalty/period.lengths", Rows.laid_royalty_period_lengths)]
theorem gL : Tryz.prog.globalNamed "royalty/period.lengths" = some 1 := by kernel_rfl
theorem tL : (Tryz.prog.globals[1]?).map (·.type) = some 172 := by kernel_rfl
theorem door_met (os : Os) (args : Array Value) : laidMetH Tryz.prog laid ((World.doorLaid Tryz.prog 400 os).forCall (fun _ _ => 0) ⟨#[], args, []⟩).memory :=
  laidMetH_of_parts3 (fuel := 8) (laidMet_of_run' 8 (by kernel_rfl) (by kernel_rfl)) (by kernel_rfl) (by kernel_rfl)
theorem lens_of_laid {W : World} (h : laidMetH Tryz.prog laid W) : Se.Lens W := by
  rw [MakeChecks.laidMetH_plain _ _ _ (by kernel_rfl)] at h
  obtain ⟨ps, ⟨g0, t0, cs0, f0, p0, q0, hg0, ht0, hv0, hd0, _, _⟩, _, _⟩ := h
  obtain rfl := Option.some.inj (gL.symm.trans hg0)
  obtain rfl := Option.some.inj (tL.symm.trans ht0)
  obtain ⟨xs, m1, _, hx1, hlen, hn, hel⟩ := DataW.trod_array Tryz.underlying172 hd0
  simp only [Prod.mk.injEq, Rows.laid_royalty_period_lengths, DataW.agg.injEq] at hx1
  intro k hk
  rw [World.var?_cell hg0 hv0]
  have hk' : k < xs.length := by rw [hn]; exact hk
  have hek := hel k hk
  rw [co3] at hek
  rw [List.getElem?_eq_getElem hk'] at hek
  obtain ⟨v, e1, e2, _⟩ := DataW.trod_int Tryz.underlying3 hek
  have hval : (xs.map (·.1))[k]? = some (.lit (.int .i64 v)) := by rw [List.getElem?_map, List.getElem?_eq_getElem hk', Option.map_some, e2]
  rw [← hx1.1] at hval
  have hc : cs0[k * 1]? = some (.int .i64 v) := by
    have := congrArg (·[0]?) e1
    simpa using this
  rw [hc]
  have : v = Se.monthLen k := by
    match k, hk with
    | 0, _ => have := Option.some.inj hval; simp at this; exact this.symm
    | 1, _ => have := Option.some.inj hval; simp at this; exact this.symm
    | 2, _ => have := Option.some.inj hval; simp at this; exact this.symm
    | 3, _ => have := Option.some.inj hval; simp at this; exact this.symm
    | 4, _ => have := Option.some.inj hval; simp at this; exact this.symm
    | 5, _ => have := Option.some.inj hval; simp at this; exact this.symm
    | 6, _ => have := Option.some.inj hval; simp at this; exact this.symm
    | 7, _ => have := Option.some.inj hval; simp at this; exact this.symm
    | 8, _ => have := Option.some.inj hval; simp at this; exact this.symm
    | 9, _ => have := Option.some.inj hval; simp at this; exact this.symm
    | 10, _ => have := Option.some.inj hval; simp at this; exact this.symm
    | 11, _ => have := Option.some.inj hval; simp at this; exact this.symm
    | k + 12, h => omega
  rw [this]
end Go.Proofs.YtpcfgoadkfajfaaGreatDoor
