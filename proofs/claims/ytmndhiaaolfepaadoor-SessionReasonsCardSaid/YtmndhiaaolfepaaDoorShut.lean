/- The facts and streams among the arguments, and the lengths of months, out of their readings. -/
import Derived.Test.YtmndhiaaolfepaaDoorOpen
import Derived.Test.YtmndhiaaolfepaaDoorWalkS
import Derived.Test.YtmndhiaaolfepaaDoorRows
import Derived.LaidMore
import Derived.OpenShut
namespace Go.Proofs.YtmndhiaaolfepaaDoor
set_option linter.all false
open Go Go.RowKit Go.ChangeShapes Go.WideShapes
set_option maxRecDepth 100000
theorem c3 : Tryd.prog.cellsOf 3 = 1 := by kernel_rfl
theorem c9 : Tryd.prog.cellsOf 9 = 1 := by kernel_rfl
theorem c33 : Tryd.prog.cellsOf 33 = 18 := by kernel_rfl
theorem c30 : Tryd.prog.cellsOf 30 = 9 := by kernel_rfl
theorem c86 : Tryd.prog.cellsOf 86 = 12 := by kernel_rfl
theorem laidOut : laidOutB Tryd.prog = true := by kernel_rfl
theorem own : ownKnob Tryd.prog.godebug = none := by kernel_rfl
section
variable {H : Type} {enc : TypeId × Value → H} {w : World} {base : Nat} {spare : Nat → Bool} {held : Bool}
theorem open_fct (n : Nat) (cs : List Value) (y : DataW H × List MemPlace) (h : DataW.trod enc Tryd.prog w base spare held n 33 cs = some y) : ∃ f : Fct, cs = (Fct.cells f).toList ∧ f.text.size ≤ maxLen := by
  obtain ⟨xs, m, _, _, hlen, hxl, hx⟩ := DataW.trod_struct Tryd.underlying33 h
  rw [c33] at hlen
  obtain ⟨k0, e0, _⟩ := field_int (i := 0) hx hxl rfl Tryd.underlying3 c3
  obtain ⟨k1, e1, _⟩ := field_int (i := 1) hx hxl rfl Tryd.underlying3 c3
  obtain ⟨k2, e2, _⟩ := field_int (i := 2) hx hxl rfl Tryd.underlying3 c3
  obtain ⟨k3, e3, _⟩ := field_int (i := 3) hx hxl rfl Tryd.underlying3 c3
  obtain ⟨k4, e4, _⟩ := field_int (i := 4) hx hxl rfl Tryd.underlying3 c3
  obtain ⟨k5, e5, _⟩ := field_int (i := 5) hx hxl rfl Tryd.underlying3 c3
  obtain ⟨k6, e6, _⟩ := field_int (i := 6) hx hxl rfl Tryd.underlying3 c3
  obtain ⟨k7, e7, _⟩ := field_int (i := 7) hx hxl rfl Tryd.underlying3 c3
  obtain ⟨k8, e8, _⟩ := field_int (i := 8) hx hxl rfl Tryd.underlying3 c3
  obtain ⟨k9, e9, _⟩ := field_int (i := 9) hx hxl rfl Tryd.underlying3 c3
  obtain ⟨k10, e10, _⟩ := field_int (i := 10) hx hxl rfl Tryd.underlying3 c3
  obtain ⟨k11, e11, _⟩ := field_int (i := 11) hx hxl rfl Tryd.underlying3 c3
  obtain ⟨k12, e12, _⟩ := field_int (i := 12) hx hxl rfl Tryd.underlying3 c3
  obtain ⟨k13, e13, _⟩ := field_int (i := 13) hx hxl rfl Tryd.underlying3 c3
  obtain ⟨k14, e14, _⟩ := field_int (i := 14) hx hxl rfl Tryd.underlying3 c3
  obtain ⟨k15, e15, _⟩ := field_int (i := 15) hx hxl rfl Tryd.underlying3 c3
  obtain ⟨k16, e16, _⟩ := field_int (i := 16) hx hxl rfl Tryd.underlying3 c3
  obtain ⟨s, e17, hs⟩ := field_str (i := 17) hx hxl rfl Tryd.underlying9 c9
  refine ⟨{ kind := k0, id := k1, version := k2, period := k3, second := k4, account := k5, device := k6, recording := k7, territory := k8, holder := k9, role := k10, since := k11, till := k12, amount := k13, share := k14, currency := k15, mark := k16, text := s }, List.ext_getElem? fun i => ?_, hs⟩
  match i with
  | 0 => exact e0.trans rfl
  | 1 => exact e1.trans rfl
  | 2 => exact e2.trans rfl
  | 3 => exact e3.trans rfl
  | 4 => exact e4.trans rfl
  | 5 => exact e5.trans rfl
  | 6 => exact e6.trans rfl
  | 7 => exact e7.trans rfl
  | 8 => exact e8.trans rfl
  | 9 => exact e9.trans rfl
  | 10 => exact e10.trans rfl
  | 11 => exact e11.trans rfl
  | 12 => exact e12.trans rfl
  | 13 => exact e13.trans rfl
  | 14 => exact e14.trans rfl
  | 15 => exact e15.trans rfl
  | 16 => exact e16.trans rfl
  | 17 => exact e17.trans rfl
  | i + 18 => rw [List.getElem?_eq_none (by omega), List.getElem?_eq_none (by simp [Fct.cells])]
theorem open_strm (n : Nat) (cs : List Value) (y : DataW H × List MemPlace) (h : DataW.trod enc Tryd.prog w base spare held n 30 cs = some y) : ∃ s : Strm, cs = (Strm.cells s).toList ∧ True := by
  obtain ⟨xs, m, _, _, hlen, hxl, hx⟩ := DataW.trod_struct Tryd.underlying30 h
  rw [c30] at hlen
  obtain ⟨k0, e0, _⟩ := field_int (i := 0) hx hxl rfl Tryd.underlying3 c3
  obtain ⟨k1, e1, _⟩ := field_int (i := 1) hx hxl rfl Tryd.underlying3 c3
  obtain ⟨k2, e2, _⟩ := field_int (i := 2) hx hxl rfl Tryd.underlying3 c3
  obtain ⟨k3, e3, _⟩ := field_int (i := 3) hx hxl rfl Tryd.underlying3 c3
  obtain ⟨k4, e4, _⟩ := field_int (i := 4) hx hxl rfl Tryd.underlying3 c3
  obtain ⟨k5, e5, _⟩ := field_int (i := 5) hx hxl rfl Tryd.underlying3 c3
  obtain ⟨k6, e6, _⟩ := field_int (i := 6) hx hxl rfl Tryd.underlying3 c3
  obtain ⟨k7, e7, _⟩ := field_int (i := 7) hx hxl rfl Tryd.underlying3 c3
  obtain ⟨k8, e8, _⟩ := field_int (i := 8) hx hxl rfl Tryd.underlying3 c3
  refine ⟨{ device := k0, id := k1, account := k2, recording := k3, territory := k4, second := k5, period := k6, session := k7, mark := k8 }, List.ext_getElem? fun i => ?_, trivial⟩
  match i with
  | 0 => exact e0.trans rfl
  | 1 => exact e1.trans rfl
  | 2 => exact e2.trans rfl
  | 3 => exact e3.trans rfl
  | 4 => exact e4.trans rfl
  | 5 => exact e5.trans rfl
  | 6 => exact e6.trans rfl
  | 7 => exact e7.trans rfl
  | 8 => exact e8.trans rfl
  | i + 9 => rw [List.getElem?_eq_none (by omega), List.getElem?_eq_none (by simp [Strm.cells])]
theorem open_facts {b0 : Nat} {v : Value} {d : DataW H} {ps : List MemPlace} (hv : Value.okWide Tryd.prog w .any b0 22 v) (h : DataW.Trod enc Tryd.prog w base spare held 22 v d ps) :
    ∃ (A : Option Addr) (cap : Nat) (fs : List Fct), v = .slice A fs.length cap ∧ Rd w A 18 (fs.map Fct.cells) ∧ fs.length ≤ 9223372036854775807 ∧ ∀ f ∈ fs, f.text.size ≤ 9223372036854775807 := by
  obtain ⟨A, len, cap, rfl⟩ := okWide_slice Tryd.underlying22 hv
  obtain ⟨fuel, hf⟩ := h
  obtain ⟨xs, rfl, hr, hg, h1, h2⟩ := open_rows Fct.cells (fun f => f.text.size ≤ maxLen) zeroF Tryd.underlying22 c33 (fun _ => rfl) (by decide) (fun f => Fct.plain f) open_fct hf
  exact ⟨A, cap, xs, rfl, hr, Nat.le_trans h1 h2, hg⟩
theorem open_streams {b0 : Nat} {v : Value} {d : DataW H} {ps : List MemPlace} (hv : Value.okWide Tryd.prog w .any b0 23 v) (h : DataW.Trod enc Tryd.prog w base spare held 23 v d ps) :
    ∃ (A : Option Addr) (cap : Nat) (ss : List Strm), v = .slice A ss.length cap ∧ Rd w A 9 (ss.map Strm.cells) ∧ ss.length ≤ cap := by
  obtain ⟨A, len, cap, rfl⟩ := okWide_slice Tryd.underlying23 hv
  obtain ⟨fuel, hf⟩ := h
  obtain ⟨xs, rfl, hr, _, h1, _⟩ := open_rows Strm.cells (fun _ => True) ⟨0, 0, 0, 0, 0, 0, 0, 0, 0⟩ Tryd.underlying23 c30 (fun _ => rfl) (by decide) (fun f => Strm.plain f) open_strm hf
  exact ⟨A, cap, xs, rfl, hr, h1⟩
theorem open_fact {b0 : Nat} {v : Value} {d : DataW H} {ps : List MemPlace} (hv : Value.okWide Tryd.prog w .any b0 33 v) (h : DataW.Trod enc Tryd.prog w base spare held 33 v d ps) :
    ∃ f : Fct, v = .agg (Fct.cells f) ∧ f.text.size ≤ 9223372036854775807 := by
  obtain ⟨fuel, hf⟩ := h
  obtain ⟨f, e, hs⟩ := open_fct _ _ _ hf
  obtain ⟨cs, rfl, _⟩ := okWide_struct Tryd.underlying33 hv
  refine ⟨f, ?_, hs⟩
  have e' : cs.toList = (Fct.cells f).toList := by simpa [Value.cells] using e
  rw [Array.toList_inj.1 e']
end
def laid : List (String × DataW Unit) := [("royalty/period.lengths", Rows.laid_royalty_period_lengths)]
theorem gL : Tryd.prog.globalNamed "royalty/period.lengths" = some 0 := by kernel_rfl
theorem tL : (Tryd.prog.globals[0]?).map (·.type) = some 86 := by kernel_rfl
theorem door_met (os : Os) (args : Array Value) : laidMetH Tryd.prog laid ((World.doorLaid Tryd.prog 400 os).forCall (fun _ _ => 0) ⟨#[], args, []⟩).memory :=
  laidMetH_of_parts3 (fuel := 8) (laidMet_of_run' 8 (by kernel_rfl) (by kernel_rfl)) (by kernel_rfl) (by kernel_rfl)
theorem lens_of_laid {W : World} (h : laidMetH Tryd.prog laid W) : Lens W := by
  rw [MakeChecks.laidMetH_plain _ _ _ (by kernel_rfl)] at h
  obtain ⟨ps, ⟨g0, t0, cs0, f0, p0, q0, hg0, ht0, hv0, hd0, _, _⟩, _, _⟩ := h
  obtain rfl := Option.some.inj (gL.symm.trans hg0)
  obtain rfl := Option.some.inj (tL.symm.trans ht0)
  obtain ⟨xs, m1, _, hx1, hlen, hn, hel⟩ := DataW.trod_array Tryd.underlying86 hd0
  simp only [Prod.mk.injEq, Rows.laid_royalty_period_lengths, DataW.agg.injEq] at hx1
  intro k hk
  rw [World.var?_cell hg0 hv0]
  have hk' : k < xs.length := by rw [hn]; exact hk
  have hek := hel k hk
  rw [c3] at hek
  rw [List.getElem?_eq_getElem hk'] at hek
  obtain ⟨v, e1, e2, _⟩ := DataW.trod_int Tryd.underlying3 hek
  have hval : (xs.map (·.1))[k]? = some (.lit (.int .i64 v)) := by rw [List.getElem?_map, List.getElem?_eq_getElem hk', Option.map_some, e2]
  rw [← hx1.1] at hval
  have hc : cs0[k * 1]? = some (.int .i64 v) := by
    have := congrArg (·[0]?) e1
    simpa using this
  rw [hc]
  have : v = monthLen k := by
    match k, hk with
    | 0, _ => have := Option.some.inj hval; simp at this; exact this.symm
    | 1, _ => have := Option.some.inj hval; simp at this; exact this.symm
    | 2, _ => have := Option.some.inj hval; simp at this; exact this.symm
    | 3, _ => have := Option.some.inj hval; simp at this; exact this.symm
    | 4, _ => have := Option.some.inj hval; simp at this; exact this.symm
    | 5, _ => have := Option.some.inj hval; simp at this; exact this.symm
    | 6, _ => have := Option.some.inj hval; simp at this; exact this.symm
    | 7, _ => have := Option.some.inj hval; simp at this; exact this.symm
    | 8, _ => have := Option.some.inj hval; simp at this; exact this.symm
    | 9, _ => have := Option.some.inj hval; simp at this; exact this.symm
    | 10, _ => have := Option.some.inj hval; simp at this; exact this.symm
    | 11, _ => have := Option.some.inj hval; simp at this; exact this.symm
    | k + 12, h => omega
  rw [this]
end Go.Proofs.YtmndhiaaolfepaaDoor
