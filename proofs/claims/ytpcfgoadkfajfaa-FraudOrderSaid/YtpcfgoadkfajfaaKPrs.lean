/- A slice of pairs of numbers, out of its reading. -/
import Derived.Test.YtpcfgoadkfajfaaK10
import Derived.Test.YtpcfgoadkfajfaaKLaws11
namespace Go.Proofs.Ytpcfgoadkfajfaa
set_option linter.all false
open Go Go.RowKit Go.ChangeShapes Go.WideShapes
set_option maxRecDepth 100000
theorem c42 : Try.prog.cellsOf 42 = 2 := by kernel_rfl
section
variable {H : Type} {enc : TypeId × Value → H} {w : World} {base : Nat} {spare : Nat → Bool} {held : Bool}
theorem open_pr (n : Nat) (cs : List Value) (y : DataW H × List MemPlace) (h : DataW.trod enc Try.prog w base spare held n 42 cs = some y) : ∃ f : Int × Int, cs = (prC f).toList ∧ isI64 f.1 ∧ isI64 f.2 := by
  obtain ⟨xs, m, _, _, hlen, hn, hel⟩ := DataW.trod_array Try.underlying42 h
  have hcell : ∀ k, k < 2 → ∃ v, cs[k]? = some (.int .i64 v) ∧ isI64 v := by
    intro k hk
    have hk' : k < xs.length := by rw [hn]; exact hk
    have hek := hel k (by rw [← hn]; exact hk')
    rw [c3, List.getElem?_eq_getElem hk'] at hek
    obtain ⟨v, e1, _, e3⟩ := DataW.trod_int Try.underlying3 hek
    have := congrArg (·[0]?) e1
    exact ⟨v, by simpa using this, wf_i64 e3⟩
  obtain ⟨a, ha, ia⟩ := hcell 0 (by decide)
  obtain ⟨b, hb, ib⟩ := hcell 1 (by decide)
  have hl : cs.length = 2 := by rw [hlen]; kernel_rfl
  refine ⟨(a, b), List.ext_getElem? fun i => ?_, ia, ib⟩
  match i with
  | 0 => exact ha.trans rfl
  | 1 => exact hb.trans rfl
  | i + 2 => rw [List.getElem?_eq_none (by omega), List.getElem?_eq_none (by simp)]
theorem open_prs {b0 : Nat} {v : Value} {d : DataW H} {ps : List MemPlace} (hv : Value.okWide Try.prog w .any b0 41 v) (h : DataW.Trod enc Try.prog w base spare held 41 v d ps) :
    ∃ (A : Option Addr) (cap : Nat) (X : List (Int × Int)), v = .slice A X.length cap ∧ Rd w A 2 (X.map prC) ∧ (∀ f ∈ X, isI64 f.1 ∧ isI64 f.2) ∧ X.length ≤ cap ∧ X.length ≤ 9223372036854775807 := by
  obtain ⟨A, len, cap, rfl⟩ := okWide_slice Try.underlying41 hv
  obtain ⟨fuel, hf⟩ := h
  obtain ⟨X, rfl, hr, hg, h1, h2⟩ := open_rows (fun x : (Int × Int) => prC x) (fun f => isI64 f.1 ∧ isI64 f.2) (0, 0) Try.underlying41 c42 (fun _ => rfl) (by decide) (fun x u hu => by simp at hu; rcases hu with rfl | rfl <;> rfl) open_pr hf
  exact ⟨A, cap, X, rfl, hr, hg, h1, Nat.le_trans h1 (Nat.le_trans h2 (by decide))⟩
end
end Go.Proofs.Ytpcfgoadkfajfaa
