/- What the helpers of law08 are. -/
import Derived.Test.YtmndhiaaolfepaaDoorDefs2
namespace Go.Proofs.YtmndhiaaolfepaaDoor
set_option linter.all false
open Go Go.RowKit
/-- The text cut. -/
def cutF (f : Fct) : Fct := { f with text := f.text.extract 0 (min f.text.size 2010) }
def fewF (fs : List Fct) : List Fct := (fs.take 60).map cutF
theorem few_done {fs ys : List Fct} {i : Nat} (h : ys = (fs.take i).map cutF) (hi : i = 60 ∨ (i ≤ 60 ∧ fs.length ≤ i)) : fewF fs = ys := by
  rw [fewF, h]
  rcases hi with rfl | ⟨h1, h2⟩
  · rfl
  · rw [List.take_of_length_le h2, List.take_of_length_le (by omega)]
def keyF (f g : Fct) : Bool := g.device == f.device && g.id == f.id
/-- Without those that have the device and the ID of an earlier one. -/
def distinctF : List Fct → List Fct → List Fct
  | ys, [] => ys
  | ys, f :: r => distinctF (if ys.any (keyF f) then ys else ys ++ [f]) r
def isOf (s : Strm) (f : Fct) : Bool := f.device == s.device && f.id == s.id && f.counts
def zeroF : Fct := { kind := 0, id := 0, version := 0, period := 0, second := 0, account := 0, device := 0, recording := 0, territory := 0, holder := 0, role := 0, since := 0, till := 0, amount := 0, share := 0, currency := 0, mark := 0, text := .empty }
def findF (fs : List Fct) (s : Strm) : Fct := (fs.find? (isOf s)).getD zeroF
def foundF (fs : List Fct) (s : Strm) : Bool := (fs.find? (isOf s)).isSome
theorem find_drop {p : Fct → Bool} {fs : List Fct} {f : Fct} {i : Nat} (h : fs[i]? = some f) (hp : p f = false) : (fs.drop i).find? p = (fs.drop (i + 1)).find? p := by
  rw [drop_get h, List.find?_cons_of_neg (by simp [hp])]
theorem find_yes {fs : List Fct} {f : Fct} {s : Strm} {i : Nat} (hf : (fs.drop i).find? (isOf s) = fs.find? (isOf s)) (h : fs[i]? = some f) (hp : isOf s f = true) : findF fs s = f ∧ foundF fs s = true := by
  have : fs.find? (isOf s) = some f := by rw [← hf, drop_get h, List.find?_cons_of_pos hp]
  simp [findF, foundF, this]
theorem find_none {fs : List Fct} {s : Strm} (hf : (fs.drop fs.length).find? (isOf s) = fs.find? (isOf s)) : findF fs s = zeroF ∧ foundF fs s = false := by
  have : fs.find? (isOf s) = none := by rw [← hf, List.drop_length]; rfl
  simp [findF, foundF, this]
theorem same_upto {α : Type} {us vs : List α} {i : Nat} {x y : α} (h : us.take i = vs.take i) (ha : us[i]? = some x) (hb : vs[i]? = some y) (e : x = y) : us.take (i + 1) = vs.take (i + 1) := by
  rw [take_succ ha, take_succ hb, h, e]
theorem differ_at {α : Type} {us vs : List α} {i : Nat} {x y : α} (ha : us[i]? = some x) (hb : vs[i]? = some y) (e : x ≠ y) : us ≠ vs := by
  intro h; rw [h, hb] at ha; exact e (Option.some.inj ha).symm
theorem find_is {s : Strm} {f : Fct} (h1 : f.device = s.device) (h2 : f.id = s.id) (h3 : f.counts = true) : isOf s f = true := by simp [isOf, h1, h2, h3]
theorem find_not1 {s : Strm} {f : Fct} (h1 : ¬ f.device = s.device) : isOf s f = false := by simp [isOf, h1]
theorem find_not2 {s : Strm} {f : Fct} (h1 : ¬ f.id = s.id) : isOf s f = false := by simp [isOf, h1]
theorem find_not3 {s : Strm} {f : Fct} (h1 : f.counts = false) : isOf s f = false := by simp [isOf, h1]
def inPeriod (p : Int) (s : Strm) : Bool := s.period == p
end Go.Proofs.YtmndhiaaolfepaaDoor
