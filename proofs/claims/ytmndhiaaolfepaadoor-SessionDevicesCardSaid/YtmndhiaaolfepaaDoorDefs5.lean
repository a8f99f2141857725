/- The reference's fields of a play. -/
import Derived.Test.YtmndhiaaolfepaaDoorDefs4
namespace Go.Proofs.YtmndhiaaolfepaaDoor
set_option linter.all false
open Go Go.RowKit
def playOf (f : Fct) : Fct := { kind := f.kind, id := f.id, version := f.version, period := 0, second := f.second, account := f.account, device := f.device, recording := f.recording, territory := f.territory, holder := 0, role := 0, since := 0, till := 0, amount := f.amount, share := 0, currency := 0, mark := f.mark, text := .empty }
def playOk (f : Fct) : Bool := within f.id 1 1000000 && within f.account 1 1000000 && within f.device 1 1000000 && within f.recording 1 1000000 && within f.territory 0 7 && within f.second 0 3155759999 && within f.amount 0 86400000 && within f.mark 0 1
theorem empty_text (t : ByteArray) : (ByteArray.empty.toList == t.toList) = t.data.toList.isEmpty := by
  rw [ByteArray.toList_eq, ByteArray.toList_eq]
  cases t.data.toList <;> rfl
theorem ref_valid {f : Fct} {x : Fct × Bool} (hk : f.kind = 1) (h1 : x.1 = playOf f) (h2 : x.2 = playOk f) : f.valid = (x.2 && Fct.same x.1 f && within f.version 1 1000) := by
  have e := empty_text f.text
  have z : ∀ n : Int, ((0 : Int) == n) = (n == 0) := fun n => by rw [Bool.eq_iff_iff]; simp; exact eq_comm
  rw [h1, h2]
  simp only [Fct.valid, playOk, Fct.same, playOf, e, z, hk, beq_self_eq_true, Bool.true_and, Bool.and_true]
  rw [Bool.eq_iff_iff]
  simp only [Bool.and_eq_true]
  constructor <;> intro h <;> simp only [h, and_self]
end Go.Proofs.YtmndhiaaolfepaaDoor
