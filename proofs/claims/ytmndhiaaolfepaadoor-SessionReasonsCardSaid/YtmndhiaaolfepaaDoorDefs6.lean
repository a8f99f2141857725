/- ids and sane. -/
import Derived.Test.YtmndhiaaolfepaaDoorDefs5
import Derived.Test.YtmndhiaaolfepaaDoorOps7
namespace Go.Proofs.YtmndhiaaolfepaaDoor
set_option linter.all false
open Go Go.RowKit
def idsF (ss : List Strm) : ByteArray := (ss.take 9).foldl (fun r s => r ++ bytesOf [48 + s.id % 10, 58, 48 + s.session % 10, 32]) ByteArray.empty
theorem bytesOf_size (ns : List Int) : (bytesOf ns).size = ns.length := by
  have : ∀ (ns : List Int) (r : ByteArray), (ns.foldl (fun r n => r.push (UInt8.ofNat n.toNat)) r).size = r.size + ns.length := by
    intro ns
    induction ns with
    | nil => intro r; rfl
    | cons n ns ih => intro r; rw [List.foldl_cons, ih, ByteArray.size_push]; simp; omega
  have h := this ns ByteArray.empty
  simpa [bytesOf] using h
theorem ids_snoc {ss : List Strm} {i : Nat} {s : Strm} (h : ss[i]? = some s) (hi : i < 9) : idsF (ss.take (i + 1)) = idsF (ss.take i) ++ bytesOf [48 + s.id % 10, 58, 48 + s.session % 10, 32] := by
  have e : ∀ k, k ≤ 9 → (ss.take k).take 9 = ss.take k := fun k hk => by rw [List.take_take, Nat.min_eq_right hk]
  unfold idsF
  rw [e _ (by omega), e _ (by omega), take_succ h, List.foldl_append]; rfl
theorem ids_done {ss : List Strm} {i : Nat} (h : ss.length ≤ i ∨ i = 9) : idsF (ss.take i) = idsF ss := by
  unfold idsF
  rcases h with h | rfl
  · rw [List.take_of_length_le h]
  · rw [List.take_take, Nat.min_self]
theorem wrap_u8 {x : Int} (h0 : 0 ≤ x) (h1 : x < 256) : IntKind.u8.wrap x = x := by
  unfold IntKind.wrap
  simp [IntKind.bits, IntKind.signed]
  omega
end Go.Proofs.YtmndhiaaolfepaaDoor
