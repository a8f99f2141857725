/- Bytes as a string. -/
import Derived.Test.YtmndhiaaolfepaaDoorOps6
import Derived.Laws.BytesString
namespace Go.Proofs.YtmndhiaaolfepaaDoor
set_option linter.all false
open Go Go.RowKit
section
variable {P : Program} {w0 : World} {O : List Nat} {n : Nat} {D : List Deferred} {o : Oper} {V : List (Nat × Value)} {L : List Ent}
def bytesOf (ns : List Int) : ByteArray := ns.foldl (fun r n => r.push (UInt8.ofNat n.toNat)) ByteArray.empty
theorem y_bytesStr {s d e : TypeId} {x : Operand} {A : Option Addr} {cap i len c : Nat} {ey : TypeId} {xs : List (Array Value)} (ns : List Int) (ho : o.op = .convert s d x) (hx : ev V x = some (.slice A len c)) (hs : P.underlying s = some (.slice e)) (he : P.underlying e = some (.int .u8)) (hd : P.underlying d = some .string)
    (hL : L[i]? = some (.row A cap ey 1 xs)) (hxs : xs = ns.map fun n => #[.int .u8 n]) (hlen : ns.length = len) (hpos : 0 < len) : Yld P w0 O n D o V L (.string (bytesOf ns)) := by
  intro a w ha hw
  subst hxs
  subst hlen
  have hr := Ent.rd (hw.ents _ (List.mem_of_getElem? hL))
  obtain ⟨b, j, rfl⟩ := hr.some (k := 0) (by simpa using hpos)
  have hl := run_loadCells_list (P := P) (w := w) ⟨b, j, none⟩ (ns.map (Value.int .u8)) (fun k v hv => by
    rw [List.getElem?_map] at hv
    cases hk : ns[k]? with
    | none => rw [hk] at hv; simp at hv
    | some m =>
      rw [hk] at hv
      simp at hv
      subst hv
      obtain ⟨_, _, _, _, hc⟩ := hr.at_ k #[.int .u8 m] (by rw [List.getElem?_map, hk]; rfl)
      have := hc 0 (by decide)
      rw [add_none]
      simpa [ab, ao] using this)
  rw [List.length_map] at hl
  have h2 := run_bytesToString (P := P) w ⟨b, j, none⟩ ns.length c ns hl
  have h3 := run_convert_bytes_string (P := P) w s d e (some ⟨b, j, none⟩) ns.length c hs he hd
  simp only [execOp, ho, ha.eval hx, Sem.run_bind, h3, h2, Result.andThen_ok, Sem.run_pure]
  rfl
end
end Go.Proofs.YtmndhiaaolfepaaDoor
