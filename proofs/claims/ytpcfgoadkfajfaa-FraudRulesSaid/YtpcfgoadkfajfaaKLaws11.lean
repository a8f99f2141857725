/- Plain aids for the laws of law11. No program's function in it. -/
import Derived.Test.YtpcfgoadkfajfaaK10
namespace Go.Proofs.Ytpcfgoadkfajfaa
set_option linter.all false
open Go Go.RowKit
/-- A rule with a greater threshold. -/
abbrev mkN (r : Ru) (n : Int) : Ru := { r with n := n }
def easeR (r : Ru) : Ru := if r.act ≠ 3 ∧ 0 ≤ r.n ∧ r.n < 1000000 then mkN r (r.n + 1) else r
theorem set_n (Y : List Ru) (k : Nat) (x : Ru) (m : Int) : (List.map ruC Y).set k ((ruC x).setIfInBounds 3 (.int .i64 m)) = List.map ruC (Y.set k (mkN x m)) := by rw [List.map_set]; rfl
theorem map_same_step {α : Type} {l : List α} {k : Nat} {x : α} (f : α → α) (hx : l[k]? = some x) (hf : f x = x) : (l.take k).map f ++ l.drop k = (l.take (k + 1)).map f ++ l.drop (k + 1) := by
  have hk := (List.getElem?_eq_some_iff.1 hx).1
  rw [take_map_succ hx, hf, List.drop_eq_getElem_cons hk, List.append_assoc, (List.getElem?_eq_some_iff.1 hx).2]; rfl
def noJ (r : Ru) : Bool := decide (r.act ≠ 1) && decide (r.act ≠ 2)
theorem all_snocB {α : Type} {p : α → Bool} {l : List α} {i : Nat} {x : α} (h : l[i]? = some x) : (l.take (i + 1)).all p = ((l.take i).all p && p x) := by rw [take_succ h, List.all_append]; simp
theorem jud_ease (rs : List Ru) (ls : List Sm) (s : Sm) : jud (rs.map easeR) ls s ≤ jud rs ls s := by
  have hm : ∀ a, a = 1 ∨ a = 2 → meets (rs.map easeR) ls s a = true → meets rs ls s a = true := fun a ha h => by
    obtain ⟨q, hq, h2⟩ := List.any_eq_true.1 h
    obtain ⟨r, hr, rfl⟩ := List.mem_map.1 hq
    refine List.any_eq_true.2 ⟨r, hr, ?_⟩
    unfold easeR at h2
    split at h2
    · rename_i hc
      simp only [Bool.and_eq_true, decide_eq_true_eq, okR] at h2 ⊢
      omega
    · exact h2
  refine jud_le (fun h => ?_) (hm 2 (.inr rfl)) (hm 1 (.inl rfl))
  obtain ⟨r, hr, h2⟩ := List.any_eq_true.1 h
  refine List.any_eq_true.2 ⟨easeR r, List.mem_map.2 ⟨r, hr, rfl⟩, ?_⟩
  have h3 : r.act = 3 := by
    rw [Bool.and_eq_true, Bool.and_eq_true, decide_eq_true_eq] at h2; exact h2.1.2
  rw [show easeR r = r from if_neg (fun h => h.1 h3)]; exact h2
theorem noJ_none {rs : List Ru} {ls : List Sm} {s : Sm} (h : rs.all noJ = true) : jud rs ls s = 1 := jud_none fun r hr => by
  have := List.all_eq_true.1 h r hr
  simp only [noJ, Bool.and_eq_true, decide_eq_true_eq] at this
  exact this
def badR (r : Ru) : Ru := mkN r (-1 - ((pickN r.n 5 : Nat) : Int))
theorem bad_ok (r : Ru) : okR (badR r) = false := by
  unfold okR badR; rw [decide_eq_false_iff_not]; dsimp only [mkN]; omega
theorem jud_bads (rs : List Ru) (ls : List Sm) (s : Sm) : jud (rs.map badR) ls s = 1 := jud_bad fun r hr => by
  obtain ⟨q, _, rfl⟩ := List.mem_map.1 hr
  exact bad_ok q
/-- An exemption. -/
def exR (a : Int) : Ru := ⟨3, 1, 0, a⟩
theorem jud_exempt {rs : List Ru} {ls : List Sm} {s : Sm} {a : Int} (h1 : 1 ≤ a) (h2 : a ≤ 1000000) (h : s.acc = a) : jud (rs ++ [exR a]) ls s = 1 := by
  refine jud_free ?_
  unfold free; rw [List.any_append]
  simp [okR, exR, h, h1, h2]
/-- A pair of numbers. -/
abbrev prC (p : Int × Int) : Array Value := #[.int .i64 p.1, .int .i64 p.2]
theorem swap_perm {α : Type} {l : List α} {a b : Nat} {x y : α} (hx : l[a]? = some x) (hy : l[b]? = some y) : ((l.set a y).set b x).Perm l := by
  obtain ⟨ha, rfl⟩ := List.getElem?_eq_some_iff.1 hx
  obtain ⟨hb, rfl⟩ := List.getElem?_eq_some_iff.1 hy
  exact List.set_set_perm ha hb
theorem map_setC {α : Type} (enc : α → Array Value) (Y : List α) (k : Nat) (x : α) : (List.map enc Y).set k (enc x) = List.map enc (Y.set k x) := by rw [List.map_set]
theorem map_setJ (f : Sm → Int) (Y : List Sm) (k : Nat) (x : Sm) : (List.map iR (List.map f Y)).set k (iR (f x)) = List.map iR (List.map f (Y.set k x)) := by rw [List.map_set, List.map_set]
section
variable {P : Program} {w0 : World} {O : List Nat} {n : Nat} {D : List Deferred} {o : Oper} {V : List (Nat × Value)} {L : List Ent}
theorem yw_indexArrE {t e : TypeId} {x y : Operand} {b off len sz k : Nat} {q : Int} (ho : o.op = .indexAddr t x y) (ht : P.underlying t = some (.array len e)) (hs : SzT P e sz) (hx : ev V x = some (.pointer (some ⟨b, off, none⟩))) (hy : ev V y = some (.int .i64 q)) (hq : q = (k : Int)) (hk : k < len) :
    YldW P n D o V (.pointer (some ⟨b, off + k * sz, none⟩)) := by
  intro a w ha
  obtain ⟨i, h2, h3⟩ := hs
  subst hq
  have h4 : (0 : Int) ≤ (k : Int) ∧ (k : Int) < (len : Int) := by omega
  simp [execOp, ho, ha.eval hx, ha.eval hy, Instr.indexAt, Instr.sureAddr, asIntOf, run_underlying ht, sizeOf, typeInfo, h2, h3, hk, add_none]
end
end Go.Proofs.Ytpcfgoadkfajfaa
