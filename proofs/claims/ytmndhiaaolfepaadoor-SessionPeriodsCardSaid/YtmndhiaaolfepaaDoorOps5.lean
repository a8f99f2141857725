/- Calls that are handed memory of the caller's; knowing entries anew; ranges over functions. -/
import Derived.Test.YtmndhiaaolfepaaDoorOps4
import Derived.RangeFuncIn
namespace Go.Proofs.YtmndhiaaolfepaaDoor
set_option linter.all false
open Go Go.RowKit

theorem perm_pick {α : Type} : ∀ {l : List α} (i : Nat) {p : α}, l[i]? = some p → l.Perm (p :: l.eraseIdx i)
  | [], i, p, h => by simp at h
  | a :: l, 0, p, h => by
    have : a = p := by simpa using h
    subst this; exact List.Perm.refl _
  | a :: l, i + 1, p, h => by
    have h' : l[i]? = some p := by simpa using h
    exact ((perm_pick i h').cons a).trans (List.Perm.swap _ _ _)
theorem perm_pick2 {α : Type} {l : List α} (i j : Nat) {p q : α} (h : l[i]? = some p) (h' : (l.eraseIdx i)[j]? = some q) : l.Perm ([p, q] ++ (l.eraseIdx i).eraseIdx j) :=
  (perm_pick i h).trans ((perm_pick j h').cons _)
theorem perm_pick1 {α : Type} {l : List α} (i : Nat) {p : α} (h : l[i]? = some p) : l.Perm ([p] ++ l.eraseIdx i) := perm_pick i h

section
variable {P : Program} {w0 : World} {O : List Nat} {n : Nat} {D : List Deferred} {o : Oper} {V : List (Nat × Value)} {L : List Ent} {T : List (Nat × Value) → List Ent → Prop}

/-- The entries M, as another call finds them. -/
theorem SL.restart {w : World} (h : SL w0 O w L) {M R : List Ent} (hL : L.Perm (M ++ R)) : SL w (M.flatMap Ent.blocks) w M := by
  have h' := h.perm hL
  refine SL.start w M (fun p hp => h'.ents p (List.mem_append_left _ hp)) ?_
  have := h'.nodup
  rw [List.flatMap_append] at this
  exact (List.nodup_append.1 this).1

/-- A callee that is handed the entries M. -/
theorem op_callP {f : Operand} {xs : Array Operand} {ts : Array TypeId} {k d : Nat} {cap : Array Value} {vs : List Value} {σ : Type} {val : σ → Value} {LL : σ → List Ent} {post : σ → Prop} (M R : List Ent)
    (ho : o.op = .call { callee := .value f, args := xs, argTypes := ts }) (hd : o.dst = some d) (hdn : Nat.blt d n = true) (hf : ev V f = some (.func (.func k) #[] cap)) (hx : evs V xs.toList = some vs)
    (ent : ∀ args w, (callFunc k args).run P w = .ok (.enter k args) w) (hL : L.Perm (M ++ R))
    (hc : ∀ w, SL w0 O w (M ++ R) → SL w (M.flatMap Ent.blocks) w M → Calls P k (vs.toArray ++ cap) w fun e w' => ∃ x, post x ∧ e = .returned (val x) ∧ SL w (M.flatMap Ent.blocks) w' (LL x))
    (hT : ∀ x, post x → T ((d, val x) :: V) (LL x ++ R)) : OpS P w0 O n D o V L T := by
  have h := op_call (P := P) (w0 := w0) (O := O) (n := n) (D := D) (o := o) (V := V) (L := M ++ R) (T := T) ho hd hdn hf hx ent rfl (fun w hw => hc w hw (hw.restart (List.Perm.refl _))) hT
  intro a w ha hw
  exact h a w ha (hw.perm hL)

/-- An entry known otherwise. -/
theorem RX.know1 {r : Option Nat} {ops : Array Oper} {Q : Exit → Act → World → Prop} {l : List Oper} (i : Nat) {p q : Ent} (hL : L[i]? = some p) (e : p = q) (h : RX P r ops Q w0 O n D l V (L.set i q)) : RX P r ops Q w0 O n D l V L := by
  subst e
  have : L.set i p = L := by
    obtain ⟨hi, h⟩ := List.getElem?_eq_some_iff.1 hL
    subst h; exact List.set_getElem_self hi
  rw [this] at h
  exact h

theorem SL.pick {w : World} (h : SL w0 O w L) {L' R : List Ent} (hL : L.Perm (L' ++ R)) : SL w0 O w L' := (h.perm hL).sub (List.sublist_append_left _ _)

theorem XX.meetP {σ : Type} {Vx : σ → List (Nat × Value)} {Lx : σ → List Ent} {I : σ → Prop} (R : List Ent) (x : σ) (hI : I x) (hV : Sub V (Vx x)) (hL : L.Perm (Lx x ++ R)) : XX (Met Vx Lx I w0 O n D) w0 O n D .normal V L :=
  fun a w ha hw => ⟨rfl, x, hI, ha.sub hV, hw.pick hL⟩
theorem XX.againP {Q : Exit → Act → World → Prop} {σ : Type} {Vx : σ → List (Nat × Value)} {Lx : σ → List Ent} {I : σ → Prop} {m : σ → Nat} {k : Nat} (R : List Ent) (x : σ) (hm : m x < k) (hI : I x) (hV : Sub V (Vx x)) (hL : L.Perm (Lx x ++ R)) :
    XX (Exit.then (Again Vx Lx I m w0 O n D k) Q) w0 O n D .normal V L :=
  fun a w ha hw => ⟨m x, hm, x, rfl, hI, ha.sub hV, hw.pick hL⟩
theorem CX.drawL {Q : Exit → Act → World → Prop} {id : Nat} {l : List Oper} (th : Nat) (LS : List Ent) (hm : P.follows .mixedOrders = true) (h : DX P l.toArray Q w0 O n D th LS l.toArray.size 0 V L) : CX P none Q w0 O n D (.region id l.toArray true) V L := by
  intro a w ha hw
  refine wpIn_region_any hm ?_
  rw [← maskA_zero]
  exact wpAnyN.sound _ _ _ _ (h a _ ha (hw.drew _))
theorem y_lookupE {t : TypeId} {m x : Operand} {g i : Nat} {f : Int → Option Value} {k : Int} {z v : Value} (ho : o.op = .lookup t m x false) (hm : ev V m = some (.map (some g))) (hx : ev V x = some (.int .i64 k)) (ht : MapT P t z) (hL : L[i]? = some (.imap g f)) (hv : (f k).getD z = v) :
    Yld P w0 O n D o V L v := hv ▸ y_lookup ho hm hx ht hL
end
end Go.Proofs.YtmndhiaaolfepaaDoor
