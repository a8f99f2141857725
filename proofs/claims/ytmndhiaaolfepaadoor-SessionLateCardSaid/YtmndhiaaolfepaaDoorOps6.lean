/- Structs compared, field by field. -/
import Derived.Test.YtmndhiaaolfepaaDoorOps5
namespace Go.Proofs.YtmndhiaaolfepaaDoor
set_option linter.all false
open Go Go.RowKit
section
variable {P : Program} {w : World}
theorem fieldsOf_of {t : TypeId} {fs : Array Field} (h : P.underlying t = some (.struct fs)) : P.fieldsOf t = fs := by simp [Program.fieldsOf, h]
theorem run_part_one {t : TypeId} {xs : Array Value} {off : Nat} {v : Value} (h : One P t) (hx : xs[off]? = some v) : (part t xs off).run P w = .ok v w := by
  obtain ⟨d, hd, h1⟩ := h
  have : (isAgg t).run P w = .ok false w := by
    simp only [isAgg, Sem.run_bind, run_underlying hd, Result.andThen_ok]
    cases d <;> simp [oneB] at h1 ⊢
  simp [part, Sem.run_bind, this, hx]
theorem eqF_nil {d : Nat} {xs ys : Array Value} : (Op.eqFields (d + 1) xs ys []).run P w = .ok true w := by simp [Op.eqFields]
theorem eqF_int {d : Nat} {xs ys : Array Value} {f : Field} {fs : List Field} {k k' : IntKind} {a b : Int} {r : Bool} (hn : (f.name == "_") = false) (ht : P.underlying f.type = some (.int k')) (hx : xs[f.offset]? = some (.int k a)) (hy : ys[f.offset]? = some (.int k b))
    (h : (Op.eqFields (d + 1) xs ys fs).run P w = .ok r w) : (Op.eqFields (d + 1) xs ys (f :: fs)).run P w = .ok (a == b && r) w := by
  have hn' : f.name ≠ "_" := by simpa using hn
  have h1 : One P f.type := ⟨_, ht, rfl⟩
  simp only [Op.eqFields, hn', ne_eq, not_false_eq_true, if_true, Sem.run_bind, run_part_one h1 hx, run_part_one h1 hy, Result.andThen_ok, run_equalIn_int w d f.type k k' a b ht]
  cases a == b <;> simp [h]
theorem eqF_str {d : Nat} {xs ys : Array Value} {f : Field} {fs : List Field} {a b : ByteArray} {r : Bool} (hn : (f.name == "_") = false) (ht : P.underlying f.type = some .string) (hx : xs[f.offset]? = some (.string a)) (hy : ys[f.offset]? = some (.string b))
    (h : (Op.eqFields (d + 1) xs ys fs).run P w = .ok r w) : (Op.eqFields (d + 1) xs ys (f :: fs)).run P w = .ok (a.toList == b.toList && r) w := by
  have hn' : f.name ≠ "_" := by simpa using hn
  have h1 : One P f.type := ⟨_, ht, rfl⟩
  simp only [Op.eqFields, hn', ne_eq, not_false_eq_true, if_true, Sem.run_bind, run_part_one h1 hx, run_part_one h1 hy, Result.andThen_ok, run_equalIn_string w d f.type a b ht]
  cases a.toList == b.toList <;> simp [h]
theorem equal_of {d : Nat} {t : TypeId} {xs ys : Array Value} {fs : Array Field} {r : Bool} (ht : P.underlying t = some (.struct fs)) (hp : P.stoodInHeld t = false) (h : (Op.eqFields d xs ys fs.toList).run P w = .ok r w) : (Op.equalIn (d + 1) t (.agg xs) (.agg ys)).run P w = .ok r w := by
  have e := fieldsOf_of ht
  rw [run_equalIn_agg w d t xs ys (by rw [e]; exact ht) hp, e]
  exact h
theorem y_lookupOkE {w0 : World} {O : List Nat} {n : Nat} {D : List Deferred} {o : Oper} {V : List (Nat × Value)} {L : List Ent} {t : TypeId} {m x : Operand} {g i : Nat} {f : Int → Option Value} {k : Int} {z v : Value} (ho : o.op = .lookup t m x true) (hm : ev V m = some (.map (some g))) (hx : ev V x = some (.int .i64 k)) (ht : MapT P t z) (hL : L[i]? = some (.imap g f)) (hf : f k = some v) :
    Yld P w0 O n D o V L (.tuple #[v, .bool true]) := by
  have := y_lookupOk (P := P) (w0 := w0) (O := O) (n := n) (D := D) ho hm hx ht hL
  rw [hf] at this
  exact this
theorem SL.cellOf {w0 : World} {O : List Nat} {L : List Ent} (hw : SL w0 O w L) {g i j : Nat} {cs : Array Value} {t : TypeId} {fr : Nat × Nat} {v : Value} (hL : L[i]? = some (.blk g (.cells cs t fr))) (hv : cs[j]? = some v) : w.cell? ⟨g, j, none⟩ = some v := by
  rw [cell_of_row w g j cs t fr (hw.ents _ (List.mem_of_getElem? hL))]; exact hv
end
theorem op_storeElemE {P : Program} {w0 : World} {O : List Nat} {n : Nat} {D : List Deferred} {o : Oper} {V : List (Nat × Value)} {L : List Ent} {T : List (Nat × Value) → List Ent → Prop} {t e : TypeId} {x y : Operand} {A : Option Addr} {cap sz k i : Nat} {v : Value} {xs ys : List (Array Value)} (ho : o.op = .store t x y) (hd : o.dst = none) (hx : ev V x = some (.pointer (some ⟨ab A, ao A + k * sz, none⟩))) (hy : ev V y = some v) (hs : SzT P t sz)
    (hv : v.cells.size = sz) (h1 : ∀ u ∈ v.cells.toList, u.oneCell' = true) (hL : L[i]? = some (.row A cap e sz xs)) (hk : k < xs.length) (hset : xs.set k v.cells = ys)
    (hT : T V (L.set i (.row A cap e sz ys))) : OpS P w0 O n D o V L T :=
  op_storeElem ho hd hx hy hs hv h1 hL hk (by rw [hset]; exact hT)
/-! ### Append, of elements under an encoding -/
section
variable {P : Program} {w0 : World} {O : List Nat} {n : Nat} {D : List Deferred} {o : Oper} {V : List (Nat × Value)} {L : List Ent} {T : List (Nat × Value) → List Ent → Prop}
theorem op_appendM {α : Type} (enc : α → Array Value) {x y : Operand} {t e : TypeId} {d sz bytes i j : Nat} {z : Value} {A B : Option Addr} {cap c capy m : Nat} {ey : TypeId} {xs : List α} (ys : List α) {yc : List (Array Value)}
    (ho : o.op = .call { callee := .builtin .append, args := #[x, y], argTypes := #[t, t] }) (hd : o.dst = some d) (hdn : Nat.blt d n = true) (ht : SlB P t e sz bytes z) (hx : ev V x = some (.slice A xs.length cap)) (hL : L[i]? = some (.row A cap e sz (xs.map enc)))
    (hy : ev V y = some (.slice B m c)) (hm : ys.length = m) (hLy : L[j]? = some (.row B capy ey sz yc)) (hyc : ys.map enc = yc) (h63 : xs.length + ys.length ≤ 9223372036854775807) (hby : (xs.length + ys.length) * bytes ≤ 140737488355328)
    (hT : ∀ A' cap', T ((d, .slice A' (xs ++ ys).length cap') :: V) (L.set i (.row A' cap' e sz ((xs ++ ys).map enc)))) : OpS P w0 O n D o V L T := by
  subst hyc
  subst hm
  have e1 : (xs.map enc).length = xs.length := List.length_map _
  have e2 : (xs.map enc ++ ys.map enc) = (xs ++ ys).map enc := List.map_append.symm
  refine op_append (xs := xs.map enc) (ys := ys.map enc) ho hd hdn ht (by rw [e1]; exact hx) hL hy (List.length_map _) hLy (by rw [e1]; exact h63) (by rw [e1]; exact hby) fun A' cap' => ?_
  rw [e2, List.length_map]
  exact hT A' cap'
theorem op_appendM0 {α : Type} (enc : α → Array Value) {x y : Operand} {t e : TypeId} {d sz bytes i : Nat} {z : Value} {A B : Option Addr} {cap c m : Nat} {xs : List α} (ys : List α)
    (ho : o.op = .call { callee := .builtin .append, args := #[x, y], argTypes := #[t, t] }) (hd : o.dst = some d) (hdn : Nat.blt d n = true) (ht : SlB P t e sz bytes z) (hx : ev V x = some (.slice A xs.length cap)) (hL : L[i]? = some (.row A cap e sz (xs.map enc)))
    (hy : ev V y = some (.slice B m c)) (hm : ys.length = m) (hr : Rd w0 B sz (ys.map enc)) (hO : ab B ∉ O) (h63 : xs.length + ys.length ≤ 9223372036854775807) (hby : (xs.length + ys.length) * bytes ≤ 140737488355328)
    (hT : ∀ A' cap', T ((d, .slice A' (xs ++ ys).length cap') :: V) (L.set i (.row A' cap' e sz ((xs ++ ys).map enc)))) : OpS P w0 O n D o V L T := by
  subst hm
  have e1 : (xs.map enc).length = xs.length := List.length_map _
  have e2 : (xs.map enc ++ ys.map enc) = (xs ++ ys).map enc := List.map_append.symm
  refine op_append0 (xs := xs.map enc) (ys := ys.map enc) ho hd hdn ht (by rw [e1]; exact hx) hL hy (List.length_map _) hr hO (by rw [e1]; exact h63) (by rw [e1]; exact hby) fun A' cap' => ?_
  rw [e2, List.length_map]
  exact hT A' cap'
theorem RX.rowNil {r : Option Nat} {ops : Array Oper} {Q : Exit → Act → World → Prop} {l : List Oper} (e : TypeId) (sz : Nat) (h : RX P r ops Q w0 O n D l V (.row none 0 e sz [] :: L)) : RX P r ops Q w0 O n D l V L :=
  fun a w ha hw => h a w ha (hw.rowNil e sz)
theorem Ent.some {w : World} {A : Option Addr} {cap : Nat} {e : TypeId} {sz : Nat} {xs : List (Array Value)} (h : (Ent.row A cap e sz xs).sat w) (hl : 0 < xs.length) : ∃ b j, A = Option.some ⟨b, j, none⟩ := by
  obtain ⟨⟨_, h2⟩, _⟩ := h
  rcases h2 with ⟨_, hn⟩ | ⟨g, _, _, hv, _⟩
  · omega
  · injection hv with hA _ _
    exact ⟨g, 0, hA⟩
/-- A slice's address, known ahead of a step. -/
theorem RX.rowSome {r : Option Nat} {ops : Array Oper} {Q : Exit → Act → World → Prop} {l : List Oper} (i : Nat) {A : Option Addr} {cap : Nat} {e : TypeId} {sz : Nat} {xs : List (Array Value)} (hL : L[i]? = Option.some (.row A cap e sz xs)) (hl : 0 < xs.length)
    (h : (∃ b j, A = Option.some ⟨b, j, none⟩) → RX P r ops Q w0 O n D l V L) : RX P r ops Q w0 O n D l V L :=
  fun a w ha hw => h (Ent.some (hw.ents _ (List.mem_of_getElem? hL)) hl) a w ha hw
theorem CX.rowSome {r : Option Nat} {Q : Exit → Act → World → Prop} {c : Code} (i : Nat) {A : Option Addr} {cap : Nat} {e : TypeId} {sz : Nat} {xs : List (Array Value)} (hL : L[i]? = Option.some (.row A cap e sz xs)) (hl : 0 < xs.length)
    (h : (∃ b j, A = Option.some ⟨b, j, none⟩) → CX P r Q w0 O n D c V L) : CX P r Q w0 O n D c V L :=
  fun a w ha hw => h (Ent.some (hw.ents _ (List.mem_of_getElem? hL)) hl) a w ha hw
end
/-- The same in all fields. -/
def Fct.same (f g : Fct) : Bool := f.kind == g.kind && (f.id == g.id && (f.version == g.version && (f.period == g.period && (f.second == g.second && (f.account == g.account && (f.device == g.device && (f.recording == g.recording && (f.territory == g.territory && (f.holder == g.holder && (f.role == g.role && (f.since == g.since && (f.till == g.till && (f.amount == g.amount && (f.share == g.share && (f.currency == g.currency && (f.mark == g.mark && (f.text.toList == g.text.toList && true)))))))))))))))))
def Strm.same (f g : Strm) : Bool := f.device == g.device && (f.id == g.id && (f.account == g.account && (f.recording == g.recording && (f.territory == g.territory && (f.second == g.second && (f.period == g.period && (f.session == g.session && (f.mark == g.mark && true))))))))
theorem Strm.same_iff (f g : Strm) : f.same g = true ↔ f = g := by
  obtain ⟨⟩ := f
  obtain ⟨⟩ := g
  simp [Strm.same]
end Go.Proofs.YtmndhiaaolfepaaDoor
