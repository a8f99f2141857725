/- More rules: stores of whole blocks and of one cell, struct literals, cuts. -/
import Derived.Test.YtmndhiaaolfepaaDoorOps2
import Derived.Test.YtmndhiaaolfepaaDoorLaws
namespace Go.Proofs.YtmndhiaaolfepaaDoor
set_option linter.all false
open Go Go.RowKit

section
variable {P : Program} {w0 : World} {O : List Nat} {n : Nat} {D : List Deferred} {o : Oper} {V : List (Nat × Value)} {L : List Ent} {T : List (Nat × Value) → List Ent → Prop}

theorem op_storeAll {t : TypeId} {x y : Operand} {g i sz : Nat} {v : Value} {cs : Array Value} {tt : TypeId} (ho : o.op = .store t x y) (hd : o.dst = none) (hx : ev V x = some (.pointer (some ⟨g, 0, none⟩))) (hy : ev V y = some v) (hs : SzT P t sz)
    (hv : v.cells.size = sz) (h1 : ∀ u ∈ v.cells.toList, u.oneCell' = true) (hL : L[i]? = some (.blk g (.cells cs tt (0, 0)))) (hsz : cs.size = sz)
    (hT : T V (L.set i (.blk g (.cells v.cells tt (0, 0))))) : OpS P w0 O n D o V L T :=
  op_store (cs' := v.cells) ho hd hx hy hs hv h1 hL (by omega) (by rw [List.take_zero, List.nil_append, List.drop_eq_nil_of_le (by simp; omega), List.append_nil]) hT

theorem op_store1 {t : TypeId} {x y : Operand} {g j i : Nat} {v : Value} {cs cs' : Array Value} {tt : TypeId} (ho : o.op = .store t x y) (hd : o.dst = none) (hx : ev V x = some (.pointer (some ⟨g, j, none⟩))) (hy : ev V y = some v) (hs : SzT P t 1)
    (hv : v.oneCell' = true) (hL : L[i]? = some (.blk g (.cells cs tt (0, 0)))) (hj : Nat.blt j cs.size = true) (hcs : cs.setIfInBounds j v = cs')
    (hT : T V (L.set i (.blk g (.cells cs' tt (0, 0))))) : OpS P w0 O n D o V L T := by
  subst hcs
  have hc : v.cells = #[v] := by cases v <;> simp [Value.oneCell'] at hv <;> rfl
  have hlt : j < cs.size := by simpa using hj
  refine op_store (cs' := cs.setIfInBounds j v) ho hd hx hy hs (by rw [hc]; rfl) (by rw [hc]; simpa using hv) hL (by omega) ?_ hT
  rw [hc, Array.toList_setIfInBounds, List.set_eq_take_append_cons_drop]
  simp [hlt]

theorem yw_build {t : TypeId} {parts : Array (Nat × Operand)} {v : Value} {pv : List (Nat × Value)} (ho : o.op = .build t parts) (hp : parts.toList.mapM (fun p => (ev V p.2).map (fun v => (p.1, v))) = some pv)
    (hb : ∀ w, (Instr.build t pv.toArray).run P w = .ok v w) : YldW P n D o V v := by
  intro a w ha
  have key : ∀ (l : List (Nat × Operand)) (pv : List (Nat × Value)), l.mapM (fun p => (ev V p.2).map (fun v => (p.1, v))) = some pv → l.map (fun p => (p.1, a.eval p.2)) = pv := by
    intro l
    induction l with
    | nil => intro pv h; simp at h; simp [h]
    | cons p l ih =>
      intro pv h
      rw [List.mapM_cons] at h
      cases h1 : ev V p.2 with
      | none => rw [h1] at h; simp at h
      | some u =>
        rw [h1] at h
        cases h2 : l.mapM (fun p => (ev V p.2).map (fun v => (p.1, v))) with
        | none => rw [h2] at h; simp at h
        | some q =>
          rw [h2] at h
          simp at h
          subst h
          rw [List.map_cons, ih q h2, ha.eval h1]
  have e : (parts.map fun (p : Nat × Operand) => (p.1, a.eval p.2)) = pv.toArray := Array.ext' (by rw [Array.toList_map]; exact key _ _ hp)
  simp only [execOp, ho]
  simp only [e, Sem.run_bind, hb, Result.andThen_ok, Sem.run_pure]

/-- One state, of a family. -/
def Met {σ : Type} (Vx : σ → List (Nat × Value)) (Lx : σ → List Ent) (I : σ → Prop) (w0 : World) (O : List Nat) (n : Nat) (D : List Deferred) (e : Exit) (a : Act) (w : World) : Prop :=
  e = .normal ∧ ∃ x, I x ∧ Holds n D a (Vx x) ∧ SL w0 O w (Lx x)

theorem CX.cut {r : Option Nat} {Q : Exit → Act → World → Prop} {σ : Type} (Vx : σ → List (Nat × Value)) (Lx : σ → List Ent) (I : σ → Prop) {c d : Code} (h1 : CX P r (Met Vx Lx I w0 O n D) w0 O n D c V L) (h2 : ∀ x, I x → CX P r Q w0 O n D d (Vx x) (Lx x)) :
    CX P r Q w0 O n D (.seq c d) V L := by
  intro a w ha hw
  refine wpIn_seq (wpIn_mono (h1 a w ha hw) ?_)
  rintro e a' w' ⟨rfl, x, hI, ha', hw'⟩
  exact h2 x hI a' w' ha' hw'
theorem XX.meet {σ : Type} {Vx : σ → List (Nat × Value)} {Lx : σ → List Ent} {I : σ → Prop} (x : σ) (hI : I x) (hV : Sub V (Vx x)) (hL : (Lx x).Sublist L) : XX (Met Vx Lx I w0 O n D) w0 O n D .normal V L :=
  fun a w ha hw => ⟨rfl, x, hI, ha.sub hV, hw.sub hL⟩
theorem XX.know {Q : Exit → Act → World → Prop} {e : Exit} {t : Nat} {v u : Value} (hv : lk V t = some v) (h : v = u) (hx : XX Q w0 O n D e ((t, u) :: V) L) : XX Q w0 O n D e V L :=
  fun a w ha hw => hx a w (ha.cons hv h) hw
theorem XX.ents {Q : Exit → Act → World → Prop} {e : Exit} {L' : List Ent} (h : L = L') (hx : XX Q w0 O n D e V L') : XX Q w0 O n D e V L := h ▸ hx
theorem RX.ents {r : Option Nat} {ops : Array Oper} {Q : Exit → Act → World → Prop} {l : List Oper} {L' : List Ent} (h : L = L') (hx : RX P r ops Q w0 O n D l V L') : RX P r ops Q w0 O n D l V L := h ▸ hx
theorem CX.ents {r : Option Nat} {Q : Exit → Act → World → Prop} {c : Code} {L' : List Ent} (h : L = L') (hx : CX P r Q w0 O n D c V L') : CX P r Q w0 O n D c V L := h ▸ hx
end

/-- The cells of a fact, of a stream. -/
def Fct.cells (f : Fct) : Array Value := #[.int .i64 f.kind, .int .i64 f.id, .int .i64 f.version, .int .i64 f.period, .int .i64 f.second, .int .i64 f.account, .int .i64 f.device, .int .i64 f.recording, .int .i64 f.territory, .int .i64 f.holder, .int .i64 f.role, .int .i64 f.since, .int .i64 f.till, .int .i64 f.amount, .int .i64 f.share, .int .i64 f.currency, .int .i64 f.mark, .string f.text]
def Strm.cells (s : Strm) : Array Value := #[.int .i64 s.device, .int .i64 s.id, .int .i64 s.account, .int .i64 s.recording, .int .i64 s.territory, .int .i64 s.second, .int .i64 s.period, .int .i64 s.session, .int .i64 s.mark]
theorem Fct.plain (f : Fct) : ∀ u ∈ (Value.agg f.cells).cells.toList, u.oneCell' = true := by
  intro u hu
  simp only [Value.cells, Fct.cells, List.mem_cons, List.not_mem_nil, or_false] at hu
  rcases hu with rfl | rfl | rfl | rfl | rfl | rfl | rfl | rfl | rfl | rfl | rfl | rfl | rfl | rfl | rfl | rfl | rfl | rfl <;> rfl
theorem Strm.plain (s : Strm) : ∀ u ∈ (Value.agg s.cells).cells.toList, u.oneCell' = true := by
  intro u hu
  simp only [Value.cells, Strm.cells, List.mem_cons, List.not_mem_nil, or_false] at hu
  rcases hu with rfl | rfl | rfl | rfl | rfl | rfl | rfl | rfl | rfl <;> rfl
/-- An integer of 64 bits. -/
def i64 (n : Int) : Prop := -9223372036854775808 ≤ n ∧ n ≤ 9223372036854775807
structure Fct.wf (f : Fct) : Prop where
  kind : i64 f.kind
  id : i64 f.id
  version : i64 f.version
  period : i64 f.period
  second : i64 f.second
  account : i64 f.account
  device : i64 f.device
  recording : i64 f.recording
  territory : i64 f.territory
  holder : i64 f.holder
  role : i64 f.role
  since : i64 f.since
  till : i64 f.till
  amount : i64 f.amount
  share : i64 f.share
  currency : i64 f.currency
  mark : i64 f.mark

/-- A call of a function with a body is entered. -/
theorem enters_of {P : Program} {f : FuncId} {fn : Func} {c : Code} (hf : P.funcs[f]? = some fn) (hname : (fn.name == "runtime.NumGoroutine") = false) (hb : fn.body = some c) (args : Array Value) (w : World) :
    (callFunc f args).run P w = .ok (.enter f args) w := by
  have h1 : fn.name ≠ "runtime.NumGoroutine" := by simpa using hname
  simp [callFunc, hf, h1, hb]
end Go.Proofs.YtmndhiaaolfepaaDoor
