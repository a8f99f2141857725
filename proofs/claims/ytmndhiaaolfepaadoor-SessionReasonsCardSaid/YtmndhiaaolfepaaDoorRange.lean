/- Ranges over functions, and scopes, in the calculus. -/
import Derived.Test.YtmndhiaaolfepaaDoorOps6
import Derived.RangeFuncLeaves
import Derived.RangeFuncRecord
import Derived.Scope
namespace Go.Proofs.YtmndhiaaolfepaaDoor
set_option linter.all false
open Go Go.RowKit

/-- A loop's record. -/
def mkRec (fn : FuncId) (tmps : Array Value) (ps : Array Tmp) (assign body : Code) (Dk : Nat) : Loop := { state := .ready, pending := none, fn, tmps, params := ps, assign, body, defers := Dk }
abbrev RB (l Dk : Nat) (rec : Loop) : List Ent := [.blk l (.loop rec), .blk Dk (.deferred (some []))]

section
variable {P : Program} {w0 : World} {O : List Nat} {n : Nat} {D : List Deferred} {o : Oper} {V : List (Nat × Value)} {L : List Ent} {T : List (Nat × Value) → List Ent → Prop} {Q : Exit → Act → World → Prop}

theorem CX.scope {c : Code} (h : CX P none (Exit.noGoto Q) w0 O n D c V L) : CX P none Q w0 O n D (.scope c) V L :=
  fun a w ha hw => wpIn_wide.2 (wp_scope_straight (wpIn_wide.1 (h a w ha hw)))
theorem XX.scope_normal (h : XX Q w0 O n D .normal V L) : XX (Exit.noGoto Q) w0 O n D .normal V L := h
theorem XX.scope_ret (h : XX Q w0 O n D .ret V L) : XX (Exit.noGoto Q) w0 O n D .ret V L := h

/-- A call of yield. -/
theorem op_yield {f : Operand} {xs : Array Operand} {ts : Array TypeId} {l d : Nat} {vs : List Value} {σ : Type} {LL : σ → List Ent} {post : σ → Prop} (M R : List Ent)
    (ho : o.op = .call { callee := .value f, args := xs, argTypes := ts }) (hd : o.dst = some d) (hdn : Nat.blt d n = true) (hf : ev V f = some (.func (.yield l) #[] #[])) (hx : evs V xs.toList = some vs) (hL : L.Perm (M ++ R))
    (hc : ∀ w, SL w0 O w (M ++ R) → SL w (M.flatMap Ent.blocks) w M → ∃ f tmps asg body, (Instr.yield l vs.toArray).run P w = .ok (.round l f tmps asg body) w ∧
      RoundIn Fence.wide 0 P l f tmps asg body w fun e w' => ∃ x, post x ∧ e = .returned (.bool true) ∧ SL w (M.flatMap Ent.blocks) w' (LL x))
    (hT : ∀ x, post x → T ((d, .bool true) :: V) (LL x ++ R)) : OpS P w0 O n D o V L T := by
  intro a w ha hw
  have hw' := hw.perm hL
  obtain ⟨f', tmps, asg, body, hy, hr⟩ := hc w hw' (hw'.restart (List.Perm.refl _))
  have h1 := ha.evals hx
  have e1 : xs.map a.eval = vs.toArray := Array.ext' (by simpa using h1)
  have hrun : (execOp a.eval o).run P w = .ok (.round l f' tmps asg body) w := by
    simp only [execOp, ho, resolve, ha.eval hf, Deferred.ofValue, e1]
    simp only [Sem.run_bind, Sem.run_pure, Result.andThen_ok, invoke]
    simpa using hy
  unfold Does
  rw [hrun, hd]
  refine RoundIn.mono hr ?_
  rintro e w'' ⟨x, hp, he, hs⟩
  exact ⟨_, he, _, _, hT x hp, ha.put hdn _, hw'.call rfl hs⟩

theorem putObj_SL {w : World} (h : SL w0 O w L) {i g : Nat} {ob : Obj} (hL : L[i]? = some (.blk g ob)) (o' : Obj) : SL w0 O (w.putObj g o') (L.set i (.blk g o')) := by
  have hg : w.heap[g]? = some ob := h.ents _ (List.mem_of_getElem? hL)
  exact h.setB hL o' rfl rfl rfl (by simp [World.putObj]) (World.putObj_heap_same (Array.getElem?_eq_some_iff.1 hg).1) (fun k hk => World.putObj_heap_other hk)

/-- One round, out of the walks of the assignment and of the body. -/
theorem round_of_CX {w : World} {l Dk p : Nat} {rec : Loop} {v : Value} {M : List Ent} {V0 : List (Nat × Value)} {σ τ : Type} (V1 : σ → List (Nat × Value)) (L1 : σ → List Ent) (I1 : σ → Prop) {LL : τ → List Ent} {post : τ → Prop}
    (hst : rec.state = .ready) (hpe : rec.pending = none) (hps : rec.params = #[p]) (hV : Holds n [] { tmps := rec.tmps.setIfInBounds p v, defers := [] } V0)
    (hA : CX P (some l) (Met V1 (fun x => RB l Dk rec ++ L1 x) I1 w O n []) w O n [] rec.assign V0 (RB l Dk rec ++ M))
    (hB : ∀ x, I1 x → CX P (some l) (Met (fun _ => []) (fun y => RB l Dk { rec with state := .busy } ++ LL y) post w O n []) w O n [] rec.body (V1 x) (RB l Dk { rec with state := .busy } ++ L1 x))
    (hw : SL w O w (RB l Dk rec ++ M)) :
    ∃ f tmps asg body, (Instr.yield l #[v]).run P w = .ok (.round l f tmps asg body) w ∧
      RoundIn Fence.wide 0 P l f tmps asg body w fun e w' => ∃ y, post y ∧ e = .returned (.bool true) ∧ SL w O w' (RB l Dk rec ++ LL y) := by
  have hl : w.heap[l]? = some (.loop rec) := hw.ents (.blk l (.loop rec)) (by simp)
  have hy := run_yield (P := P) (args := #[v]) hl (by simp [hps])
  have e : (rec.params.zip #[v]).foldl (fun tmps (t, a) => tmps.setIfInBounds t a) rec.tmps = rec.tmps.setIfInBounds p v := by simp [hps]
  rw [e] at hy
  refine ⟨_, _, _, _, hy, roundIn_of_wpIn (F := Fence.wide) trivial ?_⟩
  refine wpIn_mono (hA _ w hV hw) ?_
  rintro e a1 w1 ⟨rfl, x, hI, ha1, hw1⟩
  have hl1 : w1.heap[l]? = some (.loop rec) := hw1.ents (.blk l (.loop rec)) (by simp)
  refine ⟨_, run_beginRound hl1 hst, ?_⟩
  have hw2 : SL w O (w1.putObj l (.loop { rec with state := .busy })) (RB l Dk { rec with state := .busy } ++ L1 x) := putObj_SL (i := 0) hw1 rfl _
  refine wpIn_mono (hB x hI a1 _ ha1 hw2) ?_
  rintro e a3 w3 ⟨rfl, y, hp, _, hw3⟩
  have hl3 : w3.heap[l]? = some (.loop { rec with state := .busy }) := hw3.ents (.blk l (.loop { rec with state := .busy })) (by simp)
  have hr3 := run_endRound (P := P) none hl3
  have e3 : ({ ({ rec with state := .busy } : Loop) with state := if (none : Option Code).isNone then .ready else .done, pending := none } : Loop) = rec := by
    cases rec; simp at hst hpe; simp [hst, hpe]
  rw [e3] at hr3
  exact ⟨_, _, hr3, y, hp, rfl, putObj_SL (i := 0) hw3 rfl _⟩

theorem CX.rangeFunc {g : Operand} {ps : Array Tmp} {asg body : Code} {gf : Nat} {cap : Array Value} {σ : Type} {LL : σ → List Ent} {post : σ → Prop} (M R : List Ent) (hL : L.Perm (M ++ R)) (hg : ev V g = some (.func (.func gf) #[] cap))
    (ent : ∀ args w, (callFunc gf args).run P w = .ok (.enter gf args) w)
    (hc : ∀ (l Dk fn : Nat) (a : Act) (w : World), Holds n D a V → SL w0 O w (RB l Dk (mkRec fn a.tmps ps asg body Dk) ++ (M ++ R)) → SL w ((RB l Dk (mkRec fn a.tmps ps asg body Dk) ++ M).flatMap Ent.blocks) w (RB l Dk (mkRec fn a.tmps ps asg body Dk) ++ M) →
      Calls P gf (#[.func (.yield l) #[] #[]] ++ cap) w fun e w' => ∃ x, post x ∧ (∃ v, e = .returned v) ∧ SL w ((RB l Dk (mkRec fn a.tmps ps asg body Dk) ++ M).flatMap Ent.blocks) w' (RB l Dk (mkRec fn a.tmps ps asg body Dk) ++ LL x))
    (hT : ∀ x l Dk ob, post x → XX Q w0 O n ({ target := .collected Dk, args := #[] } :: D) .normal V (.blk l ob :: .blk Dk (.deferred (some [])) :: (LL x ++ R))) :
    CX P none Q w0 O n D (.rangeFunc g ps asg body) V L := by
  intro a w ha hw
  refine wpIn_rangeFunc (F := FW none) fun fn _ => ?_
  obtain ⟨W1, hW1⟩ : ∃ W1, (w.alloc (.deferred (some []))).alloc (.loop (mkRec fn a.tmps ps asg body w.heap.size)) = W1 := ⟨_, rfl⟩
  have hs1 : SL w0 O W1 (RB (w.heap.size + 1) w.heap.size (mkRec fn a.tmps ps asg body w.heap.size) ++ (M ++ R)) := by
    have := ((hw.perm hL).alloc (.deferred (some []))).alloc (.loop (mkRec fn a.tmps ps asg body w.heap.size))
    rw [World.size_alloc, hW1] at this
    exact this
  refine ⟨w.heap.size + 1, [{ target := .collected w.heap.size, args := #[] }], W1, { target := .fn (.func gf) cap, args := #[.func (.yield (w.heap.size + 1)) #[] #[]] }, W1, gf,
    #[.func (.yield (w.heap.size + 1)) #[] #[]] ++ cap, W1, ?_, ?_, ?_, ?_, ?_, ?_⟩
  · rw [← hW1]; exact run_enterLoop_outer _ _ _ _ _
  · simp only [resolve, ha.eval hg]
    simp [Deferred.ofValue, Act.eval]
  · intro f' _; trivial
  · simp [invoke, ent]
  · intro hh; simp [Fence.wide] at hh
  · have hr := hc (w.heap.size + 1) w.heap.size fn a W1 ha hs1 (hs1.restart (by rw [List.append_assoc]))
    refine CallsIn.mono (callsIn_wide.2 hr) ?_
    rintro e w' ⟨x, hp, ⟨v, rfl⟩, hs⟩
    have hs' : SL w0 O w' ((RB (w.heap.size + 1) w.heap.size (mkRec fn a.tmps ps asg body w.heap.size) ++ LL x) ++ R) := SL.call (M := RB (w.heap.size + 1) w.heap.size (mkRec fn a.tmps ps asg body w.heap.size) ++ M) (by rw [List.append_assoc]; exact hs1) rfl hs
    have hl : w'.heap[w.heap.size + 1]? = some (.loop (mkRec fn a.tmps ps asg body w.heap.size)) := hs'.ents (.blk (w.heap.size + 1) (.loop _)) (by simp)
    have hend := run_endLoop (P := P) hl (by simp [mkRec])
    refine ⟨none, _, hend, ?_⟩
    exact hT x (w.heap.size + 1) w.heap.size _ hp _ _ ⟨by rw [← ha.defers]; rfl, ha.size, ha.at_⟩ (putObj_SL (i := 0) hs' rfl _)
end

/-! ### The end of a function that holds a range -/
section
variable {P : Program} {w0 : World} {O : List Nat} {L : List Ent} {fn : Func} {R : Ending → World → Prop} {n : Nat} {V : List (Nat × Value)}

theorem calls_of_CXM {f : FuncId} {c : Code} {args : List Value} (hf : P.funcs[f]? = some fn) (hb : fn.body = some c) (hn : args.length ≤ fn.ntmps) (hs : SL w0 O w0 L)
    (h : CX P none (bodyPostM Fence.wide 0 P fn R) w0 O fn.ntmps [] c (initV 0 args) L) : Calls P f args.toArray w0 R := by
  refine callsIn_wide.1 (callsIn_of_wp_marks (F := Fence.wide) (n := 0) hf hb trivial ?_ rfl)
  have := h _ w0 (Holds.init hn) hs
  simpa [FW_wide] using this

/-- A result of one cell lies in a block; the rounds' block is shut. -/
theorem ret_cellM {t g i Dk k : Nat} {tt : TypeId} {v : Value} {te : TypeId} {fr : Nat × Nat} (hr : fn.results = #[.cell t tt]) (hv : lk V t = some (.pointer (some ⟨g, 0, none⟩))) (h1 : One P tt) (hD : L[k]? = some (.blk Dk (.deferred (some [])))) (hL : (L.set k (.blk Dk (.deferred none)))[i]? = some (.blk g (.cells #[v] te fr)))
    (h : ∀ w, SL w0 O w (L.set k (.blk Dk (.deferred none))) → R (.returned v) w) : XX (bodyPostM Fence.wide 0 P fn R) w0 O n [{ target := .collected Dk, args := #[] }] .ret V L := by
  intro a w ha hw
  have hp := ha.at_ _ _ hv
  have hDk : w.heap[Dk]? = some (.deferred (some [])) := hw.ents _ (List.mem_of_getElem? hD)
  have hw' := putObj_SL hw hD (.deferred none)
  have hg : (w.putObj Dk (.deferred none)).heap[g]? = some (.cells #[v] te fr) := hw'.ents _ (List.mem_of_getElem? hL)
  have hc : (w.putObj Dk (.deferred none)).cell? ⟨g, 0, none⟩ = some v := by rw [cell_of_row _ g 0 #[v] te fr hg]; rfl
  show LeavesInM Fence.wide 0 P fn a.tmps R a.defers .returning w
  rw [ha.defers]
  refine ⟨by simp, .inl ⟨Dk, _, rfl, run_takeDeferred hDk, ?_⟩⟩
  refine ⟨v, ?_, h _ hw'⟩
  simp [results, hr, hp, asAddr, run_load_one h1 hc]
end
end Go.Proofs.YtmndhiaaolfepaaDoor
