/- Loops whose rounds leave marks for the end of the call; ranges over functions that are left by a jump. Accounts grouped by what they represent. No program's function in it. Walks, printed by a program. What uniq keeps. No program's function in it. Walks, printed by a program. Each account with the first of its group. No program's function in it. Measures and marks of streams, plainly. No program in it. Walks, printed by a program. A map's element read and stored by its entry. Streams by subjects, as a map of slices. No program's function in it. Walks, printed by a program. -/
import Derived.Test.YtpcfgoadkfajfaaGreatDoorK5
import Derived.Test.YtpcfgoadkfajfaaGreatDoorK7
import Derived.Test.YtpcfgoadkfajfaaGreatDoorK6
import Derived.Lib.RowBridge
namespace Go.Proofs.YtpcfgoadkfajfaaGreatDoor
set_option linter.all false
open Go Go.RowKit
/-- What a range over a function leaves to be done at the call's end. -/
def markD (k : Nat) : Deferred := { target := .collected k, args := #[] }
/-- The blocks of these marks. -/
def openB (ks : List Nat) : Ent := pack (ks.map fun k => .blk k (.deferred (some [])))
section
variable {P : Program} {w0 : World} {O : List Nat} {n : Nat} {D : List Deferred} {o : Oper} {V : List (Nat × Value)} {L : List Ent} {T : List (Nat × Value) → List Ent → Prop} {Q : Exit → Act → World → Prop} {r : Option Nat}
def AgainD {σ : Type} (Vx : σ → List (Nat × Value)) (Lx : σ → List Ent) (Dx : σ → List Deferred) (I : σ → Prop) (m : σ → Nat) (w0 : World) (O : List Nat) (n : Nat) (k : Nat) (a : Act) (w : World) : Prop :=
  ∃ j, j < k ∧ ∃ x, m x = j ∧ I x ∧ Holds n (Dx x) a (Vx x) ∧ SL w0 O w (Lx x)
theorem CX.loopD {σ : Type} (Vx : σ → List (Nat × Value)) (Lx : σ → List Ent) (Dx : σ → List Deferred) (I : σ → Prop) (m : σ → Nat) (x0 : σ) {body : Code} (h0 : I x0) (hD : D = Dx x0) (hV : Sub V (Vx x0)) (hL : L = Lx x0)
    (round : ∀ x, I x → CX P r (Exit.then (AgainD Vx Lx Dx I m w0 O n (m x)) Q) w0 O n (Dx x) body (Vx x) (Lx x)) : CX P r Q w0 O n D (.loop body) V L := by
  intro a w ha hw
  subst hL; subst hD
  refine wpIn_loop_ghost (fun k a w => ∃ x, m x = k ∧ I x ∧ Holds n (Dx x) a (Vx x) ∧ SL w0 O w (Lx x)) (m x0) ⟨x0, rfl, h0, ha.sub hV, hw⟩ ?_
  rintro k a w ⟨x, rfl, hI, ha, hw⟩
  exact round x hI a w ha hw
theorem XX.againD {σ : Type} {Vx : σ → List (Nat × Value)} {Lx : σ → List Ent} {Dx : σ → List Deferred} {I : σ → Prop} {m : σ → Nat} {k : Nat} (R : List Ent) (x : σ) (hm : m x < k) (hI : I x) (hD : D = Dx x) (hV : Sub V (Vx x)) (hL : L.Perm (Lx x ++ R)) :
    XX (Exit.then (AgainD Vx Lx Dx I m w0 O n k) Q) w0 O n D .normal V L :=
  fun a w ha hw => ⟨m x, hm, x, rfl, hI, by subst hD; exact ha.sub hV, hw.pick hL⟩
theorem CX.openNil {c : Code} (h : CX P r Q w0 O n D c V (openB [] :: L)) : CX P r Q w0 O n D c V L := CX.packNil (L := L) h
theorem XX.openMore {e : Exit} {L' : List Ent} {k : Nat} {ks : List Nat} (hL : L.Perm (.blk k (.deferred (some [])) :: openB ks :: L')) (h : XX Q w0 O n D e V (openB (k :: ks) :: L')) : XX Q w0 O n D e V L := fun a w ha hw => by
  have h1 : SL w0 O w (pack (ks.map fun k => .blk k (.deferred (some []))) :: .blk k (.deferred (some [])) :: L') := (hw.perm hL).perm (List.Perm.swap _ _ _)
  have h2 : SL w0 O w ((Ent.blk k (.deferred (some [])) :: ks.map fun k => .blk k (.deferred (some []))) ++ L') := h1.unpack.perm List.perm_middle
  exact h a w ha h2.pack
end
section
variable {P : Program} {w0 : World} {O : List Nat} {L : List Ent} {fn : Func} {R : Ending → World → Prop} {n : Nat} {V : List (Nat × Value)}
theorem leaves_marks {tmps : Array Value} : ∀ (ks : List Nat) (w : World) {L : List Ent}, SL w0 O w (openB ks :: L) → (∀ w', SL w0 O w' L → LeavesInM Fence.wide 0 P fn tmps R [] .returning w') → LeavesInM Fence.wide 0 P fn tmps R (ks.map markD) .returning w
  | [], w, L, hw, h => h w (SL.unpack hw)
  | k :: ks, w, L, hw, h => by
    have h1 : SL w0 O w (.blk k (.deferred (some [])) :: ((ks.map fun k => .blk k (.deferred (some []))) ++ L)) := SL.unpack hw
    have hk : w.heap[k]? = some (.deferred (some [])) := h1.ents _ List.mem_cons_self
    have h2 : SL w0 O (w.putObj k (.deferred none)) ((ks.map fun k => .blk k (.deferred (some []))) ++ L) := (putObj_SL (i := 0) h1 rfl (.deferred none)).sub (List.sublist_cons_self _ _)
    exact ⟨by simp, .inl ⟨k, _, rfl, run_takeDeferred hk, leaves_marks ks _ h2.pack h⟩⟩
theorem ret_tmpMs {t : Nat} {v : Value} {ks : List Nat} {L' : List Ent} (hr : fn.results = #[.tmp t]) (hv : lk V t = some v) (hL : L.Perm (openB ks :: L')) (h : ∀ w, SL w0 O w L' → R (.returned v) w) : XX (bodyPostM Fence.wide 0 P fn R) w0 O n (ks.map markD) .ret V L := by
  intro a w ha hw
  have hp := ha.at_ _ _ hv
  show LeavesInM Fence.wide 0 P fn a.tmps R a.defers .returning w
  rw [ha.defers]
  refine leaves_marks ks w (hw.perm hL) fun w' hw' => ⟨v, ?_, h _ hw'⟩
  simp [results, hr, hp]
end
/-! ### Ranges left by a jump -/
/-- The record behind a round that has left this jump. -/
def leftBy (rec : Loop) (j : Option Code) : Loop := { rec with state := if j.isNone then .ready else .done, pending := j }
/-- How a round ends. -/
def jumpOf : Exit → Option (Option Code)
  | .normal => some none
  | .ret => some (some .ret)
  | .exit id => some (some (.exit id))
  | _ => none
section
variable {P : Program} {w0 : World} {O : List Nat} {n : Nat} {D : List Deferred} {o : Oper} {V : List (Nat × Value)} {L : List Ent} {T : List (Nat × Value) → List Ent → Prop} {Q : Exit → Act → World → Prop}
def MetJ {τ : Type} (LL : τ → List Ent) (post : τ → Prop) (pend : τ → Option Code) (w0 : World) (O : List Nat) (e : Exit) (_ : Act) (w : World) : Prop := ∃ y, post y ∧ jumpOf e = some (pend y) ∧ SL w0 O w (LL y)
theorem XX.metJ {τ : Type} {LL : τ → List Ent} {post : τ → Prop} {pend : τ → Option Code} {e : Exit} (R : List Ent) (y : τ) (hp : post y) (hj : jumpOf e = some (pend y)) (hL : L.Perm (LL y ++ R)) : XX (MetJ LL post pend w0 O) w0 O n D e V L :=
  fun a w ha hw => ⟨y, hp, hj, hw.pick hL⟩
theorem round_of_CXJ {w : World} {l Dk p : Nat} {rec : Loop} {v : Value} {M : List Ent} {V0 : List (Nat × Value)} {σ τ : Type} (V1 : σ → List (Nat × Value)) (L1 : σ → List Ent) (I1 : σ → Prop) {LL : τ → List Ent} {post : τ → Prop} {pend : τ → Option Code}
    (hst : rec.state = .ready) (hpe : rec.pending = none) (hps : rec.params = #[p]) (hV : Holds n [] { tmps := rec.tmps.setIfInBounds p v, defers := [] } V0)
    (hA : CX P (some l) (Met V1 (fun x => RB l Dk rec ++ L1 x) I1 w O n []) w O n [] rec.assign V0 (RB l Dk rec ++ M))
    (hB : ∀ x, I1 x → CX P (some l) (MetJ (fun y => RB l Dk { rec with state := .busy } ++ LL y) post pend w O) w O n [] rec.body (V1 x) (RB l Dk { rec with state := .busy } ++ L1 x))
    (hw : SL w O w (RB l Dk rec ++ M)) :
    ∃ f tmps asg body, (Instr.yield l #[v]).run P w = .ok (.round l f tmps asg body) w ∧
      RoundIn Fence.wide 0 P l f tmps asg body w fun e w' => ∃ y, post y ∧ e = .returned (.bool (pend y).isNone) ∧ SL w O w' (RB l Dk (leftBy rec (pend y)) ++ LL y) := by
  have hl : w.heap[l]? = some (.loop rec) := hw.ents (.blk l (.loop rec)) (by simp)
  have hy := run_yield (P := P) (args := #[v]) hl (by simp [hps])
  have e : (rec.params.zip #[v]).foldl (fun tmps (t, a) => tmps.setIfInBounds t a) rec.tmps = rec.tmps.setIfInBounds p v := by simp [hps]
  rw [e] at hy
  refine ⟨_, _, _, _, hy, roundIn_of_wpIn (F := Fence.wide) trivial ?_⟩
  refine wpIn_mono (hA _ w hV hw) ?_
  rintro e a1 w1 ⟨rfl, x, hI, ha1, hw1⟩
  have hl1 : w1.heap[l]? = some (.loop rec) := hw1.ents (.blk l (.loop rec)) (by simp)
  refine ⟨_, run_beginRound hl1 hst, ?_⟩
  have hw2 : SL w O (w1.putObj l (.loop { rec with state := .busy })) (RB l Dk { rec with state := .busy } ++ L1 x) := putObj_SL (i := 0) hw1 rfl _
  refine wpIn_mono (hB x hI a1 _ ha1 hw2) ?_
  rintro e a3 w3 ⟨y, hp, hj, hw3⟩
  have hl3 : w3.heap[l]? = some (.loop { rec with state := .busy }) := hw3.ents (.blk l (.loop { rec with state := .busy })) (by simp)
  have hr3 := run_endRound (P := P) (pend y) hl3
  have e3 : ({ ({ rec with state := .busy } : Loop) with state := if (pend y).isNone then .ready else .done, pending := pend y } : Loop) = leftBy rec (pend y) := rfl
  rw [e3] at hr3
  have hfin : ∃ v w', (Instr.endRound l (pend y)).run P w3 = .ok v w' ∧ ∃ y, post y ∧ Ending.returned v = .returned (.bool (pend y).isNone) ∧ SL w O w' (RB l Dk (leftBy rec (pend y)) ++ LL y) := ⟨_, _, hr3, y, hp, rfl, putObj_SL (i := 0) hw3 rfl _⟩
  cases e <;> simp only [jumpOf, Option.some.injEq, reduceCtorEq] at hj
  · rw [← hj] at hfin; exact hfin
  · rw [← hj] at hfin; exact hfin
  · rw [← hj] at hfin; exact hfin
theorem leftBy_none {rec : Loop} (hst : rec.state = .ready) (hpe : rec.pending = none) : leftBy rec none = rec := by
  cases rec; simp at hst hpe; simp [leftBy, hst, hpe]
theorem CX.rangeFuncJ {g : Operand} {ps : Array Tmp} {asg body : Code} {gf : Nat} {cap : Array Value} {σ : Type} {LL : σ → List Ent} {post : σ → Prop} {pend : σ → Option Code} (M R : List Ent) (hL : L.Perm (M ++ R)) (hg : ev V g = some (.func (.func gf) #[] cap))
    (ent : ∀ args w, (callFunc gf args).run P w = .ok (.enter gf args) w)
    (hc : ∀ (l Dk fn : Nat) (a : Act) (w : World), Holds n D a V → SL w0 O w (RB l Dk (mkRec fn a.tmps ps asg body Dk) ++ (M ++ R)) → SL w ((RB l Dk (mkRec fn a.tmps ps asg body Dk) ++ M).flatMap Ent.blocks) w (RB l Dk (mkRec fn a.tmps ps asg body Dk) ++ M) →
      Calls P gf (#[.func (.yield l) #[] #[]] ++ cap) w fun e w' => ∃ x, post x ∧ (∃ v, e = .returned v) ∧ SL w ((RB l Dk (mkRec fn a.tmps ps asg body Dk) ++ M).flatMap Ent.blocks) w' (RB l Dk (leftBy (mkRec fn a.tmps ps asg body Dk) (pend x)) ++ LL x))
    (hT : ∀ x l Dk ob, post x → pend x = none → XX Q w0 O n (markD Dk :: D) .normal V (.blk l ob :: .blk Dk (.deferred (some [])) :: (LL x ++ R)))
    (hJ : ∀ x l Dk ob c, post x → pend x = some c → CX P none Q w0 O n (markD Dk :: D) c V (.blk l ob :: .blk Dk (.deferred (some [])) :: (LL x ++ R))) :
    CX P none Q w0 O n D (.rangeFunc g ps asg body) V L := by
  intro a w ha hw
  refine wpIn_rangeFunc (F := FW none) fun fn _ => ?_
  obtain ⟨W1, hW1⟩ : ∃ W1, (w.alloc (.deferred (some []))).alloc (.loop (mkRec fn a.tmps ps asg body w.heap.size)) = W1 := ⟨_, rfl⟩
  have hs1 : SL w0 O W1 (RB (w.heap.size + 1) w.heap.size (mkRec fn a.tmps ps asg body w.heap.size) ++ (M ++ R)) := by
    have := ((hw.perm hL).alloc (.deferred (some []))).alloc (.loop (mkRec fn a.tmps ps asg body w.heap.size))
    rw [World.size_alloc, hW1] at this
    exact this
  refine ⟨w.heap.size + 1, [markD w.heap.size], W1, { target := .fn (.func gf) cap, args := #[.func (.yield (w.heap.size + 1)) #[] #[]] }, W1, gf,
    #[.func (.yield (w.heap.size + 1)) #[] #[]] ++ cap, W1, ?_, ?_, ?_, ?_, ?_, ?_⟩
  · rw [← hW1]; exact run_enterLoop_outer _ _ _ _ _
  · simp only [resolve, ha.eval hg]
    simp [Deferred.ofValue, Act.eval]
  · intro f' _; trivial
  · simp [invoke, ent]
  · intro hh; simp [Fence.wide] at hh
  · have hr := hc (w.heap.size + 1) w.heap.size fn a W1 ha hs1 (hs1.restart (by rw [List.append_assoc]))
    refine CallsIn.mono (callsIn_wide.2 hr) ?_
    rintro e w' ⟨x, hp, ⟨v, rfl⟩, hs⟩
    have hs' : SL w0 O w' ((RB (w.heap.size + 1) w.heap.size (leftBy (mkRec fn a.tmps ps asg body w.heap.size) (pend x)) ++ LL x) ++ R) := SL.call (M := RB (w.heap.size + 1) w.heap.size (mkRec fn a.tmps ps asg body w.heap.size) ++ M) (by rw [List.append_assoc]; exact hs1) rfl hs
    have hl : w'.heap[w.heap.size + 1]? = some (.loop (leftBy (mkRec fn a.tmps ps asg body w.heap.size) (pend x))) := hs'.ents (.blk (w.heap.size + 1) (.loop _)) (by simp)
    have hend := run_endLoop (P := P) hl (by simp [leftBy]; split <;> simp)
    refine ⟨pend x, _, hend, ?_⟩
    have hd : Holds n (markD w.heap.size :: D) { a with defers := [markD w.heap.size] ++ a.defers } V := ⟨by rw [← ha.defers]; rfl, ha.size, ha.at_⟩
    cases hpx : pend x with
    | none => exact hT x (w.heap.size + 1) w.heap.size _ hp hpx _ _ hd (putObj_SL (i := 0) hs' rfl _)
    | some c => exact hJ x (w.heap.size + 1) w.heap.size _ c hp hpx _ _ hd (putObj_SL (i := 0) hs' rfl _)
/-- What an iterator's yield does: it takes the loop from a state s to a state s', and says whether to go on. -/
def YieldB (P : Program) (wb : World) (Ob : List Nat) (l : Nat) {σ : Type} (St : σ → List Ent) (pre : σ → Prop) (Rl : σ → Value → σ → Bool → Prop) (ok : Value → Prop) : Prop :=
  ∀ (s : σ) (x : Value) (w : World), pre s → ok x → (∀ k, k < wb.heap.size → k ∉ Ob → w.heap[k]? = wb.heap[k]?) → SL w ((St s).flatMap Ent.blocks) w (St s) →
    ∃ f tmps asg body, (Instr.yield l #[x]).run P w = .ok (.round l f tmps asg body) w ∧ RoundIn Fence.wide 0 P l f tmps asg body w fun e w' => ∃ y : σ × Bool, Rl s x y.1 y.2 ∧ e = .returned (.bool y.2) ∧ SL w ((St s).flatMap Ent.blocks) w' (St y.1)
/-- Rounds that all went on. -/
inductive Upto {σ : Type} (Rl : σ → Value → σ → Bool → Prop) : σ → List Value → σ → Prop
  | nil (s : σ) : Upto Rl s [] s
  | snoc {s s' s'' : σ} {xs : List Value} {x : Value} : Upto Rl s xs s' → Rl s' x s'' true → Upto Rl s (xs ++ [x]) s''
/-- Rounds to the end, or up to one that stopped. -/
def Went {σ : Type} (Rl : σ → Value → σ → Bool → Prop) (s0 : σ) (xs : List Value) (s' : σ) : Prop := Upto Rl s0 xs s' ∨ ∃ (i : Nat) (x : Value) (st : σ), xs[i]? = some x ∧ Upto Rl s0 (xs.take i) st ∧ Rl st x s' false
theorem op_yieldB {f : Operand} {xs : Array Operand} {ts : Array TypeId} {l d : Nat} {v : Value} {σ : Type} {St : σ → List Ent} {pre : σ → Prop} {Rl : σ → Value → σ → Bool → Prop} {ok : Value → Prop} (s : σ) (R : List Ent) (hy : YieldB P w0 O l St pre Rl ok) (hpre : pre s)
    (ho : o.op = .call { callee := .value f, args := xs, argTypes := ts }) (hd : o.dst = some d) (hdn : Nat.blt d n = true) (hf : ev V f = some (.func (.yield l) #[] #[])) (hx : evs V xs.toList = some [v]) (hok : ok v) (hL : L = R ++ St s)
    (hT : ∀ s' b, Rl s v s' b → T ((d, .bool b) :: V) (R ++ St s')) : OpS P w0 O n D o V L T := by
  subst hL
  intro a w ha hw
  have hp : (R ++ St s).Perm (St s ++ R) := List.perm_append_comm
  have hw' := hw.perm hp
  obtain ⟨f', tmps, asg, body, hy', hr⟩ := hy s v w hpre hok hw.same (hw'.restart (List.Perm.refl _))
  have h1 := ha.evals hx
  have e1 : xs.map a.eval = #[v] := Array.ext' (by simpa using h1)
  have hrun : (execOp a.eval o).run P w = .ok (.round l f' tmps asg body) w := by
    simp only [execOp, ho, resolve, ha.eval hf, Deferred.ofValue, e1]
    simp only [Sem.run_bind, Sem.run_pure, Result.andThen_ok, invoke]
    simpa using hy'
  unfold Does
  rw [hrun, hd]
  refine RoundIn.mono hr ?_
  rintro e w'' ⟨y, hR, he, hs⟩
  exact ⟨_, he, _, _, hT y.1 y.2 hR, ha.put hdn _, (hw'.call rfl hs).perm List.perm_append_comm⟩
/-- The greater one of two numbers; a cell that is known of every memory of this form. -/
theorem yw_max {x y : Operand} {ts : Array TypeId} {k : IntKind} {p q : Int} (ho : o.op = .call { callee := .builtin .max, args := #[x, y], argTypes := ts }) (hx : ev V x = some (.int k p)) (hy : ev V y = some (.int k q)) : YldW P n D o V (.int k (max p q)) := by
  intro a w ha
  have : (if p < q then q else p) = max p q := by split <;> omega
  simp [execOp, ho, resolve, invoke, builtin, ha.eval hx, ha.eval hy, Builtin.max_, Builtin.max2, this]
theorem y_loadH {t : TypeId} {x : Operand} {p : Addr} {v : Value} (ho : o.op = .load t x) (hx : ev V x = some (.pointer (some p))) (h1 : One P t) (h : ∀ w, SL w0 O w L → w.cell? p = some v) : Yld P w0 O n D o V L v := by
  intro a w ha hw
  simp [execOp, ho, ha.eval hx, Instr.loadAt, Instr.sureAddr, run_load_one h1 (h w hw)]
end
end Go.Proofs.YtpcfgoadkfajfaaGreatDoor
namespace Go.Proofs.YtpcfgoadkfajfaaGreatDoor
set_option linter.all false
open Go Go.RowKit
/-- A group in memory: its slice, and what it holds. -/
abbrev Gp := (Option Addr × Nat) × List Int
abbrev gpC (g : Gp) : Array Value := #[.slice g.1.1 g.2.length g.1.2]
def gpE (g : Gp) : Ent := .row g.1.1 g.1.2 3 1 (List.map iR g.2)
structure GrpOk (R : Nd → Nd) (done : List Int) (gs : List Gp) (kv : List (Nd × Int)) : Prop where
  at_ : ∀ (j : Nat) (g : Gp), gs[j]? = some g → g.2 ≠ [] ∧ ∀ x ∈ g.2, x ∈ done ∧ kget (R (false, x)) kv = some ((j : Nat) : Int)
  has : ∀ x ∈ done, ∃ (j : Nat) (g : Gp), gs[j]? = some g ∧ x ∈ g.2
  idx : ∀ r i, kget r kv = some i → ∃ j : Nat, i = ((j : Nat) : Int) ∧ j < gs.length
  len : gs.length ≤ done.length
  lens : ∀ g ∈ gs, g.2.length ≤ done.length
  inj : ∀ r r' i, kget r kv = some i → kget r' kv = some i → r = r'
variable {R : Nd → Nd} {done : List Int} {gs : List Gp} {kv : List (Nd × Int)}
theorem GrpOk.nil (R : Nd → Nd) : GrpOk R [] [] [] := ⟨fun j g h => (by simp at h), fun x h => (by cases h), fun r i h => (by cases h), Nat.le_refl _, fun g h => (by cases h), fun r r' i h => (by cases h)⟩
theorem GrpOk.old (h : GrpOk R done gs kv) {a : Int} {j : Nat} {g : Gp} (hk : kget (R (false, a)) kv = some ((j : Nat) : Int)) (hg : gs[j]? = some g) (z : Option Addr × Nat) : GrpOk R (done ++ [a]) (gs.set j (z, g.2 ++ [a])) kv := by
  have hj : j < gs.length := (List.getElem?_eq_some_iff.1 hg).1
  have hset : ∀ (k : Nat) (g' : Gp), (gs.set j (z, g.2 ++ [a]))[k]? = some g' → (k = j ∧ g' = (z, g.2 ++ [a])) ∨ (k ≠ j ∧ gs[k]? = some g') := by
    intro k g' hk'
    rw [List.getElem?_set] at hk'
    by_cases e : j = k
    · rw [if_pos e, if_pos hj] at hk'
      exact .inl ⟨e.symm, (Option.some.inj hk').symm⟩
    · rw [if_neg e] at hk'
      exact .inr ⟨fun e2 => e e2.symm, hk'⟩
  refine ⟨fun k g' hk' => ?_, fun x hx => ?_, fun r i hr => ?_, ?_, fun g' hg' => ?_, h.inj⟩
  · rcases hset k g' hk' with ⟨rfl, rfl⟩ | ⟨_, hk'⟩
    · refine ⟨by simp, fun x hx => ?_⟩
      rcases List.mem_append.1 hx with hx | hx
      · have := (h.at_ _ _ hg).2 x hx
        exact ⟨List.mem_append_left _ this.1, this.2⟩
      · rw [List.mem_singleton.1 hx]
        exact ⟨List.mem_append_right _ (List.mem_singleton.2 rfl), hk⟩
    · have := h.at_ _ _ hk'
      exact ⟨this.1, fun x hx => ⟨List.mem_append_left _ (this.2 x hx).1, (this.2 x hx).2⟩⟩
  · rcases List.mem_append.1 hx with hx | hx
    · obtain ⟨k, g', h1, h2⟩ := h.has x hx
      by_cases e : j = k
      · subst e
        rw [hg] at h1
        obtain rfl := Option.some.inj h1
        exact ⟨j, (z, g.2 ++ [a]), by rw [List.getElem?_set_self hj], List.mem_append_left _ h2⟩
      · exact ⟨k, g', by rw [List.getElem?_set_ne e]; exact h1, h2⟩
    · rw [List.mem_singleton.1 hx]
      exact ⟨j, (z, g.2 ++ [a]), by rw [List.getElem?_set_self hj], List.mem_append_right _ (List.mem_singleton.2 rfl)⟩
  · rw [List.length_set]; exact h.idx r i hr
  · rw [List.length_set, List.length_append]; have := h.len; omega
  · rw [List.length_append, List.length_singleton]
    rcases List.mem_or_eq_of_mem_set hg' with h1 | h1
    · have := h.lens _ h1; omega
    · rw [h1, List.length_append, List.length_singleton]
      have := h.lens g (List.mem_of_getElem? hg); omega
theorem GrpOk.new (h : GrpOk R done gs kv) {a : Int} (hk : kget (R (false, a)) kv = none) (z : Option Addr × Nat) : GrpOk R (done ++ [a]) (gs ++ [(z, [a])]) (kset (R (false, a)) ((gs.length : Nat) : Int) kv) := by
  refine ⟨fun k g' hk' => ?_, fun x hx => ?_, fun r i hr => ?_, ?_, fun g' hg' => ?_, fun r r' i h1 h2 => ?_⟩
  · rw [List.getElem?_append] at hk'
    split at hk'
    · have := h.at_ _ _ hk'
      refine ⟨this.1, fun x hx => ⟨List.mem_append_left _ (this.2 x hx).1, ?_⟩⟩
      have h2 := (this.2 x hx).2
      rw [kget_kset, if_neg (fun e => by rw [e, hk] at h2; cases h2)]
      exact h2
    · rename_i hge
      have hkl : k - gs.length = 0 := by
        rcases Nat.eq_zero_or_pos (k - gs.length) with e | e
        · exact e
        · rw [List.getElem?_eq_none (by simp; omega)] at hk'; cases hk'
      rw [hkl] at hk'
      obtain rfl : g' = (z, [a]) := (Option.some.inj hk').symm
      refine ⟨by simp, fun x hx => ?_⟩
      rw [List.mem_singleton.1 hx]
      refine ⟨List.mem_append_right _ (List.mem_singleton.2 rfl), ?_⟩
      rw [kget_kset, if_pos rfl]
      congr 2; omega
  · rcases List.mem_append.1 hx with hx | hx
    · obtain ⟨k, g', h1, h2⟩ := h.has x hx
      exact ⟨k, g', by rw [List.getElem?_append_left (List.getElem?_eq_some_iff.1 h1).1]; exact h1, h2⟩
    · rw [List.mem_singleton.1 hx]
      exact ⟨gs.length, (z, [a]), by simp, List.mem_singleton.2 rfl⟩
  · rw [List.length_append, List.length_singleton]
    rw [kget_kset] at hr
    split at hr
    · exact ⟨gs.length, (Option.some.inj hr).symm, by omega⟩
    · obtain ⟨j, h1, h2⟩ := h.idx r i hr
      exact ⟨j, h1, by omega⟩
  · rw [List.length_append, List.length_append, List.length_singleton, List.length_singleton]; have := h.len; omega
  · rw [List.length_append, List.length_singleton]
    rcases List.mem_append.1 hg' with h1 | h1
    · have := h.lens _ h1; omega
    · rw [List.mem_singleton.1 h1]; simp
  · have hlt : ∀ r i, kget r kv = some i → i < ((gs.length : Nat) : Int) := fun r i hr => by
      obtain ⟨j, h1, h2⟩ := h.idx r i hr
      omega
    rw [kget_kset] at h1 h2
    split at h1
    · rename_i e1
      split at h2
      · rename_i e2; rw [e1, e2]
      · have := hlt _ _ h2; have := Option.some.inj h1; omega
    · split at h2
      · have := hlt _ _ h1; have := Option.some.inj h2; omega
      · exact h.inj r r' i h1 h2
theorem gpE_out {gs : List Gp} {j : Nat} {g : Gp} (h : gs[j]? = some g) : (gs.map gpE).Perm (gpE g :: (gs.eraseIdx j).map gpE) := (perm_pick j h).map gpE
theorem gpE_in {gs : List Gp} {j : Nat} {g : Gp} (g' : Gp) (h : gs[j]? = some g) : ((gs.set j g').map gpE).Perm (gpE g' :: (gs.eraseIdx j).map gpE) := (set_perm g' h).map gpE
theorem gpE_snoc (gs : List Gp) (g : Gp) : ((gs ++ [g]).map gpE).Perm (gpE g :: gs.map gpE) := by
  rw [List.map_append]; exact List.perm_append_comm
theorem SL.packIn {w0 w : World} {O : List Nat} {L' : List Ent} {e : Ent} {es es' : List Ent} (h : SL w0 O w (e :: Go.Proofs.YtpcfgoadkfajfaaGreatDoor.pack es' :: L')) (he : es.Perm (e :: es')) : SL w0 O w (Go.Proofs.YtpcfgoadkfajfaaGreatDoor.pack es :: L') := by
  have h1 : SL w0 O w (Go.Proofs.YtpcfgoadkfajfaaGreatDoor.pack es' :: e :: L') := h.perm (List.Perm.swap _ _ _)
  have h3 : SL w0 O w (es ++ L') := h1.unpack.perm (by
    refine List.perm_middle.trans ?_
    rw [← List.cons_append]
    exact (he.symm).append_right _)
  exact h3.pack
/-- What the groups are in the end. -/
structure Grouped (R : Nd → Nd) (all : List Int) (gs : List (List Int)) : Prop where
  ne : ∀ g ∈ gs, g ≠ []
  one : ∀ g ∈ gs, ∀ x ∈ g, x ∈ all
  has : ∀ x ∈ all, ∃ g ∈ gs, x ∈ g
  same : ∀ g ∈ gs, ∀ h ∈ gs, ∀ x ∈ g, ∀ y ∈ h, (R (false, x) = R (false, y) ↔ g = h)
theorem GrpOk.grouped (h : GrpOk R done gs kv) : Grouped R done (gs.map Prod.snd) := by
  have hat : ∀ g ∈ gs.map Prod.snd, ∃ (j : Nat) (g' : Gp), gs[j]? = some g' ∧ g'.2 = g := by
    intro g hg
    obtain ⟨g', h1, rfl⟩ := List.mem_map.1 hg
    obtain ⟨j, hj⟩ := List.mem_iff_getElem?.1 h1
    exact ⟨j, g', hj, rfl⟩
  refine ⟨fun g hg => ?_, fun g hg x hx => ?_, fun x hx => ?_, fun g hg k hk x hx y hy => ?_⟩
  · obtain ⟨j, g', h1, rfl⟩ := hat g hg; exact (h.at_ _ _ h1).1
  · obtain ⟨j, g', h1, rfl⟩ := hat g hg; exact ((h.at_ _ _ h1).2 x hx).1
  · obtain ⟨j, g, h1, h2⟩ := h.has x hx
    exact ⟨g.2, List.mem_map.2 ⟨g, List.mem_of_getElem? h1, rfl⟩, h2⟩
  · obtain ⟨i, g', h1, rfl⟩ := hat g hg
    obtain ⟨j, k', h2, rfl⟩ := hat k hk
    have e1 := ((h.at_ _ _ h1).2 x hx).2
    have e2 := ((h.at_ _ _ h2).2 y hy).2
    constructor
    · intro e
      rw [e, e2] at e1
      have : j = i := by have := Option.some.inj e1; omega
      subst this
      rw [h1] at h2
      rw [Option.some.inj h2]
    · intro e
      rw [← e] at hy
      exact h.inj _ _ _ e1 ((h.at_ _ _ h1).2 y hy).2
end Go.Proofs.YtpcfgoadkfajfaaGreatDoor
namespace Go.Proofs.YtpcfgoadkfajfaaGreatDoor
set_option linter.all false
open Go Go.RowKit
set_option maxRecDepth 100000
theorem one_175 : One Tryz.prog 175 := ⟨_, Tryz.underlying175, rfl⟩
theorem one_177 : One Tryz.prog 177 := ⟨_, Tryz.underlying177, rfl⟩
theorem kmapt_177 : KMapT Tryz.prog keyB 177 (.int .i64 0) := ⟨_, _, (Tryz.prog.info? 3).get!, Tryz.underlying177, (keyOk_boolInt Tryz.underlying179 (by kernel_rfl) (by decide) (by decide) Tryz.underlying4 Tryz.underlying3 rfl rfl), by kernel_rfl, by kernel_rfl⟩
theorem one_156 : One Tryz.prog 156 := ⟨_, Tryz.underlying156, rfl⟩
theorem slb_156 : SlB Tryz.prog 156 24 1 24 (.slice none 0 0) := ⟨Tryz.underlying156, ⟨(Tryz.prog.info? 24).get!, by kernel_rfl, by kernel_rfl, by kernel_rfl, by kernel_rfl⟩, by decide, by decide⟩
theorem szt_156 : SzT Tryz.prog 156 1 := ⟨(Tryz.prog.info? 156).get!, by kernel_rfl, by kernel_rfl⟩
theorem slt_156 : SlT Tryz.prog 156 24 1 := ⟨(Tryz.prog.info? 24).get!, Tryz.underlying156, by kernel_rfl, by kernel_rfl⟩
theorem gp_set_last (gs : List Gp) (A : Option Addr) (c : Nat) (a : Int) : (List.map gpC (gs ++ [((none, 0), [])])).set gs.length #[.slice A 1 c] = List.map gpC (gs ++ [((A, c), [a])]) := by
  rw [List.map_append, List.map_append, List.set_append_right _ _ (by simp)]
  simp
theorem gp_set (gs : List Gp) (j : Nat) (A : Option Addr) (c : Nat) (ys : List Int) : (List.map gpC gs).set j #[.slice A ys.length c] = List.map gpC (gs.set j ((A, c), ys)) := by rw [List.map_set]
set_option maxRecDepth 100000 in
theorem w_clusters1 {w : World} {gc gm g3 g4 g5 gat : Nat} {rk : Nd → Nat} {Ao A1 A2 : Option Addr} {co c1 c2 : Nat} (E : List (Int × Int)) (a : Int) (p : List (Nd × Nd)) (gs : List Gp) (kv : List (Nd × Int)) (done xs ds : List Int) (hF : Forest p (rep E) rk) (hG : GrpOk (rep E) done gs kv) (hd : done.length ≤ 1000000) (hs : SL w (List.flatMap Ent.blocks [pack (List.map gpE gs), .row Ao co 24 1 (List.map gpC gs), .blk g5 (.cells (#[.slice Ao (List.length (gs : List Gp)) co]) 156 (0, 0)), kmap keyB (fun x : Int => Value.int .i64 x) gat kv, .blk g4 (.cells (#[.map (some gat)]) 177 (0, 0)), kmap keyB keyB gm p, .blk gc (.cells (#[.map (some gm), .slice A1 (List.length (xs : List Int)) c1, .slice A2 (List.length (ds : List Int)) c2]) 185 (0, 0)), .blk g3 (.cells (#[.pointer (some ⟨gc, 0, none⟩)]) 175 (0, 0))]) w [pack (List.map gpE gs), .row Ao co 24 1 (List.map gpC gs), .blk g5 (.cells (#[.slice Ao (List.length (gs : List Gp)) co]) 156 (0, 0)), kmap keyB (fun x : Int => Value.int .i64 x) gat kv, .blk g4 (.cells (#[.map (some gat)]) 177 (0, 0)), kmap keyB keyB gm p, .blk gc (.cells (#[.map (some gm), .slice A1 (List.length (xs : List Int)) c1, .slice A2 (List.length (ds : List Int)) c2]) 185 (0, 0)), .blk g3 (.cells (#[.pointer (some ⟨gc, 0, none⟩)]) 175 (0, 0))]) :
    Calls Tryz.prog 119 #[.int .i64 a, .pointer (some ⟨g3, 0, none⟩), .pointer (some ⟨g4, 0, none⟩), .pointer (some ⟨g5, 0, none⟩)] w (fun e w' => ∃ z : List (Nd × Nd) × (Option Addr × Nat) × List Gp × List (Nd × Int), (Forest z.1 (rep E) rk ∧ GrpOk (rep E) (done ++ [a]) z.2.2.1 z.2.2.2) ∧ e = .returned (.tuple #[]) ∧ SL w (List.flatMap Ent.blocks [pack (List.map gpE gs), .row Ao co 24 1 (List.map gpC gs), .blk g5 (.cells (#[.slice Ao (List.length (gs : List Gp)) co]) 156 (0, 0)), kmap keyB (fun x : Int => Value.int .i64 x) gat kv, .blk g4 (.cells (#[.map (some gat)]) 177 (0, 0)), kmap keyB keyB gm p, .blk gc (.cells (#[.map (some gm), .slice A1 (List.length (xs : List Int)) c1, .slice A2 (List.length (ds : List Int)) c2]) 185 (0, 0)), .blk g3 (.cells (#[.pointer (some ⟨gc, 0, none⟩)]) 175 (0, 0))]) w' [pack (List.map gpE z.2.2.1), .row z.2.1.1 z.2.1.2 24 1 (List.map gpC z.2.2.1), .blk g5 (.cells (#[.slice z.2.1.1 (List.length (z.2.2.1 : List Gp)) z.2.1.2]) 156 (0, 0)), kmap keyB (fun x : Int => Value.int .i64 x) gat z.2.2.2, .blk g4 (.cells (#[.map (some gat)]) 177 (0, 0)), kmap keyB keyB gm z.1, .blk gc (.cells (#[.map (some gm), .slice A1 (List.length (xs : List Int)) c1, .slice A2 (List.length (ds : List Int)) c2]) 185 (0, 0)), .blk g3 (.cells (#[.pointer (some ⟨gc, 0, none⟩)]) 175 (0, 0))]) := by
 refine calls_of_CX (O := (List.flatMap Ent.blocks [pack (List.map gpE gs), .row Ao co 24 1 (List.map gpC gs), .blk g5 (.cells (#[.slice Ao (List.length (gs : List Gp)) co]) 156 (0, 0)), kmap keyB (fun x : Int => Value.int .i64 x) gat kv, .blk g4 (.cells (#[.map (some gat)]) 177 (0, 0)), kmap keyB keyB gm p, .blk gc (.cells (#[.map (some gm), .slice A1 (List.length (xs : List Int)) c1, .slice A2 (List.length (ds : List Int)) c2]) 185 (0, 0)), .blk g3 (.cells (#[.pointer (some ⟨gc, 0, none⟩)]) 175 (0, 0))])) (L := [pack (List.map gpE gs), .row Ao co 24 1 (List.map gpC gs), .blk g5 (.cells (#[.slice Ao (List.length (gs : List Gp)) co]) 156 (0, 0)), kmap keyB (fun x : Int => Value.int .i64 x) gat kv, .blk g4 (.cells (#[.map (some gat)]) 177 (0, 0)), kmap keyB keyB gm p, .blk gc (.cells (#[.map (some gm), .slice A1 (List.length (xs : List Int)) c1, .slice A2 (List.length (ds : List Int)) c2]) 185 (0, 0)), .blk g3 (.cells (#[.pointer (some ⟨gc, 0, none⟩)]) 175 (0, 0))]) (args := [.int .i64 a, .pointer (some ⟨g3, 0, none⟩), .pointer (some ⟨g4, 0, none⟩), .pointer (some ⟨g5, 0, none⟩)]) Tryz.func119 rfl (by simp [Tryz.ntmps119]) hs ?_
 refine CX.sub (V' := [(0, .int .i64 a), (1, .pointer (some ⟨g3, 0, none⟩)), (2, .pointer (some ⟨g4, 0, none⟩)), (3, .pointer (some ⟨g5, 0, none⟩))]) ⟨rfl, rfl, rfl, rfl, trivial⟩ ?_
 refine CX.seq ?_
 refine CX.region ?_
 refine RX.cons rfl rfl (op_yld (y_load (i := 7) rfl rfl one_175 rfl rfl) rfl rfl ?_)
 refine RX.cons rfl rfl (op_w (yw_nilCheck rfl rfl) rfl rfl ?_)
 refine RX.cons rfl rfl (op_w (yw_field0 rfl fld_185_0 rfl) rfl rfl ?_)
 refine RX.cons rfl rfl (op_yld (y_loadP (i := 6) (vs := #[.map (some gm)]) rfl rfl agg_183 rfl rfl (fun k hk => by match k, hk with | 0, _ => rfl)) rfl rfl ?_)
 refine RX.cons rfl rfl (op_w (yw_move rfl rfl) rfl rfl ?_)
 refine RX.cons rfl rfl (op_w (yw_build (v := .agg (#[.bool false, .int .i64 a])) rfl rfl (fun _ => by kernel_rfl)) rfl rfl ?_)
 refine RX.cons rfl rfl (op_callP [kmap keyB keyB gm p] [pack (List.map gpE gs), .row Ao co 24 1 (List.map gpC gs), .blk g5 (.cells (#[.slice Ao (List.length (gs : List Gp)) co]) 156 (0, 0)), kmap keyB (fun x : Int => Value.int .i64 x) gat kv, .blk g4 (.cells (#[.map (some gat)]) 177 (0, 0)), .blk gc (.cells (#[.map (some gm), .slice A1 (List.length (xs : List Int)) c1, .slice A2 (List.length (ds : List Int)) c2]) 185 (0, 0)), .blk g3 (.cells (#[.pointer (some ⟨gc, 0, none⟩)]) 175 (0, 0))] rfl rfl rfl rfl rfl ent_120 ((perm_pick 5 rfl).trans (List.Perm.cons _ (List.Perm.refl _))) (σ := List (Nd × Nd)) (val := fun _ => keyB (rep E (false, a))) (LL := fun p' => [kmap keyB keyB gm p']) (post := fun p' => Forest p' (rep E) rk) (fun w hw hs => w_find (false, a) p hF hs) (fun p1 hp1 => ?_))
 refine RX.cons rfl rfl (op_alloc rfl rfl rfl zero_179 fun g7 => ?_)
 refine RX.cons rfl rfl (op_storeAll (i := 0) rfl rfl rfl rfl szt_179 rfl (plain_of rfl) rfl rfl ?_)
 refine RX.nil (XX.next (V' := [(0, _), (2, _), (3, _), (5, _)]) ⟨rfl, rfl, rfl, rfl, trivial⟩ ?_)
 refine CX.seq ?_
 rcases hk : kget (rep E (false, a)) kv with _ | i
 ·have hgl := hG.len
  refine CX.region ?_
  refine RX.cons rfl rfl (op_yld (y_load (i := 6) rfl rfl one_177 rfl rfl) rfl rfl ?_)
  refine RX.cons rfl rfl (op_yld (y_loadA (i := 0) rfl rfl agg_179 rfl rfl) rfl rfl ?_)
  refine RX.cons rfl rfl (op_yld (y_klookupOk (i := 5) (k := (rep E (false, a))) (kv := kv) (encK := keyB) (encV := (fun x : Int => Value.int .i64 x)) rfl rfl rfl kmapt_177 rfl) rfl rfl ?_)
  refine RX.know (t := 18) (u := .tuple #[.int .i64 0, .bool false]) rfl (by rw [hk]; rfl) ?_
  refine RX.cons rfl rfl (op_w (yw_move rfl rfl) rfl rfl ?_)
  refine RX.cons rfl rfl (op_w (yw_extract rfl rfl rfl) rfl rfl ?_)
  refine RX.cons rfl rfl (op_w (yw_extract rfl rfl rfl) rfl rfl ?_)
  refine RX.cons rfl rfl (op_w (yw_assign rfl rfl) rfl rfl ?_)
  refine RX.cons rfl rfl (op_w (yw_assign rfl rfl) rfl rfl ?_)
  refine RX.nil (XX.next (V' := [(0, _), (2, _), (3, _), (5, _), (6, _), (7, _)]) ⟨rfl, rfl, rfl, rfl, rfl, rfl, trivial⟩ ?_)
  refine CX.seq ?_
  refine CX.seq ?_
  refine CX.region ?_
  refine RX.cons rfl rfl (op_w (yw_move rfl rfl) rfl rfl ?_)
  refine RX.cons rfl rfl (op_w (yw_not rfl rfl) rfl rfl ?_)
  refine RX.nil (XX.next (V' := [(0, _), (2, _), (3, _), (5, _), (6, _), (22, _)]) ⟨rfl, rfl, rfl, rfl, rfl, rfl, trivial⟩ ?_)
  refine CX.condT rfl ?_
  refine CX.seq ?_
  refine CX.region ?_
  refine RX.cons rfl rfl (op_yld (y_load (i := 4) rfl rfl one_156 rfl rfl) rfl rfl ?_)
  refine RX.cons rfl rfl (op_w (yw_lenS rfl Tryz.underlying156 rfl) rfl rfl ?_)
  refine RX.cons rfl rfl (op_w (yw_assign rfl rfl) rfl rfl ?_)
  refine RX.nil (XX.next (V' := [(0, _), (2, _), (3, _), (5, _), (6, _)]) ⟨rfl, rfl, rfl, rfl, rfl, trivial⟩ ?_)
  refine CX.seq ?_
  refine CX.region ?_
  refine RX.cons rfl rfl (op_yld (y_load (i := 6) rfl rfl one_177 rfl rfl) rfl rfl ?_)
  refine RX.cons rfl rfl (op_yld (y_loadA (i := 0) rfl rfl agg_179 rfl rfl) rfl rfl ?_)
  refine RX.cons rfl rfl (op_w (yw_move rfl rfl) rfl rfl ?_)
  refine RX.cons rfl rfl (op_kupdate (i := 5) (k := (rep E (false, a))) (u := ((gs.length : Nat) : Int)) (kv := kv) (encK := keyB) (encV := (fun x : Int => Value.int .i64 x)) (.inl rfl) rfl rfl rfl rfl kmapt_177 rfl ?_)
  refine RX.nil (XX.next (V' := [(0, _), (3, _), (6, _)]) ⟨rfl, rfl, rfl, trivial⟩ ?_)
  refine CX.region ?_
  refine RX.cons rfl rfl (op_yld (y_load (i := 4) rfl rfl one_156 rfl rfl) rfl rfl ?_)
  refine RX.cons rfl rfl (op_buildSlice rfl rfl rfl slb_156 rfl rfl (by intro v hv; simp only [List.mem_cons, List.not_mem_nil, or_false] at hv; subst hv; exact ⟨rfl, (plain_of rfl)⟩) (by decide) fun g8 => ?_)
  refine RX.cons rfl rfl (op_appendM gpC (i := 4) (j := 0) (xs := gs) ([((none, 0), [])]) rfl rfl rfl slb_156 rfl rfl rfl rfl rfl rfl (by simp; omega) (by simp; omega) fun A7 c7 => ?_)
  refine RX.cons rfl rfl (op_storeAll (i := 5) rfl rfl rfl rfl szt_156 rfl (plain_of rfl) rfl rfl ?_)
  refine RX.nil (XX.next (V' := [(0, _), (3, _), (6, _)]) ⟨rfl, rfl, rfl, trivial⟩ ?_)
  refine CX.rowNil 3 1 ?_
  refine CX.rowSome 5 rfl (by simp <;> omega) (fun hAo => ?_)
  refine CX.drawL 10 ([kmap keyB keyB gm p1, pack (List.map gpE gs), .row A7 c7 24 1 (List.map gpC (gs ++ [((none, 0), [])])), .blk g5 (.cells (#[.slice A7 ((gs ++ [((none, 0), [])]).length) c7]) 156 (0, 0)), kmap keyB (fun x : Int => Value.int .i64 x) gat (kset (rep E (false, a)) ((gs.length : Nat) : Int) kv), .blk g4 (.cells (#[.map (some gat)]) 177 (0, 0)), .blk gc (.cells (#[.map (some gm), .slice A1 (List.length (xs : List Int)) c1, .slice A2 (List.length (ds : List Int)) c2]) 185 (0, 0)), .blk g3 (.cells (#[.pointer (some ⟨gc, 0, none⟩)]) 175 (0, 0))]) [(0, 8, 2147483648), (0, 64, 4294967296), (0, 8, 8589934592), (0, 64, 17179869184), (12, 25769803776, 34359738368), (16, 34359738368, 68719476736), (0, 1, 137438953472), (64, 137438953472, 274877906944), (160, 343597383680, 549755813888), (511, 6442450944, 1099511627776), (1023, 1649267441664, 0)] (by kernel_rfl) (by kernel_rfl) (by kernel_rfl) ?_
  refine DX.take 0 1 (by kernel_rfl) rfl rfl rfl rfl rfl (List.Sublist.cons _ (List.Sublist.cons _ (List.Sublist.cons _ (List.Sublist.refl _)))) (y_load (i := 3) rfl rfl one_156 rfl rfl) ?_
  refine DX.takeW 1 3 (by kernel_rfl) rfl rfl rfl rfl rfl (yw_move rfl rfl) ?_
  refine DX.take 2 7 (by kernel_rfl) rfl rfl rfl rfl rfl (List.Sublist.cons _ (List.Sublist.cons _ (List.Sublist.cons _ (List.Sublist.refl _)))) (y_load (i := 3) rfl rfl one_156 rfl rfl) ?_
  refine DX.takeW 3 15 (by kernel_rfl) rfl rfl rfl rfl rfl (yw_move rfl rfl) ?_
  refine DX.takeW 4 31 (by kernel_rfl) rfl rfl rfl rfl rfl (yw_index (k := gs.length) rfl slt_156 rfl rfl (by omega) (by rw [List.length_append, List.length_singleton]; omega) hAo) ?_
  refine DX.take 5 63 (by kernel_rfl) rfl rfl rfl rfl rfl (List.Sublist.cons _ (List.Sublist.cons _ (List.Sublist.cons _ (List.Sublist.refl _)))) (y_rowElem1 (i := 2) rfl rfl one_24 rfl (map_get (l := gs ++ [((none, 0), [])]) (x := ((none, 0), [])) (by simp))) ?_
  refine DX.takeW 6 127 (by kernel_rfl) rfl rfl rfl rfl rfl (yw_move rfl rfl) ?_
  refine DX.step 7 255 (by kernel_rfl) rfl rfl rfl (op_buildSlice rfl rfl rfl slb_24 rfl rfl (by intro v hv; simp only [List.mem_cons, List.not_mem_nil, or_false] at hv; subst hv; exact ⟨rfl, (plain_of rfl)⟩) (by decide) fun g9 => (DXs.mk (List.Sublist.cons _ (List.Sublist.cons _ (List.Sublist.cons _ (List.Sublist.cons _ (List.Sublist.refl _))))) ?_))
  refine DX.step 8 511 (by kernel_rfl) rfl rfl rfl (op_appendM iR (i := 1) (j := 0) (xs := ([] : List Int)) ([a]) rfl rfl rfl slb_24 rfl rfl rfl rfl rfl rfl (by simp <;> omega) (by simp <;> omega) fun A6 c6 => (DXs.mk (List.Sublist.cons _ (List.Sublist.cons _ (List.Sublist.cons _ (List.Sublist.cons _ (List.Sublist.refl _))))) ?_))
  refine DX.takeW 9 1023 (by kernel_rfl) rfl rfl rfl rfl rfl (yw_index (k := gs.length) rfl slt_156 rfl rfl (by omega) (by rw [List.length_append, List.length_singleton]; omega) hAo) ?_
  refine DX.stepT 10 2047 (by kernel_rfl) rfl rfl rfl rfl (op_storeElemE (i := 6) (k := gs.length) (ys := List.map gpC (gs ++ [((A6, c6), [a])])) rfl rfl rfl rfl szt_24 rfl (plain_of rfl) rfl (by simp) (gp_set_last gs A6 c6 a) ?_)
  refine DX.done (by kernel_rfl) ?_
  exact end_none rfl fun w1 hw => ⟨(p1, (A7, c7), gs ++ [((A6, c6), [a])], kset (rep E (false, a)) ((gs.length : Nat) : Int) kv), ⟨hp1, hG.new hk (A6, c6)⟩, rfl, by dsimp only; rw [show (gs ++ [(((A6, c6), [a]) : Gp)]).length = (gs ++ [((none, 0), [])]).length from by simp]; exact SL.packIn (hw.pick ((perm_pick 1 rfl).trans (List.Perm.cons _ ((perm_pick 4 rfl).trans (List.Perm.cons _ ((perm_pick 4 rfl).trans (List.Perm.cons _ ((perm_pick 4 rfl).trans (List.Perm.cons _ ((perm_pick 4 rfl).trans (List.Perm.cons _ ((perm_pick 4 rfl).trans (List.Perm.cons _ ((perm_pick 3 rfl).trans (List.Perm.cons _ ((perm_pick 3 rfl).trans (List.Perm.cons _ ((perm_pick 3 rfl).trans (List.Perm.cons _ (List.Perm.refl _)))))))))))))))))))) (gpE_snoc gs ((A6, c6), [a]))⟩
 ·obtain ⟨j, rfl, hj⟩ := hG.idx _ _ hk
  obtain ⟨⟨⟨A5, c5⟩, ys⟩, hg⟩ := get_some (l := gs) (k := j) hj
  have hyl := hG.lens _ (List.mem_of_getElem? hg)
  dsimp only at hyl
  have hgl := hG.len
  refine CX.region ?_
  refine RX.cons rfl rfl (op_yld (y_load (i := 6) rfl rfl one_177 rfl rfl) rfl rfl ?_)
  refine RX.cons rfl rfl (op_yld (y_loadA (i := 0) rfl rfl agg_179 rfl rfl) rfl rfl ?_)
  refine RX.cons rfl rfl (op_yld (y_klookupOk (i := 5) (k := (rep E (false, a))) (kv := kv) (encK := keyB) (encV := (fun x : Int => Value.int .i64 x)) rfl rfl rfl kmapt_177 rfl) rfl rfl ?_)
  refine RX.know (t := 18) (u := .tuple #[.int .i64 ((j : Nat) : Int), .bool true]) rfl (by rw [hk]; rfl) ?_
  refine RX.cons rfl rfl (op_w (yw_move rfl rfl) rfl rfl ?_)
  refine RX.cons rfl rfl (op_w (yw_extract rfl rfl rfl) rfl rfl ?_)
  refine RX.cons rfl rfl (op_w (yw_extract rfl rfl rfl) rfl rfl ?_)
  refine RX.cons rfl rfl (op_w (yw_assign rfl rfl) rfl rfl ?_)
  refine RX.cons rfl rfl (op_w (yw_assign rfl rfl) rfl rfl ?_)
  refine RX.nil (XX.next (V' := [(0, _), (2, _), (3, _), (5, _), (6, _), (7, _)]) ⟨rfl, rfl, rfl, rfl, rfl, rfl, trivial⟩ ?_)
  refine CX.seq ?_
  refine CX.seq ?_
  refine CX.region ?_
  refine RX.cons rfl rfl (op_w (yw_move rfl rfl) rfl rfl ?_)
  refine RX.cons rfl rfl (op_w (yw_not rfl rfl) rfl rfl ?_)
  refine RX.nil (XX.next (V' := [(0, _), (2, _), (3, _), (5, _), (6, _), (22, _)]) ⟨rfl, rfl, rfl, rfl, rfl, rfl, trivial⟩ ?_)
  refine CX.condF rfl ?_
  refine CX.skip (XX.next (V' := [(0, _), (3, _), (6, _)]) ⟨rfl, rfl, rfl, trivial⟩ ?_)
  refine CX.packOut (e := .row A5 c5 3 1 (List.map iR ys)) (L' := [.blk g7 (.cells (#[Value.bool (Prod.fst (rep E (false, a))), Value.int .i64 (Prod.snd (rep E (false, a)))]) 179 (0, 0)), kmap keyB keyB gm p1, .row Ao co 24 1 (List.map gpC gs), .blk g5 (.cells (#[.slice Ao (List.length (gs : List Gp)) co]) 156 (0, 0)), kmap keyB (fun x : Int => Value.int .i64 x) gat kv, .blk g4 (.cells (#[.map (some gat)]) 177 (0, 0)), .blk gc (.cells (#[.map (some gm), .slice A1 (List.length (xs : List Int)) c1, .slice A2 (List.length (ds : List Int)) c2]) 185 (0, 0)), .blk g3 (.cells (#[.pointer (some ⟨gc, 0, none⟩)]) 175 (0, 0))]) ((perm_pick 2 rfl).trans (List.Perm.cons _ (List.Perm.refl _))) (gpE_out hg) ?_
  refine CX.rowSome 4 rfl (by simp <;> omega) (fun hAo => ?_)
  refine CX.drawL 10 ([pack (List.map gpE (gs.eraseIdx j)), kmap keyB keyB gm p1, .row Ao co 24 1 (List.map gpC gs), .blk g5 (.cells (#[.slice Ao (List.length (gs : List Gp)) co]) 156 (0, 0)), kmap keyB (fun x : Int => Value.int .i64 x) gat kv, .blk g4 (.cells (#[.map (some gat)]) 177 (0, 0)), .blk gc (.cells (#[.map (some gm), .slice A1 (List.length (xs : List Int)) c1, .slice A2 (List.length (ds : List Int)) c2]) 185 (0, 0)), .blk g3 (.cells (#[.pointer (some ⟨gc, 0, none⟩)]) 175 (0, 0))]) [(0, 8, 2147483648), (0, 64, 4294967296), (0, 8, 8589934592), (0, 64, 17179869184), (12, 25769803776, 34359738368), (16, 34359738368, 68719476736), (0, 1, 137438953472), (64, 137438953472, 274877906944), (160, 343597383680, 549755813888), (511, 6442450944, 1099511627776), (1023, 1649267441664, 0)] (by kernel_rfl) (by kernel_rfl) (by kernel_rfl) ?_
  refine DX.take 0 1 (by kernel_rfl) rfl rfl rfl rfl rfl (List.Sublist.cons _ (List.Sublist.cons_cons _ (List.Sublist.cons _ (List.Sublist.refl _)))) (y_load (i := 3) rfl rfl one_156 rfl rfl) ?_
  refine DX.takeW 1 3 (by kernel_rfl) rfl rfl rfl rfl rfl (yw_move rfl rfl) ?_
  refine DX.take 2 7 (by kernel_rfl) rfl rfl rfl rfl rfl (List.Sublist.cons _ (List.Sublist.cons_cons _ (List.Sublist.cons _ (List.Sublist.refl _)))) (y_load (i := 3) rfl rfl one_156 rfl rfl) ?_
  refine DX.takeW 3 15 (by kernel_rfl) rfl rfl rfl rfl rfl (yw_move rfl rfl) ?_
  refine DX.takeW 4 31 (by kernel_rfl) rfl rfl rfl rfl rfl (yw_index (k := j) rfl slt_156 rfl rfl (by omega) (by omega) hAo) ?_
  refine DX.take 5 63 (by kernel_rfl) rfl rfl rfl rfl rfl (List.Sublist.cons _ (List.Sublist.cons_cons _ (List.Sublist.cons _ (List.Sublist.refl _)))) (y_rowElem1 (i := 2) rfl rfl one_24 rfl (map_get hg)) ?_
  refine DX.takeW 6 127 (by kernel_rfl) rfl rfl rfl rfl rfl (yw_move rfl rfl) ?_
  refine DX.step 7 255 (by kernel_rfl) rfl rfl rfl (op_buildSlice rfl rfl rfl slb_24 rfl rfl (by intro v hv; simp only [List.mem_cons, List.not_mem_nil, or_false] at hv; subst hv; exact ⟨rfl, (plain_of rfl)⟩) (by decide) fun g9 => (DXs.mk (List.Sublist.cons _ (List.Sublist.cons _ (List.Sublist.cons_cons _ (List.Sublist.cons _ (List.Sublist.refl _))))) ?_))
  refine DX.step 8 511 (by kernel_rfl) rfl rfl rfl (op_appendM iR (i := 1) (j := 0) (xs := ys) ([a]) rfl rfl rfl slb_24 rfl rfl rfl rfl rfl rfl (by simp <;> omega) (by simp <;> omega) fun A6 c6 => (DXs.mk (List.Sublist.cons _ (List.Sublist.cons _ (List.Sublist.cons_cons _ (List.Sublist.cons _ (List.Sublist.refl _))))) ?_))
  refine DX.takeW 9 1023 (by kernel_rfl) rfl rfl rfl rfl rfl (yw_index (k := j) rfl slt_156 rfl rfl (by omega) (by omega) hAo) ?_
  refine DX.stepT 10 2047 (by kernel_rfl) rfl rfl rfl rfl (op_storeElemE (i := 5) (k := j) (ys := List.map gpC (gs.set j ((A6, c6), ys ++ [a]))) rfl rfl rfl rfl szt_24 rfl (plain_of rfl) rfl (by simp; omega) (gp_set gs j A6 c6 (ys ++ [a])) ?_)
  refine DX.done (by kernel_rfl) ?_
  exact end_none rfl fun w1 hw => ⟨(p1, (Ao, co), gs.set j ((A6, c6), ys ++ [a]), kv), ⟨hp1, hG.old hk hg (A6, c6)⟩, rfl, by dsimp only; rw [List.length_set]; exact SL.packIn (hw.pick ((perm_pick 1 rfl).trans (List.Perm.cons _ ((perm_pick 1 rfl).trans (List.Perm.cons _ ((perm_pick 3 rfl).trans (List.Perm.cons _ ((perm_pick 3 rfl).trans (List.Perm.cons _ ((perm_pick 3 rfl).trans (List.Perm.cons _ ((perm_pick 3 rfl).trans (List.Perm.cons _ ((perm_pick 2 rfl).trans (List.Perm.cons _ ((perm_pick 2 rfl).trans (List.Perm.cons _ ((perm_pick 2 rfl).trans (List.Perm.cons _ (List.Perm.refl _)))))))))))))))))))) (gpE_in ((A6, c6), ys ++ [a]) hg)⟩

end Go.Proofs.YtpcfgoadkfajfaaGreatDoor
namespace Go.Proofs.YtpcfgoadkfajfaaGreatDoor
set_option linter.all false
theorem mem_compact (zs : List Int) (x : Int) : x ∈ Lib.compact zs ↔ x ∈ zs := by
  unfold Lib.compact Lib.compactUpTo
  rw [List.mem_map]
  constructor
  · rintro ⟨j, hj, rfl⟩
    have hlt : j < zs.length := List.mem_range.1 (List.mem_filter.1 hj).1
    have : zs.toArray[j]! = zs[j] := by simp [hlt]
    rw [this]; exact List.getElem_mem hlt
  · intro hx
    obtain ⟨j, hj⟩ := List.mem_iff_getElem?.1 hx
    have H : ∀ (n j : Nat), j ≤ n → ∀ x, zs[j]? = some x → ∃ a, a ∈ List.filter (Lib.keeps zs.toArray) (List.range zs.length) ∧ zs.toArray[a]! = x := by
      intro n
      induction n with
      | zero =>
        intro j hjn x hx
        have : j = 0 := by omega
        subst this
        have hlt := (List.getElem?_eq_some_iff.1 hx).1
        exact ⟨0, List.mem_filter.2 ⟨List.mem_range.2 hlt, Lib.keeps_lt_one _ 0 (by omega)⟩, by have := (List.getElem?_eq_some_iff.1 hx).2; simp [hlt, this]⟩
      | succ n ih =>
        intro j hjn x hx
        have hlt := (List.getElem?_eq_some_iff.1 hx).1
        have hv : zs.toArray[j]! = x := by have := (List.getElem?_eq_some_iff.1 hx).2; simp [hlt, this]
        cases hk : Lib.keeps zs.toArray j with
        | true => exact ⟨j, List.mem_filter.2 ⟨List.mem_range.2 hlt, hk⟩, hv⟩
        | false =>
          have hj0 : 0 < j := by
            rcases Nat.eq_zero_or_pos j with e | e
            · rw [Lib.keeps_lt_one _ j (by omega)] at hk; cases hk
            · exact e
          have he : zs.toArray[j]! = zs.toArray[j - 1]! := by
            by_cases e : zs.toArray[j]! = zs.toArray[j - 1]!
            · exact e
            · rw [Lib.keeps_pos e] at hk; cases hk
          refine ih (j - 1) (by omega) x ?_
          rw [List.getElem?_eq_getElem (by omega)]
          rw [hv] at he
          rw [he]; simp [show j - 1 < zs.length by omega]
    exact H j j (Nat.le_refl _) x hj
theorem mem_uniq (xs : List Int) (x : Int) : x ∈ uniq xs ↔ x ∈ xs := by
  unfold uniq isort
  rw [mem_compact, List.mem_mergeSort]
theorem uniq_length (xs : List Int) : (uniq xs).length ≤ xs.length := by
  have h1 := Lib.compact_length_le (isort xs)
  have h2 : (isort xs).length = xs.length := List.length_mergeSort xs
  unfold uniq; omega
end Go.Proofs.YtpcfgoadkfajfaaGreatDoor
namespace Go.Proofs.YtpcfgoadkfajfaaGreatDoor
set_option linter.all false
open Go Go.RowKit
set_option maxRecDepth 100000
theorem ent_118 : ∀ args w, (callFunc 118 args).run Tryz.prog w = .ok (.enter 118 args) w := enters_of Tryz.func118 (by kernel_rfl) rfl
theorem zero_175 : Zero Tryz.prog 175 (.pointer none) := ⟨(Tryz.prog.info? 175).get!, by kernel_rfl, by kernel_rfl⟩
theorem szt_175 : SzT Tryz.prog 175 1 := ⟨(Tryz.prog.info? 175).get!, by kernel_rfl, by kernel_rfl⟩
theorem zero_177 : Zero Tryz.prog 177 (.map none) := ⟨(Tryz.prog.info? 177).get!, by kernel_rfl, by kernel_rfl⟩
theorem szt_177 : SzT Tryz.prog 177 1 := ⟨(Tryz.prog.info? 177).get!, by kernel_rfl, by kernel_rfl⟩
theorem zero_156 : Zero Tryz.prog 156 (.slice none 0 0) := ⟨(Tryz.prog.info? 156).get!, by kernel_rfl, by kernel_rfl⟩
theorem ent_119 : ∀ args w, (callFunc 119 args).run Tryz.prog w = .ok (.enter 119 args) w := enters_of Tryz.func119 (by kernel_rfl) rfl
set_option maxRecDepth 100000 in
theorem w_clusters {w : World} {A : Option Addr} {cap : Nat} (E : List (Int × Int)) (hr : Rd w A 2 (E.map edC)) (hl : E.length ≤ 1000000) :
    Calls Tryz.prog 98 #[.slice A E.length cap] w (fun e w' => ∃ z : (Option Addr × Nat) × List Gp, (Grouped (rep E) (uniq (List.map Prod.fst E)) (z.2.map Prod.snd) ∧ z.2.length ≤ E.length ∧ ∀ g ∈ z.2, g.2.length ≤ E.length) ∧ e = .returned (.slice z.1.1 z.2.length z.1.2) ∧ SL w [] w' [pack (List.map gpE z.2), .row z.1.1 z.1.2 24 1 (List.map gpC z.2)]) := by
 refine calls_of_CX (O := []) (L := []) (args := [.slice A E.length cap]) Tryz.func98 rfl (by simp [Tryz.ntmps98]) (SL.refl w) ?_
 refine CX.sub (V' := [(0, .slice A E.length cap)]) ⟨rfl, trivial⟩ ?_
 refine CX.seq ?_
 refine CX.region ?_
 refine RX.cons rfl rfl (op_w (yw_assign rfl rfl) rfl rfl ?_)
 refine RX.nil (XX.next (V' := [(0, _)]) ⟨rfl, trivial⟩ ?_)
 refine CX.seq ?_
 refine CX.region ?_
 refine RX.cons rfl rfl (op_w (yw_move rfl rfl) rfl rfl ?_)
 refine RX.cons rfl rfl (op_callE rfl rfl rfl rfl rfl ent_118 (fun w hw => w_of E (hw.rd hr (by simp)) hl) (fun ⟨⟨⟨gc, gm⟩, p, rk⟩, ⟨A1, c1⟩, ⟨A2, c2⟩⟩ hF => ?_))
 refine RX.cons rfl rfl (op_alloc rfl rfl rfl zero_175 fun g3 => ?_)
 refine RX.cons rfl rfl (op_storeAll (i := 0) rfl rfl rfl rfl szt_175 rfl (plain_of rfl) rfl rfl ?_)
 refine RX.nil (XX.next (V' := [(3, _)]) ⟨rfl, trivial⟩ ?_)
 refine CX.seq ?_
 refine CX.region ?_
 refine RX.cons rfl rfl (op_kmake keyB (fun x : Int => Value.int .i64 x) rfl rfl rfl fun gat => ?_)
 refine RX.cons rfl rfl (op_alloc rfl rfl rfl zero_177 fun g4 => ?_)
 refine RX.cons rfl rfl (op_storeAll (i := 0) rfl rfl rfl rfl szt_177 rfl (plain_of rfl) rfl rfl ?_)
 refine RX.nil (XX.next (V' := [(3, _), (4, _)]) ⟨rfl, rfl, trivial⟩ ?_)
 refine CX.seq ?_
 refine CX.region ?_
 refine RX.cons rfl rfl (op_alloc rfl rfl rfl zero_156 fun g5 => ?_)
 refine RX.nil (XX.next (V' := [(3, _), (4, _), (5, _)]) ⟨rfl, rfl, rfl, trivial⟩ ?_)
 refine CX.seq ?_
 refine CX.region ?_
 refine RX.cons rfl rfl (op_w (yw_makeFunc rfl rfl rfl) rfl rfl ?_)
 refine RX.cons rfl rfl (op_w (yw_assign rfl rfl) rfl rfl ?_)
 refine RX.nil (XX.next (V' := [(3, _), (5, _), (6, _)]) ⟨rfl, rfl, rfl, trivial⟩ ?_)
 refine CX.seq ?_
 refine CX.seq ?_
 refine CX.rowNil 24 1 ?_
 refine CX.packNil ?_
 refine CX.perm (L' := [pack [], .row none 0 24 1 (List.map gpC ([])), .blk g5 (.cells (#[.slice none 0 0]) 156 (0, 0)), kmap keyB (fun x : Int => Value.int .i64 x) gat ([]), .blk g4 (.cells (#[.map (some gat)]) 177 (0, 0)), kmap keyB keyB gm p, .blk gc (.cells (#[.map (some gm), .slice A1 (List.length ((uniq (List.map Prod.fst E)) : List Int)) c1, .slice A2 (List.length ((uniq (List.map Prod.snd E)) : List Int)) c2]) 185 (0, 0)), .blk g3 (.cells (#[.pointer (some ⟨gc, 0, none⟩)]) 175 (0, 0)), .row A2 c2 3 1 (List.map iR (uniq (List.map Prod.snd E))), .row A1 c1 3 1 (List.map iR (uniq (List.map Prod.fst E)))]) ((perm_pick 0 rfl).trans (List.Perm.cons _ ((perm_pick 0 rfl).trans (List.Perm.cons _ ((perm_pick 0 rfl).trans (List.Perm.cons _ ((perm_pick 1 rfl).trans (List.Perm.cons _ ((perm_pick 0 rfl).trans (List.Perm.cons _ ((perm_pick 4 rfl).trans (List.Perm.cons _ ((perm_pick 3 rfl).trans (List.Perm.cons _ ((perm_pick 0 rfl).trans (List.Perm.cons _ ((perm_pick 0 rfl).trans (List.Perm.cons _ ((perm_pick 0 rfl).trans (List.Perm.cons _ (List.Perm.refl _))))))))))))))))))))) ?_
 refine CX.region ?_
 refine RX.cons rfl rfl (op_yld (y_load (i := 7) rfl rfl one_175 rfl rfl) rfl rfl ?_)
 refine RX.cons rfl rfl (op_w (yw_nilCheck rfl rfl) rfl rfl ?_)
 refine RX.cons rfl rfl (op_w (yw_fieldAddr rfl fld_185_1 rfl) rfl rfl ?_)
 refine RX.cons rfl rfl (op_yld (y_load (i := 6) rfl rfl one_24 rfl rfl) rfl rfl ?_)
 refine RX.cons rfl rfl (op_w (yw_lenS rfl Tryz.underlying24 rfl) rfl rfl ?_)
 refine RX.cons rfl rfl (op_w (yw_move rfl rfl) rfl rfl ?_)
 refine RX.nil (XX.next (V' := [(5, _), (6, _), (16, _), (17, _), (18, _)]) ⟨rfl, rfl, rfl, rfl, rfl, trivial⟩ ?_)
 refine CX.block ?_
 have huf : (uniq (List.map Prod.fst E)).length ≤ E.length := by have := uniq_length (List.map Prod.fst E); rwa [List.length_map] at this
 refine CX.loop (σ := Nat × List (Nd × Nd) × (Option Addr × Nat) × List Gp × List (Nd × Int)) (fun z => [(5, .pointer (some ⟨g5, 0, none⟩)), (6, .func (.func 119) #[] #[.pointer (some ⟨g3, 0, none⟩), .pointer (some ⟨g4, 0, none⟩), .pointer (some ⟨g5, 0, none⟩)]), (16, .slice A1 (List.length ((uniq (List.map Prod.fst E)) : List Int)) c1), (17, .int .i64 ((List.length ((uniq (List.map Prod.fst E)) : List Int) : Nat) : Int)), (18, .int .i64 ((z.1 : Nat) : Int))]) (fun z => [pack (List.map gpE z.2.2.2.1), .row z.2.2.1.1 z.2.2.1.2 24 1 (List.map gpC z.2.2.2.1), .blk g5 (.cells (#[.slice z.2.2.1.1 (List.length (z.2.2.2.1 : List Gp)) z.2.2.1.2]) 156 (0, 0)), kmap keyB (fun x : Int => Value.int .i64 x) gat z.2.2.2.2, .blk g4 (.cells (#[.map (some gat)]) 177 (0, 0)), kmap keyB keyB gm z.2.1, .blk gc (.cells (#[.map (some gm), .slice A1 (List.length ((uniq (List.map Prod.fst E)) : List Int)) c1, .slice A2 (List.length ((uniq (List.map Prod.snd E)) : List Int)) c2]) 185 (0, 0)), .blk g3 (.cells (#[.pointer (some ⟨gc, 0, none⟩)]) 175 (0, 0)), .row A2 c2 3 1 (List.map iR (uniq (List.map Prod.snd E))), .row A1 c1 3 1 (List.map iR (uniq (List.map Prod.fst E)))]) (fun z => z.1 ≤ (uniq (List.map Prod.fst E)).length ∧ Forest z.2.1 (rep E) rk ∧ GrpOk (rep E) (List.take z.1 (uniq (List.map Prod.fst E))) z.2.2.2.1 z.2.2.2.2) (fun z => (uniq (List.map Prod.fst E)).length - z.1) (0, p, (none, 0), [], []) ⟨Nat.zero_le _, hF, GrpOk.nil _⟩ ⟨rfl, rfl, rfl, rfl, rfl, trivial⟩ rfl (fun z hI => ?_)
 clear hF
 obtain ⟨k, p, ⟨Ao, co⟩, gs, kv⟩ := z
 dsimp only at hI ⊢
 obtain ⟨hk, hF, hG⟩ := hI
 refine CX.seq ?_
 refine CX.region ?_
 refine RX.cons rfl rfl (op_w (yw_lss rfl rfl rfl) rfl rfl ?_)
 refine RX.nil (XX.next (V' := [(5, _), (6, _), (16, _), (17, _), (18, _), (19, _)]) ⟨rfl, rfl, rfl, rfl, rfl, rfl, trivial⟩ ?_)
 refine CX.seq ?_
 refine CX.condD (p := ((k : Nat) : Int) < ((List.length ((uniq (List.map Prod.fst E)) : List Int) : Nat) : Int)) rfl (fun c19 => ?_) (fun c19 => ?_)
 ·obtain ⟨x0, hx0⟩ := get_some (l := (uniq (List.map Prod.fst E))) (k := k) (by omega)
  have hx0m := List.mem_of_getElem? hx0
  refine CX.rowSome 9 rfl (by rw [List.length_map]; omega) (fun hA => ?_)
  refine CX.skip (XX.next (V' := [(5, _), (6, _), (16, _), (17, _), (18, _)]) ⟨rfl, rfl, rfl, rfl, rfl, trivial⟩ ?_)
  refine CX.seq ?_
  refine CX.block ?_
  refine CX.seq ?_
  refine CX.region ?_
  refine RX.cons rfl rfl (op_w (yw_index (k := k) rfl slt_24 rfl rfl (by omega) (by omega) hA) rfl rfl ?_)
  refine RX.cons rfl rfl (op_yld (y_rowElem1 (i := 9) rfl rfl one_3 rfl (map_get hx0)) rfl rfl ?_)
  refine RX.cons rfl rfl (op_w (yw_assign rfl rfl) rfl rfl ?_)
  refine RX.nil (XX.next (V' := [(5, _), (6, _), (8, _), (16, _), (17, _), (18, _)]) ⟨rfl, rfl, rfl, rfl, rfl, rfl, trivial⟩ ?_)
  refine CX.region ?_
  refine RX.cons rfl rfl (op_w (yw_move rfl rfl) rfl rfl ?_)
  refine RX.cons rfl rfl (op_w (yw_move rfl rfl) rfl rfl ?_)
  refine RX.cons rfl rfl (op_callP [pack (List.map gpE gs), .row Ao co 24 1 (List.map gpC gs), .blk g5 (.cells (#[.slice Ao (List.length (gs : List Gp)) co]) 156 (0, 0)), kmap keyB (fun x : Int => Value.int .i64 x) gat kv, .blk g4 (.cells (#[.map (some gat)]) 177 (0, 0)), kmap keyB keyB gm p, .blk gc (.cells (#[.map (some gm), .slice A1 (List.length ((uniq (List.map Prod.fst E)) : List Int)) c1, .slice A2 (List.length ((uniq (List.map Prod.snd E)) : List Int)) c2]) 185 (0, 0)), .blk g3 (.cells (#[.pointer (some ⟨gc, 0, none⟩)]) 175 (0, 0))] [.row A2 c2 3 1 (List.map iR (uniq (List.map Prod.snd E))), .row A1 c1 3 1 (List.map iR (uniq (List.map Prod.fst E)))] rfl rfl rfl rfl rfl ent_119 ((perm_pick 0 rfl).trans (List.Perm.cons _ ((perm_pick 0 rfl).trans (List.Perm.cons _ ((perm_pick 0 rfl).trans (List.Perm.cons _ ((perm_pick 0 rfl).trans (List.Perm.cons _ ((perm_pick 0 rfl).trans (List.Perm.cons _ ((perm_pick 0 rfl).trans (List.Perm.cons _ ((perm_pick 0 rfl).trans (List.Perm.cons _ ((perm_pick 0 rfl).trans (List.Perm.cons _ (List.Perm.refl _))))))))))))))))) (σ := List (Nd × Nd) × (Option Addr × Nat) × List Gp × List (Nd × Int)) (val := fun _ => .tuple #[]) (LL := fun q => [pack (List.map gpE q.2.2.1), .row q.2.1.1 q.2.1.2 24 1 (List.map gpC q.2.2.1), .blk g5 (.cells (#[.slice q.2.1.1 (List.length (q.2.2.1 : List Gp)) q.2.1.2]) 156 (0, 0)), kmap keyB (fun x : Int => Value.int .i64 x) gat q.2.2.2, .blk g4 (.cells (#[.map (some gat)]) 177 (0, 0)), kmap keyB keyB gm q.1, .blk gc (.cells (#[.map (some gm), .slice A1 (List.length ((uniq (List.map Prod.fst E)) : List Int)) c1, .slice A2 (List.length ((uniq (List.map Prod.snd E)) : List Int)) c2]) 185 (0, 0)), .blk g3 (.cells (#[.pointer (some ⟨gc, 0, none⟩)]) 175 (0, 0))]) (post := fun q => Forest q.1 (rep E) rk ∧ GrpOk (rep E) (List.take k (uniq (List.map Prod.fst E)) ++ [x0]) q.2.2.1 q.2.2.2) (fun w hw hs => w_clusters1 E x0 p gs kv (List.take k (uniq (List.map Prod.fst E))) (uniq (List.map Prod.fst E)) (uniq (List.map Prod.snd E)) hF hG (by rw [List.length_take]; omega) hs) (fun q hq => ?_))
  refine RX.nil (XX.inBlock (V' := [(5, _), (6, _), (16, _), (17, _), (18, _)]) ⟨rfl, rfl, rfl, rfl, rfl, trivial⟩ ?_)
  refine XX.next (V' := [(5, _), (6, _), (16, _), (17, _), (18, _)]) ⟨rfl, rfl, rfl, rfl, rfl, trivial⟩ ?_
  refine CX.region ?_
  refine RX.cons rfl rfl (op_w (yw_add rfl rfl rfl (by omega) (by omega)) rfl rfl ?_)
  refine RX.cons rfl rfl (op_w (yw_move rfl rfl) rfl rfl ?_)
  refine RX.nil (XX.againP ([]) (k + 1, q) (by dsimp only; omega) ⟨by dsimp only; omega, hq.1, by dsimp only; rw [take_succ hx0]; exact hq.2⟩ ⟨rfl, rfl, rfl, rfl, rfl, trivial⟩ ((perm_pick 0 rfl).trans (List.Perm.cons _ ((perm_pick 0 rfl).trans (List.Perm.cons _ ((perm_pick 0 rfl).trans (List.Perm.cons _ ((perm_pick 0 rfl).trans (List.Perm.cons _ ((perm_pick 0 rfl).trans (List.Perm.cons _ ((perm_pick 0 rfl).trans (List.Perm.cons _ ((perm_pick 0 rfl).trans (List.Perm.cons _ ((perm_pick 0 rfl).trans (List.Perm.cons _ ((perm_pick 0 rfl).trans (List.Perm.cons _ ((perm_pick 0 rfl).trans (List.Perm.cons _ (List.Perm.refl _))))))))))))))))))))))
 ·rw [List.take_of_length_le (show (uniq (List.map Prod.fst E)).length ≤ k by omega)] at hG
  refine CX.exit ?_
  refine XX.then_exit ?_
  refine XX.then_exit ?_
  refine XX.block_exit ?_
  refine XX.next (V' := [(5, _)]) ⟨rfl, trivial⟩ ?_
  refine CX.seq ?_
  refine CX.region ?_
  refine RX.cons rfl rfl (op_yld (y_load (i := 2) rfl rfl one_156 rfl rfl) rfl rfl ?_)
  refine RX.cons rfl rfl (op_w (yw_assign rfl rfl) rfl rfl ?_)
  refine RX.nil (XX.next (V' := [(2, .slice Ao (List.length (gs : List Gp)) co)]) ⟨rfl, trivial⟩ ?_)
  refine CX.ret ?_
  exact ret_tmp rfl rfl fun w1 hw => ⟨((Ao, co), gs), ⟨hG.grouped, by have := hG.len; dsimp only; omega, fun g hg => by have := hG.lens g hg; omega⟩, rfl, hw.pick ((perm_pick 0 rfl).trans (List.Perm.cons _ ((perm_pick 0 rfl).trans (List.Perm.cons _ (List.Perm.refl _)))))⟩

end Go.Proofs.YtpcfgoadkfajfaaGreatDoor
namespace Go.Proofs.YtpcfgoadkfajfaaGreatDoor
set_option linter.all false
structure HeadOk (Gs : List (List Int)) (seen : List Int) (kv : List (Int × Int)) : Prop where
  src : ∀ a h, kget a kv = some h → ∃ g ∈ Gs, a ∈ g ∧ g[0]? = some h
  all : ∀ a ∈ seen, (kget a kv).isSome = true
theorem HeadOk.nil (Gs : List (List Int)) : HeadOk Gs [] [] := ⟨fun a h hk => (by cases hk), fun a h => (by cases h)⟩
theorem HeadOk.set {Gs : List (List Int)} {seen : List Int} {kv : List (Int × Int)} (h : HeadOk Gs seen kv) {g : List Int} {a h0 : Int} (hg : g ∈ Gs) (ha : a ∈ g) (hh : g[0]? = some h0) : HeadOk Gs (seen ++ [a]) (kset a h0 kv) := by
  refine ⟨fun b c hk => ?_, fun b hb => ?_⟩
  · rw [kget_kset] at hk
    split at hk
    · rename_i e
      rw [e, ← Option.some.inj hk]
      exact ⟨g, hg, ha, hh⟩
    · exact h.src b c hk
  · rw [kget_kset]
    split
    · rfl
    · rename_i hne
      rcases List.mem_append.1 hb with hb | hb
      · exact h.all b hb
      · exact absurd (List.mem_singleton.1 hb) hne
/-- Each account of a list, and no other, has a number; they are equal where the accounts are joined. -/
structure ClOk (R : Nd → Nd) (all : List Int) (kv : List (Int × Int)) : Prop where
  some_ : ∀ a ∈ all, ∃ c, kget a kv = some c
  none_ : ∀ a, a ∉ all → kget a kv = none
  same : ∀ a b c d, kget a kv = some c → kget b kv = some d → (c = d ↔ R (false, a) = R (false, b))
theorem HeadOk.done {R : Nd → Nd} {all : List Int} {Gs : List (List Int)} {kv : List (Int × Int)} (hG : Grouped R all Gs) (h : HeadOk Gs (Gs.flatMap id) kv) : ClOk R all kv := by
  have hone : ∀ g ∈ Gs, ∀ c, g[0]? = some c → c ∈ g := fun g _ c hc => List.mem_of_getElem? hc
  refine ⟨fun a ha => ?_, fun a ha => ?_, fun a b c d h1 h2 => ?_⟩
  · obtain ⟨g, hg, hag⟩ := hG.has a ha
    exact Option.isSome_iff_exists.1 (h.all a (List.mem_flatMap.2 ⟨g, hg, hag⟩))
  · cases hk : kget a kv with
    | none => rfl
    | some c =>
      obtain ⟨g, hg, hag, _⟩ := h.src a c hk
      exact absurd (hG.one g hg a hag) ha
  · obtain ⟨g, hg, hag, hgc⟩ := h.src a c h1
    obtain ⟨k, hk, hbk, hkd⟩ := h.src b d h2
    have e1 : R (false, a) = R (false, c) := (hG.same g hg g hg a hag c (hone g hg c hgc)).2 rfl
    have e2 : R (false, b) = R (false, d) := (hG.same k hk k hk b hbk d (hone k hk d hkd)).2 rfl
    constructor
    · intro e; rw [e1, e2, e]
    · intro e
      have : g = k := (hG.same g hg k hk a hag b hbk).1 e
      subst this
      rw [hgc] at hkd
      exact Option.some.inj hkd
theorem ClOk.of_mem {R : Nd → Nd} {all all' : List Int} {kv : List (Int × Int)} (h : ClOk R all kv) (hm : ∀ x, x ∈ all ↔ x ∈ all') : ClOk R all' kv :=
  ⟨fun a ha => h.some_ a ((hm a).2 ha), fun a ha => h.none_ a (fun h2 => ha ((hm a).1 h2)), h.same⟩
theorem flat_snoc {α : Type} (Gs : List (List α)) {j : Nat} {g : List α} (hg : Gs[j]? = some g) : (Gs.take (j + 1)).flatMap id = (Gs.take j).flatMap id ++ g := by
  rw [List.take_add_one, hg, List.flatMap_append]; simp
end Go.Proofs.YtpcfgoadkfajfaaGreatDoor
namespace Go.Proofs.YtpcfgoadkfajfaaGreatDoor
set_option linter.all false
/-! ### How many different numbers -/
theorem kget_some_mem {κ α : Type} [DecidableEq κ] {x : κ} {v : α} : ∀ {l : List (κ × α)}, kget x l = some v → (x, v) ∈ l
  | [], h => by cases h
  | p :: r, h => by
    unfold kget at h
    by_cases hx : x = p.1
    · rw [if_pos hx] at h
      obtain rfl := Option.some.inj h
      rw [hx]; exact List.mem_cons_self
    · rw [if_neg hx] at h
      exact List.mem_cons_of_mem _ (kget_some_mem h)
theorem kset_keys {κ α : Type} [DecidableEq κ] (x : κ) (v : α) : ∀ l : List (κ × α), (kset x v l).map Prod.fst = if x ∈ l.map Prod.fst then l.map Prod.fst else l.map Prod.fst ++ [x]
  | [] => rfl
  | p :: r => by
    unfold kset
    by_cases hx : x = p.1
    · rw [if_pos hx]; simp [hx]
    · rw [if_neg hx, List.map_cons, kset_keys x v r]
      by_cases hm : x ∈ r.map Prod.fst
      · rw [if_pos hm, if_pos (by rw [List.map_cons]; exact List.mem_cons_of_mem _ hm)]; rfl
      · rw [if_neg hm, if_neg (by rw [List.map_cons]; intro h; rcases List.mem_cons.1 h with h | h; exact hx h; exact hm h)]; rfl
theorem seenL_spec (xs : List Int) : ((seenL xs).map Prod.fst).Nodup ∧ ∀ x, x ∈ (seenL xs).map Prod.fst ↔ x ∈ xs := by
  have H : ∀ n (xs : List Int), xs.length = n → ((seenL xs).map Prod.fst).Nodup ∧ ∀ x, x ∈ (seenL xs).map Prod.fst ↔ x ∈ xs := by
    intro n
    induction n with
    | zero => intro xs h; obtain rfl := List.eq_nil_of_length_eq_zero h; exact ⟨by simp [seenL], by simp [seenL]⟩
    | succ n ih =>
      intro xs h
      obtain ⟨ys, y, rfl⟩ : ∃ ys y, xs = ys ++ [y] := ⟨xs.dropLast, xs.getLast (by intro h2; simp [h2] at h), (List.dropLast_concat_getLast _).symm⟩
      obtain ⟨h1, h2⟩ := ih ys (by simpa using h)
      rw [seenL_snoc, kset_keys]
      by_cases hm : y ∈ (seenL ys).map Prod.fst
      · rw [if_pos hm]
        refine ⟨h1, fun x => ?_⟩
        rw [h2, List.mem_append, List.mem_singleton]
        exact ⟨.inl, fun h => h.elim id fun e => by rw [e]; exact (h2 y).1 hm⟩
      · rw [if_neg hm]
        refine ⟨List.nodup_append.2 ⟨h1, by simp, fun a ha b hb e => ?_⟩, fun x => ?_⟩
        · rw [List.mem_singleton.1 hb] at e; rw [e] at ha; exact hm ha
        · rw [List.mem_append, List.mem_append, h2]
  exact H _ xs rfl
theorem nodup_le {α : Type} [DecidableEq α] : ∀ {xs ys : List α}, xs.Nodup → (∀ x ∈ xs, x ∈ ys) → xs.length ≤ ys.length
  | [], ys, _, _ => Nat.zero_le _
  | x :: xs, ys, hn, h => by
    rw [List.nodup_cons] at hn
    have h1 := nodup_le (xs := xs) (ys := ys.erase x) hn.2 (fun y hy => by
      rw [List.mem_erase_of_ne (fun e => hn.1 (by rw [← e]; exact hy))]
      exact h y (List.mem_cons_of_mem _ hy))
    have h2 := List.length_erase_of_mem (h x List.mem_cons_self)
    have h3 := List.length_pos_of_mem (h x List.mem_cons_self)
    rw [List.length_cons]; omega
theorem dcount_le {xs ys : List Int} (h : ∀ x ∈ xs, x ∈ ys) : dcount xs ≤ dcount ys := by
  obtain ⟨a1, a2⟩ := seenL_spec xs
  obtain ⟨b1, b2⟩ := seenL_spec ys
  have := nodup_le a1 (ys := (seenL ys).map Prod.fst) (fun x hx => (b2 x).2 (h x ((a2 x).1 hx)))
  simpa [dcount] using this
theorem dcount_len (xs : List Int) : dcount xs ≤ xs.length := by
  obtain ⟨a1, a2⟩ := seenL_spec xs
  have := nodup_le a1 (ys := xs) (fun x hx => (a2 x).1 hx)
  simpa [dcount] using this
theorem dcount_nodup {xs : List Int} (h : xs.Nodup) : dcount xs = xs.length := by
  obtain ⟨a1, a2⟩ := seenL_spec xs
  have h1 := dcount_len xs
  have h2 := nodup_le h (ys := (seenL xs).map Prod.fst) (fun x hx => (a2 x).2 hx)
  rw [List.length_map] at h2
  exact Nat.le_antisymm h1 h2
theorem dcount_unique {xs ys : List Int} (h : ys.Nodup) (hm : ∀ x, x ∈ ys ↔ x ∈ xs) : dcount xs = ys.length := by
  rw [← dcount_nodup h]
  exact Nat.le_antisymm (dcount_le fun x hx => (hm x).2 hx) (dcount_le fun x hx => (hm x).1 hx)
/-! ### Groups -/
def accs (l : List Sm) : List Int := l.map Sm.acc
theorem fst_edges (l : List Sm) : (edgesOf l).map Prod.fst = accs l := by simp [edgesOf, accs]
theorem snd_edges (l : List Sm) : (edgesOf l).map Prod.snd = l.map Sm.dev := by simp [edgesOf]
/-- Accounts that are joined. -/
def joinA (l : List Sm) (a b : Int) : Bool := decide (rep (edgesOf l) (false, a) = rep (edgesOf l) (false, b))
def inGrp (l : List Sm) (s : Sm) (k : Int) (t : Sm) : Bool :=
  if k = 1 then decide (t.acc = s.acc) else if k = 2 then decide (t.dev = s.dev) else if k = 3 then decide (s.acc ∈ accs l) && joinA l t.acc s.acc else false
def grp (l : List Sm) (s : Sm) (k : Int) : List Sm := l.filter (inGrp l s k)
def meas (l : List Sm) (s : Sm) (k m : Int) : Nat := cnt (grp l s k) m
/-- A judgement with this action that a stream meets. -/
def meets (rs : List Ru) (l : List Sm) (s : Sm) (act : Int) : Bool := rs.any fun r => okR r && decide (r.act = act) && decide (r.n < ((meas l s r.sub r.mea : Nat) : Int))
def free (rs : List Ru) (s : Sm) : Bool := rs.any fun r => okR r && decide (r.act = 3) && decide (r.n = s.acc)
def jud (rs : List Ru) (l : List Sm) (s : Sm) : Int := if free rs s = true then 1 else if meets rs l s 2 = true then 3 else if meets rs l s 1 = true then 2 else 1
theorem cnt_le {l l' : List Sm} (hn : l.length ≤ l'.length) (h : ∀ t ∈ l, t ∈ l') (m : Int) : cnt l m ≤ cnt l' m := by
  have hs : ∀ f : Sm → Int, ∀ x ∈ l.map f, x ∈ l'.map f := fun f x hx => by
    obtain ⟨t, ht, rfl⟩ := List.mem_map.1 hx
    exact List.mem_map.2 ⟨t, h t ht, rfl⟩
  unfold cnt
  split; · exact hn
  split; · exact dcount_le (hs _)
  split; · exact dcount_le (hs _)
  split; · exact dcount_le (hs _)
  exact Nat.le_refl _
theorem cnt_len (l : List Sm) (m : Int) : cnt l m ≤ l.length := by
  unfold cnt
  split; · exact Nat.le_refl _
  split; · have := dcount_len (l.map Sm.acc); simpa using this
  split; · have := dcount_len (l.map Sm.dev); simpa using this
  split; · have := dcount_len (l.map Sm.song); simpa using this
  exact Nat.zero_le _
theorem cnt_pos {l : List Sm} {m : Int} (hl : l ≠ []) (h1 : 1 ≤ m) (h4 : m ≤ 4) : 1 ≤ cnt l m := by
  have hd : ∀ f : Sm → Int, 1 ≤ dcount (l.map f) := fun f => by
    obtain ⟨x, r, rfl⟩ := List.exists_cons_of_ne_nil hl
    have : dcount [f x] ≤ dcount ((x :: r).map f) := dcount_le fun y hy => by rw [List.mem_singleton.1 hy]; exact List.mem_map.2 ⟨x, List.mem_cons_self, rfl⟩
    exact Nat.le_trans (by rw [dcount_nodup (by simp)]; exact Nat.le_refl _) this
  unfold cnt
  split; · exact List.length_pos_iff.2 hl
  split; · exact hd _
  split; · exact hd _
  split; · exact hd _
  omega
/-- More streams, more in every group. -/
theorem filter_len {α : Type} {p q : α → Bool} : ∀ {l : List α}, (∀ x ∈ l, p x = true → q x = true) → (l.filter p).length ≤ (l.filter q).length
  | [], _ => Nat.le_refl _
  | a :: l, h => by
    have ih := filter_len (l := l) fun x hx => h x (List.mem_cons_of_mem _ hx)
    simp only [List.filter_cons]
    cases hp : p a with
    | false => cases q a <;> simp <;> omega
    | true => rw [h a List.mem_cons_self hp]; simpa using ih
theorem join_mono {l l' : List Sm} (h : ∀ t ∈ l, t ∈ l') {a b : Int} (hj : joinA l a b = true) : joinA l' a b = true := by
  unfold joinA at *
  rw [decide_eq_true_eq] at *
  rw [rep_eq] at *
  refine hj.mono fun e he => ?_
  obtain ⟨t, ht, rfl⟩ := List.mem_map.1 he
  exact List.mem_map.2 ⟨t, h t ht, rfl⟩
theorem inGrp_mono {l l' : List Sm} (h : ∀ t ∈ l, t ∈ l') {s t : Sm} {k : Int} (hg : inGrp l s k t = true) : inGrp l' s k t = true := by
  unfold inGrp at *
  split at hg
  · rename_i h1; rw [if_pos h1]; exact hg
  · rename_i h1; rw [if_neg h1]
    split at hg
    · rename_i h2; rw [if_pos h2]; exact hg
    · rename_i h2; rw [if_neg h2]
      split at hg
      · rename_i h3; rw [if_pos h3]
        rw [Bool.and_eq_true, decide_eq_true_eq] at *
        refine ⟨?_, join_mono h hg.2⟩
        obtain ⟨t, ht, e⟩ := List.mem_map.1 hg.1
        exact List.mem_map.2 ⟨t, h t ht, e⟩
      · cases hg
theorem meas_snoc (l : List Sm) (x s : Sm) (k m : Int) : meas l s k m ≤ meas (l ++ [x]) s k m := by
  have hs : ∀ t ∈ l, t ∈ l ++ [x] := fun t ht => List.mem_append_left _ ht
  refine cnt_le ?_ ?_ m
  · refine Nat.le_trans (filter_len (p := inGrp l s k) (q := inGrp (l ++ [x]) s k) fun t _ ht => inGrp_mono hs ht) ?_
    unfold grp; rw [List.filter_append, List.length_append]; omega
  · intro t ht
    obtain ⟨h1, h2⟩ := List.mem_filter.1 ht
    exact List.mem_filter.2 ⟨hs t h1, inGrp_mono hs h2⟩
theorem meas_perm {l l' : List Sm} (h : l.Perm l') (s : Sm) (k m : Int) : meas l s k m = meas l' s k m := by
  have H : ∀ {l l' : List Sm}, l.Perm l' → meas l s k m ≤ meas l' s k m := by
    intro l l' h
    have hs : ∀ t ∈ l, t ∈ l' := fun t ht => h.mem_iff.1 ht
    refine cnt_le ?_ ?_ m
    · refine Nat.le_trans (filter_len fun t _ ht => inGrp_mono hs ht) ?_
      exact Nat.le_of_eq (h.filter _).length_eq
    · intro t ht
      obtain ⟨h1, h2⟩ := List.mem_filter.1 ht
      exact List.mem_filter.2 ⟨hs t h1, inGrp_mono hs h2⟩
  exact Nat.le_antisymm (H h) (H h.symm)
/-! ### Marks -/
theorem meets_perm {rs rs' : List Ru} {l l' : List Sm} (hr : rs.Perm rs') (h : l.Perm l') (s : Sm) (a : Int) : meets rs l s a = meets rs' l' s a := by
  have : (fun r : Ru => okR r && decide (r.act = a) && decide (r.n < ((meas l s r.sub r.mea : Nat) : Int))) = (fun r : Ru => okR r && decide (r.act = a) && decide (r.n < ((meas l' s r.sub r.mea : Nat) : Int))) := by
    funext r; rw [meas_perm h]
  unfold meets; rw [this, Bool.eq_iff_iff, List.any_eq_true, List.any_eq_true]
  exact ⟨fun ⟨r, h1, h2⟩ => ⟨r, hr.mem_iff.1 h1, h2⟩, fun ⟨r, h1, h2⟩ => ⟨r, hr.mem_iff.2 h1, h2⟩⟩
theorem free_perm {rs rs' : List Ru} (hr : rs.Perm rs') (s : Sm) : free rs s = free rs' s := by
  unfold free; rw [Bool.eq_iff_iff, List.any_eq_true, List.any_eq_true]
  exact ⟨fun ⟨r, h1, h2⟩ => ⟨r, hr.mem_iff.1 h1, h2⟩, fun ⟨r, h1, h2⟩ => ⟨r, hr.mem_iff.2 h1, h2⟩⟩
theorem jud_perm {rs rs' : List Ru} {l l' : List Sm} (hr : rs.Perm rs') (h : l.Perm l') (s : Sm) : jud rs l s = jud rs' l' s := by
  unfold jud; rw [free_perm hr, meets_perm hr h, meets_perm hr h]
theorem jud_range (rs : List Ru) (l : List Sm) (s : Sm) : 1 ≤ jud rs l s ∧ jud rs l s ≤ 3 := by
  unfold jud; repeat' split
  all_goals omega
/-- More exemptions, fewer judgements: no mark is greater. -/
theorem jud_le {rs rs' : List Ru} {l l' : List Sm} {s : Sm} (hf : free rs' s = true → free rs s = true) (h2 : meets rs l s 2 = true → meets rs' l' s 2 = true) (h1 : meets rs l s 1 = true → meets rs' l' s 1 = true) : jud rs l s ≤ jud rs' l' s := by
  unfold jud
  by_cases f : free rs s = true
  · rw [if_pos f]; repeat' split
    all_goals omega
  · rw [if_neg f, if_neg (fun h => f (hf h))]
    by_cases m2 : meets rs l s 2 = true
    · rw [if_pos m2, if_pos (h2 m2)]; omega
    · rw [if_neg m2]
      by_cases m1 : meets rs l s 1 = true
      · rw [if_pos m1, if_pos (h1 m1)]; split <;> omega
      · rw [if_neg m1]; repeat' split
        all_goals omega
theorem jud_late (rs : List Ru) (l : List Sm) (x s : Sm) : jud rs l s ≤ jud rs (l ++ [x]) s := by
  have H : ∀ a, meets rs l s a = true → meets rs (l ++ [x]) s a = true := fun a h => by
    obtain ⟨r, h1, h2⟩ := List.any_eq_true.1 h
    refine List.any_eq_true.2 ⟨r, h1, ?_⟩
    rw [Bool.and_eq_true, decide_eq_true_eq] at *
    exact ⟨h2.1, by have := meas_snoc l x s r.sub r.mea; omega⟩
  exact jud_le id (H 2) (H 1)
theorem jud_more {rs : List Ru} {l : List Sm} {s : Sm} {r : Ru} (h : r.act ≠ 3) : jud rs l s ≤ jud (rs ++ [r]) l s := by
  have H : ∀ a, meets rs l s a = true → meets (rs ++ [r]) l s a = true := fun a h => by unfold meets at *; rw [List.any_append, h]; rfl
  refine jud_le (fun hf => ?_) (H 2) (H 1)
  unfold free at *; rw [List.any_append] at hf
  simpa [h] using hf
theorem jud_allow {rs : List Ru} {l : List Sm} {s : Sm} {r : Ru} (h : r.act = 3) : jud (rs ++ [r]) l s ≤ jud rs l s := by
  have H : ∀ a, a ≠ 3 → meets (rs ++ [r]) l s a = true → meets rs l s a = true := fun a ha hm => by
    unfold meets at *; rw [List.any_append] at hm; simpa [h, Ne.symm ha] using hm
  refine jud_le (fun hf => ?_) (H 2 (by decide)) (H 1 (by decide))
  unfold free at *; rw [List.any_append, hf]; rfl
theorem jud_none {rs : List Ru} {l : List Sm} {s : Sm} (h : ∀ r ∈ rs, r.act ≠ 1 ∧ r.act ≠ 2) : jud rs l s = 1 := by
  have H : ∀ a, a = 1 ∨ a = 2 → meets rs l s a = false := fun a ha => by
    cases hm : meets rs l s a with
    | false => rfl
    | true =>
      obtain ⟨r, h1, h2⟩ := List.any_eq_true.1 hm
      rw [Bool.and_eq_true, Bool.and_eq_true, decide_eq_true_eq] at h2
      have := h r h1; omega
  unfold jud; rw [H 2 (.inr rfl), H 1 (.inl rfl)]; simp
theorem jud_bad {rs : List Ru} {l : List Sm} {s : Sm} (h : ∀ r ∈ rs, okR r = false) : jud rs l s = 1 := by
  have H : ∀ a, meets rs l s a = false := fun a => by
    cases hm : meets rs l s a with
    | false => rfl
    | true =>
      obtain ⟨r, h1, h2⟩ := List.any_eq_true.1 hm
      rw [h r h1] at h2; cases h2
  unfold jud; rw [H 2, H 1]; simp
theorem jud_free {rs : List Ru} {l : List Sm} {s : Sm} (h : free rs s = true) : jud rs l s = 1 := by unfold jud; rw [if_pos h]
/-! ### Streams that are joined -/
theorem conn_in {E : List (Int × Int)} {c : Nd} {F : List (Int × Int)} (hF : ∀ e ∈ E, Conn E (false, e.1) c → e ∈ F) {x y : Nd} (h : Conn E x y) : Conn E x c → Conn F x y := by
  induction h with
  | refl x => exact fun _ => .refl x
  | edge he => exact fun hc => .edge (hF _ he hc)
  | symm h ih => exact fun hc => (ih (h.trans hc)).symm
  | trans h1 h2 i1 i2 => exact fun hc => (i1 hc).trans (i2 (h1.symm.trans hc))
def near (l : List Sm) (a : Int) : List Sm := l.filter fun t => joinA l t.acc a
theorem near_sub (l : List Sm) (a : Int) : ∀ t ∈ near l a, t ∈ l := fun t ht => (List.mem_filter.1 ht).1
theorem near_join {l : List Sm} {c a b : Int} (ha : joinA l a c = true) (h : joinA l a b = true) : joinA (near l c) a b = true := by
  unfold joinA at *
  rw [decide_eq_true_eq] at *
  rw [rep_eq] at *
  refine conn_in (c := (false, c)) (fun e he hc => ?_) h ha
  obtain ⟨t, ht, rfl⟩ := List.mem_map.1 he
  refine List.mem_map.2 ⟨t, List.mem_filter.2 ⟨ht, ?_⟩, rfl⟩
  show joinA l t.acc c = true
  unfold joinA; rw [decide_eq_true_eq, rep_eq]; exact hc
theorem join_refl (l : List Sm) (a : Int) : joinA l a a = true := by simp [joinA]
theorem join_symm {l : List Sm} {a b : Int} (h : joinA l a b = true) : joinA l b a = true := by
  unfold joinA at *; rw [decide_eq_true_eq] at *; exact h.symm
theorem join_dev {l : List Sm} {s t : Sm} (hs : s ∈ l) (ht : t ∈ l) (h : t.dev = s.dev) : joinA l t.acc s.acc = true := by
  unfold joinA; rw [decide_eq_true_eq, rep_eq]
  have h1 : Conn (edgesOf l) (false, t.acc) (true, t.dev) := .edge (List.mem_map.2 ⟨t, ht, rfl⟩)
  have h2 : Conn (edgesOf l) (false, s.acc) (true, s.dev) := .edge (List.mem_map.2 ⟨s, hs, rfl⟩)
  rw [h] at h1; exact h1.trans h2.symm
theorem grp_near {l : List Sm} {s : Sm} (hs : s ∈ l) (k : Int) : grp (near l s.acc) s k = grp l s k := by
  unfold grp
  rw [near, List.filter_filter]
  refine List.filter_congr fun t ht => ?_
  have hsn : s ∈ near l s.acc := List.mem_filter.2 ⟨hs, join_refl l _⟩
  rw [Bool.eq_iff_iff, Bool.and_eq_true]
  constructor
  · exact fun h => inGrp_mono (near_sub l s.acc) h.1
  · intro h
    have hj : joinA l t.acc s.acc = true := by
      unfold inGrp at h
      split at h
      · rw [of_decide_eq_true h]; exact join_refl l _
      · split at h
        · exact join_dev hs ht (of_decide_eq_true h)
        · split at h
          · rw [Bool.and_eq_true] at h; exact h.2
          · cases h
    refine ⟨?_, hj⟩
    have e : near l s.acc = l.filter fun t => joinA l t.acc s.acc := rfl
    rw [← e]
    unfold inGrp at *
    split
    · rename_i h1; rwa [if_pos h1] at h
    · rename_i h1; rw [if_neg h1] at h
      split
      · rename_i h2; rwa [if_pos h2] at h
      · rename_i h2; rw [if_neg h2] at h
        split
        · rw [Bool.and_eq_true, decide_eq_true_eq]
          exact ⟨List.mem_map.2 ⟨s, hsn, rfl⟩, near_join hj hj⟩
        · rename_i h3; rw [if_neg h3] at h; cases h
theorem jud_near {rs : List Ru} {l : List Sm} {s : Sm} (hs : s ∈ l) : jud rs (near l s.acc) s = jud rs l s := by
  have : ∀ a, meets rs (near l s.acc) s a = meets rs l s a := fun a => by unfold meets meas; simp only [grp_near hs]
  unfold jud; rw [this, this]
/-! ### Measures beside each other -/
theorem meas_part {l : List Sm} {s : Sm} (hs : s ∈ l) {k : Int} (hk : k = 1 ∨ k = 2) (m : Int) : meas l s k m ≤ meas l s 3 m := by
  have H : ∀ t ∈ l, inGrp l s k t = true → inGrp l s 3 t = true := by
    intro t ht h
    have hj : joinA l t.acc s.acc = true := by
      rcases hk with rfl | rfl
      · have : t.acc = s.acc := by simpa [inGrp] using h
        rw [this]; exact join_refl l _
      · exact join_dev hs ht (by simpa [inGrp] using h)
    have : s.acc ∈ accs l := List.mem_map.2 ⟨s, hs, rfl⟩
    simp [inGrp, hj, this]
  exact cnt_le (filter_len H) (fun t ht => by obtain ⟨h1, h2⟩ := List.mem_filter.1 ht; exact List.mem_filter.2 ⟨h1, H t h1 h2⟩) m
theorem mem_grp {l : List Sm} {s : Sm} (hs : s ∈ l) {k : Int} (h1 : 1 ≤ k) (h3 : k ≤ 3) : s ∈ grp l s k := by
  refine List.mem_filter.2 ⟨hs, ?_⟩
  have : s.acc ∈ accs l := List.mem_map.2 ⟨s, hs, rfl⟩
  rcases (by omega : k = 1 ∨ k = 2 ∨ k = 3) with rfl | rfl | rfl <;> simp [inGrp, this, join_refl]
theorem meas_pos {l : List Sm} {s : Sm} (hs : s ∈ l) {k m : Int} (h1 : 1 ≤ k) (h3 : k ≤ 3) (m1 : 1 ≤ m) (m4 : m ≤ 4) : 1 ≤ meas l s k m := cnt_pos (List.ne_nil_of_mem (mem_grp hs h1 h3)) m1 m4
theorem meas_len (l : List Sm) (s : Sm) (k m : Int) : meas l s k m ≤ l.length := Nat.le_trans (cnt_len _ m) (List.length_filter_le _ _)
theorem meas_streams (l : List Sm) (s : Sm) (k m : Int) : meas l s k m ≤ meas l s k 1 := cnt_len _ m
theorem meas_none {l : List Sm} {s : Sm} {k m : Int} (h : ¬ (1 ≤ k ∧ k ≤ 3 ∧ 1 ≤ m ∧ m ≤ 4)) : meas l s k m = 0 := by
  by_cases hk : 1 ≤ k ∧ k ≤ 3
  · unfold meas cnt
    rw [if_neg (by omega), if_neg (by omega), if_neg (by omega), if_neg (by omega)]
  · have : grp l s k = [] := by
      unfold grp; refine List.filter_eq_nil_iff.2 fun t _ => ?_
      unfold inGrp; rw [if_neg (by omega), if_neg (by omega), if_neg (by omega)]; simp
    unfold meas; rw [this]
    unfold cnt; repeat' split
    all_goals rfl
theorem same_dcount {xs : List Int} {a : Int} (hx : xs ≠ []) (h : ∀ x ∈ xs, x = a) : dcount xs = 1 := by
  refine dcount_unique (ys := [a]) (by simp) fun x => ?_
  rw [List.mem_singleton]
  refine ⟨fun e => ?_, h x⟩
  obtain ⟨y, r, rfl⟩ := List.exists_cons_of_ne_nil hx
  rw [e, ← h y List.mem_cons_self]; exact List.mem_cons_self
theorem meas_one_acc {l : List Sm} {s : Sm} (hs : s ∈ l) : meas l s 1 2 = 1 := by
  show dcount _ = 1
  refine same_dcount (a := s.acc) (by have := List.ne_nil_of_mem (mem_grp hs (k := 1) (by decide) (by decide)); simpa using this) fun x hx => ?_
  obtain ⟨t, ht, rfl⟩ := List.mem_map.1 hx
  have := (List.mem_filter.1 ht).2
  simpa [inGrp] using this
theorem meas_one_dev {l : List Sm} {s : Sm} (hs : s ∈ l) : meas l s 2 3 = 1 := by
  show dcount _ = 1
  refine same_dcount (a := s.dev) (by have := List.ne_nil_of_mem (mem_grp hs (k := 2) (by decide) (by decide)); simpa using this) fun x hx => ?_
  obtain ⟨t, ht, rfl⟩ := List.mem_map.1 hx
  have := (List.mem_filter.1 ht).2
  simpa [inGrp] using this
end Go.Proofs.YtpcfgoadkfajfaaGreatDoor
namespace Go.Proofs.YtpcfgoadkfajfaaGreatDoor
set_option linter.all false
open Go Go.RowKit
set_option maxRecDepth 100000
theorem slb_153 : SlB Tryz.prog 153 155 2 16 (.agg (#[.int .i64 0, .int .i64 0])) := ⟨Tryz.underlying153, ⟨(Tryz.prog.info? 155).get!, by kernel_rfl, by kernel_rfl, by kernel_rfl, by kernel_rfl⟩, by decide, by decide⟩
theorem ent_98 : ∀ args w, (callFunc 98 args).run Tryz.prog w = .ok (.enter 98 args) w := enters_of Tryz.func98 (by kernel_rfl) rfl
theorem kmapt_97 : KMapT Tryz.prog (fun x : Int => Value.int .i64 x) 97 (.int .i64 0) := ⟨_, _, (Tryz.prog.info? 3).get!, Tryz.underlying97, (keyOk_int Tryz.underlying3), by kernel_rfl, by kernel_rfl⟩
set_option maxRecDepth 100000 in
theorem w_fclusters {w : World} {A : Option Addr} {cap : Nat} (l : List Sm) (hr : Rd w A 9 (l.map smC)) (hl : l.length ≤ 100000) :
    Calls Tryz.prog 47 #[.slice A l.length cap] w (fun e w' => ∃ z : Nat × List (Int × Int), ClOk (rep (edgesOf l)) (accs l) z.2 ∧ e = .returned (.map (some z.1)) ∧ SL w [] w' [kmap (fun x : Int => Value.int .i64 x) (fun x : Int => Value.int .i64 x) z.1 z.2]) := by
 refine calls_of_CX (O := []) (L := []) (args := [.slice A l.length cap]) Tryz.func47 rfl (by simp [Tryz.ntmps47]) (SL.refl w) ?_
 refine CX.sub (V' := [(0, .slice A l.length cap)]) ⟨rfl, trivial⟩ ?_
 refine CX.seq ?_
 refine CX.region ?_
 refine RX.cons rfl rfl (op_w (yw_assign rfl rfl) rfl rfl ?_)
 refine RX.nil (XX.next (V' := [(0, _)]) ⟨rfl, trivial⟩ ?_)
 refine CX.seq ?_
 refine CX.region ?_
 refine RX.cons rfl rfl (op_w (yw_assign rfl rfl) rfl rfl ?_)
 refine RX.nil (XX.next (V' := [(0, _), (3, _)]) ⟨rfl, rfl, trivial⟩ ?_)
 refine CX.seq ?_
 refine CX.seq ?_
 refine CX.region ?_
 refine RX.cons rfl rfl (op_w (yw_move rfl rfl) rfl rfl ?_)
 refine RX.cons rfl rfl (op_w (yw_lenS rfl Tryz.underlying34 rfl) rfl rfl ?_)
 refine RX.cons rfl rfl (op_w (yw_move rfl rfl) rfl rfl ?_)
 refine RX.nil (XX.next (V' := [(3, _), (11, _), (12, _), (13, _)]) ⟨rfl, rfl, rfl, rfl, trivial⟩ ?_)
 refine CX.block ?_
 refine CX.rowNil 155 2 ?_
 refine CX.loop (σ := Nat × (Option Addr × Nat) × List (Int × Int)) (fun z => [(3, .slice z.2.1.1 (List.length (z.2.2 : List (Int × Int))) z.2.1.2), (11, .slice A l.length cap), (12, .int .i64 ((l.length : Nat) : Int)), (13, .int .i64 ((z.1 : Nat) : Int))]) (fun z => [.row z.2.1.1 z.2.1.2 155 2 (List.map edC z.2.2)]) (fun z => z.1 ≤ l.length ∧ z.2.2 = edgesOf (l.take z.1)) (fun z => l.length - z.1) (0, (none, 0), []) ⟨Nat.zero_le _, rfl⟩ ⟨rfl, rfl, rfl, rfl, trivial⟩ rfl (fun z hI => ?_)
 obtain ⟨i, ⟨A1, c1⟩, Y⟩ := z
 dsimp only at hI ⊢
 obtain ⟨hi, hY⟩ := hI
 have hYn : Y.length = i := by rw [hY, edgesOf, List.length_map, List.length_take]; omega
 refine CX.seq ?_
 refine CX.region ?_
 refine RX.cons rfl rfl (op_w (yw_lss rfl rfl rfl) rfl rfl ?_)
 refine RX.nil (XX.next (V' := [(3, _), (11, _), (12, _), (13, _), (14, _)]) ⟨rfl, rfl, rfl, rfl, rfl, trivial⟩ ?_)
 refine CX.seq ?_
 refine CX.condD (p := ((i : Nat) : Int) < ((l.length : Nat) : Int)) rfl (fun c14 => ?_) (fun c14 => ?_)
 ·obtain ⟨x0, hx0⟩ := get_some (l := l) (k := i) (by omega)
  have hx0m := List.mem_of_getElem? hx0
  have hA : ∃ b j, A = some ⟨b, j, none⟩ := hr.some (k := 0) (by simp; omega)
  refine CX.skip (XX.next (V' := [(3, _), (11, _), (12, _), (13, _)]) ⟨rfl, rfl, rfl, rfl, trivial⟩ ?_)
  refine CX.seq ?_
  refine CX.block ?_
  refine CX.seq ?_
  refine CX.region ?_
  refine RX.cons rfl rfl (op_w (yw_index (k := i) rfl slt_34 rfl rfl (by omega) (by omega) hA) rfl rfl ?_)
  refine RX.cons rfl rfl (op_yld (y_elem rfl rfl agg_39 hr (by simp) (map_get hx0)) rfl rfl ?_)
  refine RX.cons rfl rfl (op_alloc rfl rfl rfl zero_39 fun g5 => ?_)
  refine RX.cons rfl rfl (op_storeAll (i := 0) rfl rfl rfl rfl szt_39 rfl (plain_of rfl) rfl rfl ?_)
  refine RX.nil (XX.next (V' := [(3, _), (5, _), (11, _), (12, _), (13, _)]) ⟨rfl, rfl, rfl, rfl, rfl, trivial⟩ ?_)
  refine CX.region ?_
  refine RX.cons rfl rfl (op_w (yw_move rfl rfl) rfl rfl ?_)
  refine RX.cons rfl rfl (op_w (yw_fieldAddr rfl fld_39_2 rfl) rfl rfl ?_)
  refine RX.cons rfl rfl (op_yld (y_load (i := 0) rfl rfl one_3 rfl rfl) rfl rfl ?_)
  refine RX.cons rfl rfl (op_w (yw_field0 rfl fld_39_0 rfl) rfl rfl ?_)
  refine RX.cons rfl rfl (op_yld (y_load (i := 0) rfl rfl one_3 rfl rfl) rfl rfl ?_)
  refine RX.cons rfl rfl (op_w (yw_build (v := .agg (#[.int .i64 (Sm.acc x0), .int .i64 (Sm.dev x0)])) rfl rfl (fun _ => by kernel_rfl)) rfl rfl ?_)
  refine RX.cons rfl rfl (op_buildSlice rfl rfl rfl slb_153 rfl rfl (by intro v hv; simp only [List.mem_cons, List.not_mem_nil, or_false] at hv; subst hv; exact ⟨rfl, (plain_of rfl)⟩) (by decide) fun g7 => ?_)
  refine RX.cons rfl rfl (op_appendM edC (i := 2) (j := 0) (xs := Y) ([(Sm.acc x0, Sm.dev x0)]) rfl rfl rfl slb_153 rfl rfl rfl rfl rfl rfl (by rw [List.length_singleton]; omega) (by rw [List.length_singleton]; omega) fun A2 c2 => ?_)
  refine RX.cons rfl rfl (op_w (yw_assign rfl rfl) rfl rfl ?_)
  refine RX.nil (XX.inBlock (V' := [(3, _), (11, _), (12, _), (13, _)]) ⟨rfl, rfl, rfl, rfl, trivial⟩ ?_)
  refine XX.next (V' := [(3, _), (11, _), (12, _), (13, _)]) ⟨rfl, rfl, rfl, rfl, trivial⟩ ?_
  refine CX.region ?_
  refine RX.cons rfl rfl (op_w (yw_add rfl rfl rfl (by omega) (by omega)) rfl rfl ?_)
  refine RX.cons rfl rfl (op_w (yw_move rfl rfl) rfl rfl ?_)
  refine RX.nil (XX.againP ([.row (some ⟨g7, 0, none⟩) 1 155 2 (List.map edC ([(Sm.acc x0, Sm.dev x0)])), .blk g5 (.cells (smC x0) 39 (0, 0))]) (i + 1, (A2, c2), Y ++ [(Sm.acc x0, Sm.dev x0)]) (by dsimp only; omega) ⟨by dsimp only; omega, by dsimp only; rw [hY, edgesOf, edgesOf, take_map_succ hx0]⟩ ⟨rfl, rfl, rfl, rfl, trivial⟩ ((perm_pick 2 rfl).trans (List.Perm.cons _ (List.Perm.refl _))))
 ·rw [List.take_of_length_le (by omega)] at hY
  have hYl : Y.length = l.length := by rw [hY, edgesOf, List.length_map]
  clear hYn
  subst hY
  refine CX.exit ?_
  refine XX.then_exit ?_
  refine XX.then_exit ?_
  refine XX.block_exit ?_
  refine XX.next (V' := [(3, _)]) ⟨rfl, trivial⟩ ?_
  refine CX.seq ?_
  refine CX.region ?_
  refine RX.cons rfl rfl (op_kmake (fun x : Int => Value.int .i64 x) (fun x : Int => Value.int .i64 x) rfl rfl rfl fun gcl => ?_)
  refine RX.cons rfl rfl (op_w (yw_assign rfl rfl) rfl rfl ?_)
  refine RX.nil (XX.next (V' := [(3, _), (6, _)]) ⟨rfl, rfl, trivial⟩ ?_)
  refine CX.seq ?_
  refine CX.seq ?_
  refine CX.region ?_
  refine RX.cons rfl rfl (op_w (yw_move rfl rfl) rfl rfl ?_)
  refine RX.cons rfl rfl (op_callE rfl rfl rfl rfl rfl ent_98 (fun w hw => w_clusters (edgesOf l) (Ent.rd (hw.ents _ (List.mem_of_getElem? (i := 1) rfl))) (by omega)) (fun ⟨⟨Ao, co⟩, gs⟩ ⟨hGr, hgn, hgl⟩ => ?_))
  refine RX.cons rfl rfl (op_w (yw_lenS rfl Tryz.underlying156 rfl) rfl rfl ?_)
  refine RX.cons rfl rfl (op_w (yw_move rfl rfl) rfl rfl ?_)
  refine RX.nil (XX.next (V' := [(6, _), (28, _), (29, _), (30, _)]) ⟨rfl, rfl, rfl, rfl, trivial⟩ ?_)
  refine CX.block ?_
  dsimp only at hgn hgl hGr
  refine CX.perm (L' := [pack (List.map gpE gs), .row Ao co 24 1 (List.map gpC gs), kmap (fun x : Int => Value.int .i64 x) (fun x : Int => Value.int .i64 x) gcl ([] : List (Int × Int)), .row A1 c1 155 2 (List.map edC (edgesOf l))]) ((perm_pick 0 rfl).trans (List.Perm.cons _ ((perm_pick 0 rfl).trans (List.Perm.cons _ ((perm_pick 0 rfl).trans (List.Perm.cons _ (List.Perm.refl _))))))) ?_
  refine CX.drop (L' := [pack (List.map gpE gs), .row Ao co 24 1 (List.map gpC gs), kmap (fun x : Int => Value.int .i64 x) (fun x : Int => Value.int .i64 x) gcl ([] : List (Int × Int))]) (List.Sublist.cons_cons _ (List.Sublist.cons_cons _ (List.Sublist.cons_cons _ (List.nil_sublist _)))) ?_
  refine CX.loop (σ := Nat × List (Int × Int)) (fun z => [(6, .map (some gcl)), (28, .slice Ao (List.length (gs : List Gp)) co), (29, .int .i64 ((List.length (gs : List Gp) : Nat) : Int)), (30, .int .i64 ((z.1 : Nat) : Int))]) (fun z => [pack (List.map gpE gs), .row Ao co 24 1 (List.map gpC gs), kmap (fun x : Int => Value.int .i64 x) (fun x : Int => Value.int .i64 x) gcl z.2]) (fun z => z.1 ≤ gs.length ∧ HeadOk (List.map Prod.snd gs) (List.flatMap id (List.take z.1 (List.map Prod.snd gs))) z.2) (fun z => gs.length - z.1) (0, []) ⟨Nat.zero_le _, HeadOk.nil _⟩ ⟨rfl, rfl, rfl, rfl, trivial⟩ rfl (fun z hI => ?_)
  obtain ⟨j, kv⟩ := z
  dsimp only at hI ⊢
  obtain ⟨hj, hH⟩ := hI
  refine CX.seq ?_
  refine CX.region ?_
  refine RX.cons rfl rfl (op_w (yw_lss rfl rfl rfl) rfl rfl ?_)
  refine RX.nil (XX.next (V' := [(6, _), (28, _), (29, _), (30, _), (31, _)]) ⟨rfl, rfl, rfl, rfl, rfl, trivial⟩ ?_)
  refine CX.seq ?_
  refine CX.condD (p := ((j : Nat) : Int) < ((List.length (gs : List Gp) : Nat) : Int)) rfl (fun c31 => ?_) (fun c31 => ?_)
  ·obtain ⟨⟨⟨A5, c5⟩, ys⟩, hg⟩ := get_some (l := gs) (k := j) (by omega)
   have hyl := hgl _ (List.mem_of_getElem? hg)
   dsimp only at hyl
   have hyE : (edgesOf l).length = l.length := by rw [edgesOf, List.length_map]
   have hgm : ys ∈ List.map Prod.snd gs := List.mem_map.2 ⟨_, List.mem_of_getElem? hg, rfl⟩
   refine CX.rowSome 1 rfl (by rw [List.length_map]; omega) (fun hAo => ?_)
   refine CX.packOut (e := .row A5 c5 3 1 (List.map iR ys)) (L' := [.row Ao co 24 1 (List.map gpC gs), kmap (fun x : Int => Value.int .i64 x) (fun x : Int => Value.int .i64 x) gcl kv]) ((perm_pick 0 rfl).trans (List.Perm.cons _ (List.Perm.refl _))) (gpE_out hg) ?_
   refine CX.skip (XX.next (V' := [(6, _), (28, _), (29, _), (30, _)]) ⟨rfl, rfl, rfl, rfl, trivial⟩ ?_)
   refine CX.seq ?_
   refine CX.block ?_
   refine CX.seq ?_
   refine CX.region ?_
   refine RX.cons rfl rfl (op_w (yw_index (k := j) rfl slt_156 rfl rfl (by omega) (by omega) hAo) rfl rfl ?_)
   refine RX.cons rfl rfl (op_yld (y_rowElem1 (i := 2) rfl rfl one_24 rfl (map_get hg)) rfl rfl ?_)
   refine RX.cons rfl rfl (op_w (yw_assign rfl rfl) rfl rfl ?_)
   refine RX.nil (XX.next (V' := [(6, _), (8, _), (28, _), (29, _), (30, _)]) ⟨rfl, rfl, rfl, rfl, rfl, trivial⟩ ?_)
   refine CX.seq ?_
   refine CX.region ?_
   refine RX.cons rfl rfl (op_w (yw_move rfl rfl) rfl rfl ?_)
   refine RX.cons rfl rfl (op_w (yw_lenS rfl Tryz.underlying24 rfl) rfl rfl ?_)
   refine RX.cons rfl rfl (op_w (yw_move rfl rfl) rfl rfl ?_)
   refine RX.nil (XX.next (V' := [(6, _), (8, _), (28, _), (29, _), (30, _), (34, _), (35, _), (36, _)]) ⟨rfl, rfl, rfl, rfl, rfl, rfl, rfl, rfl, trivial⟩ ?_)
   refine CX.block ?_
   refine CX.loop (σ := Nat × List (Int × Int)) (fun z => [(6, .map (some gcl)), (8, .slice A5 (List.length (ys : List Int)) c5), (28, .slice Ao (List.length (gs : List Gp)) co), (29, .int .i64 ((List.length (gs : List Gp) : Nat) : Int)), (30, .int .i64 ((j : Nat) : Int)), (34, .slice A5 (List.length (ys : List Int)) c5), (35, .int .i64 ((List.length (ys : List Int) : Nat) : Int)), (36, .int .i64 ((z.1 : Nat) : Int))]) (fun z => [.row A5 c5 3 1 (List.map iR ys), pack (List.map gpE (gs.eraseIdx j)), .row Ao co 24 1 (List.map gpC gs), kmap (fun x : Int => Value.int .i64 x) (fun x : Int => Value.int .i64 x) gcl z.2]) (fun z => z.1 ≤ ys.length ∧ HeadOk (List.map Prod.snd gs) ((List.flatMap id (List.take j (List.map Prod.snd gs))) ++ List.take z.1 ys) z.2) (fun z => ys.length - z.1) (0, kv) ⟨Nat.zero_le _, by simpa using hH⟩ ⟨rfl, rfl, rfl, rfl, rfl, rfl, rfl, rfl, trivial⟩ rfl (fun z hI => ?_)
   clear hH
   obtain ⟨k, kv⟩ := z
   dsimp only at hI ⊢
   obtain ⟨hk, hH⟩ := hI
   refine CX.seq ?_
   refine CX.region ?_
   refine RX.cons rfl rfl (op_w (yw_lss rfl rfl rfl) rfl rfl ?_)
   refine RX.nil (XX.next (V' := [(6, _), (8, _), (28, _), (29, _), (30, _), (34, _), (35, _), (36, _), (37, _)]) ⟨rfl, rfl, rfl, rfl, rfl, rfl, rfl, rfl, rfl, trivial⟩ ?_)
   refine CX.seq ?_
   refine CX.condD (p := ((k : Nat) : Int) < ((List.length (ys : List Int) : Nat) : Int)) rfl (fun c37 => ?_) (fun c37 => ?_)
   ·obtain ⟨x0, hx0⟩ := get_some (l := ys) (k := k) (by omega)
    have hx0m := List.mem_of_getElem? hx0
    obtain ⟨h0, hh0⟩ := get_some (l := ys) (k := 0) (by omega)
    refine CX.rowSome 0 rfl (by rw [List.length_map]; omega) (fun hA5 => ?_)
    refine CX.skip (XX.next (V' := [(6, _), (8, _), (28, _), (29, _), (30, _), (34, _), (35, _), (36, _)]) ⟨rfl, rfl, rfl, rfl, rfl, rfl, rfl, rfl, trivial⟩ ?_)
    refine CX.seq ?_
    refine CX.block ?_
    refine CX.seq ?_
    refine CX.region ?_
    refine RX.cons rfl rfl (op_w (yw_index (k := k) rfl slt_24 rfl rfl (by omega) (by omega) hA5) rfl rfl ?_)
    refine RX.cons rfl rfl (op_yld (y_rowElem1 (i := 0) rfl rfl one_3 rfl (map_get hx0)) rfl rfl ?_)
    refine RX.cons rfl rfl (op_w (yw_assign rfl rfl) rfl rfl ?_)
    refine RX.nil (XX.next (V' := [(6, _), (8, _), (10, _), (28, _), (29, _), (30, _), (34, _), (35, _), (36, _)]) ⟨rfl, rfl, rfl, rfl, rfl, rfl, rfl, rfl, rfl, trivial⟩ ?_)
    refine CX.region ?_
    refine RX.cons rfl rfl (op_w (yw_move rfl rfl) rfl rfl ?_)
    refine RX.cons rfl rfl (op_w (yw_move rfl rfl) rfl rfl ?_)
    refine RX.cons rfl rfl (op_w (yw_move rfl rfl) rfl rfl ?_)
    refine RX.cons rfl rfl (op_w (yw_index (k := 0) rfl slt_24 rfl rfl rfl (by omega) hA5) rfl rfl ?_)
    refine RX.cons rfl rfl (op_yld (y_rowElem1 (i := 0) rfl rfl one_3 rfl (map_get hh0)) rfl rfl ?_)
    refine RX.cons rfl rfl (op_kupdate (i := 3) (k := x0) (u := h0) (kv := kv) (encK := (fun x : Int => Value.int .i64 x)) (encV := (fun x : Int => Value.int .i64 x)) (.inl rfl) rfl rfl rfl rfl kmapt_97 rfl ?_)
    refine RX.nil (XX.inBlock (V' := [(6, _), (8, _), (28, _), (29, _), (30, _), (34, _), (35, _), (36, _)]) ⟨rfl, rfl, rfl, rfl, rfl, rfl, rfl, rfl, trivial⟩ ?_)
    refine XX.next (V' := [(6, _), (8, _), (28, _), (29, _), (30, _), (34, _), (35, _), (36, _)]) ⟨rfl, rfl, rfl, rfl, rfl, rfl, rfl, rfl, trivial⟩ ?_
    refine CX.region ?_
    refine RX.cons rfl rfl (op_w (yw_add rfl rfl rfl (by omega) (by omega)) rfl rfl ?_)
    refine RX.cons rfl rfl (op_w (yw_move rfl rfl) rfl rfl ?_)
    refine RX.nil (XX.againP ([]) (k + 1, kset x0 h0 kv) (by dsimp only; omega) ⟨by dsimp only; omega, by dsimp only; rw [take_succ hx0, ← List.append_assoc]; exact hH.set hgm hx0m hh0⟩ ⟨rfl, rfl, rfl, rfl, rfl, rfl, rfl, rfl, trivial⟩ ((perm_pick 0 rfl).trans (List.Perm.cons _ ((perm_pick 0 rfl).trans (List.Perm.cons _ ((perm_pick 0 rfl).trans (List.Perm.cons _ ((perm_pick 0 rfl).trans (List.Perm.cons _ (List.Perm.refl _))))))))))
   ·rw [List.take_of_length_le (l := ys) (by omega)] at hH
    refine CX.exit ?_
    refine XX.then_exit ?_
    refine XX.then_exit ?_
    refine XX.block_exit ?_
    refine XX.inBlock (V' := [(6, _), (28, _), (29, _), (30, _)]) ⟨rfl, rfl, rfl, rfl, trivial⟩ ?_
    refine XX.next (V' := [(6, _), (28, _), (29, _), (30, _)]) ⟨rfl, rfl, rfl, rfl, trivial⟩ ?_
    refine CX.packIn (es := List.map gpE gs) (L' := [.row Ao co 24 1 (List.map gpC gs), kmap (fun x : Int => Value.int .i64 x) (fun x : Int => Value.int .i64 x) gcl kv]) ((perm_pick 0 rfl).trans (List.Perm.cons _ ((perm_pick 0 rfl).trans (List.Perm.cons _ (List.Perm.refl _))))) (gpE_out hg) ?_
    refine CX.region ?_
    refine RX.cons rfl rfl (op_w (yw_add rfl rfl rfl (by omega) (by omega)) rfl rfl ?_)
    refine RX.cons rfl rfl (op_w (yw_move rfl rfl) rfl rfl ?_)
    refine RX.nil (XX.againP ([]) (j + 1, kv) (by dsimp only; omega) ⟨by dsimp only; omega, by dsimp only; rw [flat_snoc _ (map_get (f := Prod.snd) hg)]; exact hH⟩ ⟨rfl, rfl, rfl, rfl, trivial⟩ ((perm_pick 0 rfl).trans (List.Perm.cons _ ((perm_pick 0 rfl).trans (List.Perm.cons _ ((perm_pick 0 rfl).trans (List.Perm.cons _ (List.Perm.refl _))))))))
  ·rw [List.take_of_length_le (by rw [List.length_map]; omega)] at hH
   refine CX.exit ?_
   refine XX.then_exit ?_
   refine XX.then_exit ?_
   refine XX.block_exit ?_
   refine XX.next (V' := [(6, _)]) ⟨rfl, trivial⟩ ?_
   refine CX.seq ?_
   refine CX.region ?_
   refine RX.cons rfl rfl (op_w (yw_move rfl rfl) rfl rfl ?_)
   refine RX.cons rfl rfl (op_w (yw_assign rfl rfl) rfl rfl ?_)
   refine RX.nil (XX.next (V' := [(2, .map (some gcl))]) ⟨rfl, trivial⟩ ?_)
   refine CX.ret ?_
   exact ret_tmp rfl rfl fun w1 hw => ⟨(gcl, kv), (HeadOk.done hGr hH).of_mem (fun x => by rw [mem_uniq, fst_edges]), rfl, hw.pick ((perm_pick 2 rfl).trans (List.Perm.cons _ (List.Perm.refl _)))⟩

end Go.Proofs.YtpcfgoadkfajfaaGreatDoor
namespace Go.Proofs.YtpcfgoadkfajfaaGreatDoor
set_option linter.all false
open Go Go.RowKit
section
variable {κ α : Type} [DecidableEq κ] {P : Program} {encK : κ → Value} {encV : α → Value}
theorem kset_kset (x : κ) (u v : α) : ∀ l : List (κ × α), kset x u (kset x v l) = kset x u l
  | [] => by simp [kset]
  | p :: r => by
    by_cases h : x = p.1
    · simp [kset, h]
    · simp [kset, h, kset_kset x u v r]
theorem kset_get {x : κ} {v : α} : ∀ {l : List (κ × α)}, kget x l = some v → kset x v l = l
  | [], h => by cases h
  | p :: r, h => by
    unfold kget at h
    unfold kset
    by_cases hx : x = p.1
    · rw [if_pos hx] at h ⊢
      rw [← Option.some.inj h, hx]
    · rw [if_neg hx] at h ⊢
      rw [kset_get h]
/-- The entry of the key x has the stamp b. -/
def KAtB (encK : κ → Value) (encV : α → Value) (w : World) (g : Nat) (kv : List (κ × α)) (x : κ) (b : Nat) : Prop :=
  ∃ es clock, w.heap[g]? = some (.map es clock) ∧ Ents encK encV es.toList kv ∧ Births es.toList clock ∧ ∃ (j : Nat) (e : MapEntry), es[j]? = some e ∧ e.born = b ∧ e.key = encK x ∧ ∀ u, kset x u kv = kv.modify j fun _ => (x, u)
def kmapB (encK : κ → Value) (encV : α → Value) (g : Nat) (kv : List (κ × α)) (x : κ) (b : Nat) : Ent :=
  .gen [g] (fun w => KAtB encK encV w g kv x b) (fun w ⟨_, _, h, _⟩ b hb => by obtain rfl := List.mem_singleton.1 hb; exact (Array.getElem?_eq_some_iff.1 h).1) (fun w w' ⟨es, c, h, h2⟩ hk => ⟨es, c, by rw [hk g (List.mem_singleton.2 rfl)]; exact h, h2⟩)
theorem kset_end (x : κ) (u v : α) : ∀ l : List (κ × α), kget x l = none → kset x u (l ++ [(x, v)]) = (l ++ [(x, v)]).modify l.length fun _ => (x, u)
  | [], _ => by simp [kset]
  | p :: r, h => by
    unfold kget at h
    by_cases hx : x = p.1
    · rw [if_pos hx] at h; cases h
    · rw [if_neg hx] at h
      rw [List.cons_append]
      unfold kset
      rw [if_neg hx, kset_end x u v r h]; rfl
theorem run_kentry {w : World} {t : TypeId} {z : α} {g : Nat} {kv : List (κ × α)} (ht : KMapT P encK t (encV z)) (h : KAt encK encV w g kv) (x : κ) :
    ∃ es' clock' b, (Instr.mapEntry t (.map (some g)) (encK x)).run P w = .ok (.tuple #[encV ((kget x kv).getD z), .int .i64 ((b : Nat) : Int)]) { w with heap := w.heap.setIfInBounds g (.map es' clock') } ∧
      KAtB encK encV { w with heap := w.heap.setIfInBounds g (.map es' clock') } g (kset x ((kget x kv).getD z) kv) x b := by
  obtain ⟨kt, et, i, h1, h2, h3, h4⟩ := ht
  obtain ⟨es, clock, hg, hk, hbi⟩ := h
  have hz : (zeroValue et).run P w = .ok (encV z) w := by simp [zeroValue, typeInfo, h3, h4]
  rcases kfind_spec encV x kv 0 with ⟨h5, h6⟩ | ⟨j, v, h5, h6, h7, h8⟩
  · refine ⟨es.push { key := encK x, val := encV z, born := clock }, clock + 1, clock, ?_, ?_⟩
    · simp [Instr.mapEntry, run_underlying h1, MapKept.run_getObj_map hg, h2.chk, findKey_is h2 x w hk, h5, h6, hz, MapKept.run_setObj_map _ hg, Result.andThen, goInt]
    · have hl : es.size = kv.length := by have := ents_len hk; simpa using this
      refine ⟨_, _, (MapKept.heap_set hg).1, ?_, by rw [Array.toList_push]; exact hbi.push rfl, es.size, _, by rw [Array.getElem?_push, if_pos rfl], rfl, rfl, fun u => ?_⟩
      · rw [Ents, Array.toList_push, List.map_append, hk, kset_none h6, List.map_append, h6]; rfl
      · rw [h6, Option.getD_none, kset_none h6, hl]; exact kset_end x u z kv h6
  · have hj : ∃ e, es[j]? = some e ∧ e.key = encK x := by
      have h9 := congrArg (·[j]?) hk
      simp only [List.getElem?_map, h7, Option.map_some] at h9
      cases he : es.toList[j]? with
      | none => rw [he] at h9; cases h9
      | some e =>
        rw [he, Option.map_some, Option.some.injEq, Prod.mk.injEq] at h9
        exact ⟨e, by simpa using he, h9.1⟩
    obtain ⟨e, he, hek⟩ := hj
    simp only [Nat.zero_add] at h5
    refine ⟨es.modify j fun e => { e with key := encK x }, clock, e.born, ?_, ?_⟩
    · simp [Instr.mapEntry, run_underlying h1, MapKept.run_getObj_map hg, h2.chk, findKey_is h2 x w hk, h5, h6, he, hek, h2.stays, MapKept.run_setObj_map _ hg, Result.andThen, goInt]
    · refine ⟨_, _, (MapKept.heap_set hg).1, ?_, by rw [Array.toList_modify]; exact hbi.modify (f := fun e => { e with key := encK x }) (fun _ => rfl) j, j, { e with key := encK x }, by rw [Array.getElem?_modify, if_pos rfl, he]; rfl, rfl, rfl, fun u => ?_⟩
      · rw [h6, Option.getD_some, kset_get h6, Ents, Array.toList_modify]
        refine Eq.trans ?_ hk
        apply List.ext_getElem?
        intro m
        simp only [List.getElem?_map, List.getElem?_modify]
        have he' : es.toList[j]? = some e := by simpa using he
        by_cases hm : j = m
        · subst hm
          simp [he', hek]
        · simp [hm]
      · rw [h6, Option.getD_some, kset_get h6]; exact h8 u
theorem findIdx_born {es : List MapEntry} {clock : Nat} (h : Births es clock) : ∀ {j : Nat} {e : MapEntry}, es[j]? = some e → es.findIdx? (fun x => ((x.born : Nat) : Int) == ((e.born : Nat) : Int)) = some j := by
  have H : ∀ (es : List MapEntry), (es.map (·.born)).Nodup → ∀ {j : Nat} {e : MapEntry}, es[j]? = some e → es.findIdx? (fun x => ((x.born : Nat) : Int) == ((e.born : Nat) : Int)) = some j := by
    intro es
    induction es with
    | nil => intro _ j e h; simp at h
    | cons a es ih =>
      intro hn j e h
      rw [List.map_cons, List.nodup_cons] at hn
      rw [List.findIdx?_cons]
      cases j with
      | zero =>
        have : a = e := by simpa using h
        subst this; simp
      | succ j =>
        have he : es[j]? = some e := by simpa using h
        have hne : a.born ≠ e.born := fun e2 => hn.1 (by rw [e2]; exact List.mem_map.2 ⟨e, List.mem_of_getElem? he, rfl⟩)
        have : (((a.born : Nat) : Int) == ((e.born : Nat) : Int)) = false := by simp; omega
        rw [this, ih hn.2 he]; rfl
  exact fun {_ _} he => H es h.1 he
theorem run_kstore {w : World} {t : TypeId} {g b : Nat} {kv : List (κ × α)} {x : κ} (h : KAtB encK encV w g kv x b) (u : α) :
    ∃ es' clock', (Instr.entryStore t (.map (some g)) (.int .i64 ((b : Nat) : Int)) (encV u)).run P w = .ok () { w with heap := w.heap.setIfInBounds g (.map es' clock') } ∧ KAt encK encV { w with heap := w.heap.setIfInBounds g (.map es' clock') } g (kset x u kv) := by
  obtain ⟨es, clock, hg, hk, hbi, j, e, he, hb, hek, hset⟩ := h
  have he' : es.toList[j]? = some e := by simpa using he
  have hf : es.findIdx? (fun x => ((x.born : Nat) : Int) == ((b : Nat) : Int)) = some j := by
    have := findIdx_born hbi he'
    rw [hb] at this
    rw [← List.findIdx?_toArray] at this; exact this
  refine ⟨es.modify j fun e => { e with val := encV u }, clock, ?_, _, _, (MapKept.heap_set hg).1, ?_, by rw [Array.toList_modify]; exact hbi.modify (f := fun e => { e with val := encV u }) (fun _ => rfl) j⟩
  · simp [Instr.entryStore, MapKept.run_getObj_map hg, asInt, asIntOf, hf, MapKept.run_setObj_map _ hg, Result.andThen]
  · rw [Ents, Array.toList_modify, hset]
    apply List.ext_getElem?
    intro m
    have h9 := congrArg (·[m]?) hk
    simp only [List.getElem?_map] at h9
    simp only [List.getElem?_map, List.getElem?_modify]
    by_cases hm : j = m
    · subst hm
      rw [he'] at h9 ⊢
      cases hq2 : kv[j]? <;> simp_all
    · simp only [if_neg hm, Option.map_id', id_eq]
      simpa using h9
end
section
variable {P : Program} {w0 : World} {O : List Nat} {n : Nat} {D : List Deferred} {o : Oper} {V : List (Nat × Value)} {L : List Ent} {T : List (Nat × Value) → List Ent → Prop} {κ α : Type} [DecidableEq κ] {encK : κ → Value} {encV : α → Value}
theorem op_kentry {t : TypeId} {m x : Operand} {g i d : Nat} {kv : List (κ × α)} {k : κ} {z : α} (ho : o.op = .mapEntry t m x) (hd : o.dst = some d) (hdn : Nat.blt d n = true) (hm : ev V m = some (.map (some g))) (hx : ev V x = some (encK k))
    (ht : KMapT P encK t (encV z)) (hL : L[i]? = some (kmap encK encV g kv)) (hT : ∀ b : Nat, T ((d, .tuple #[encV ((kget k kv).getD z), .int .i64 ((b : Nat) : Int)]) :: V) (L.set i (kmapB encK encV g (kset k ((kget k kv).getD z) kv) k b))) : OpS P w0 O n D o V L T := by
  intro a w ha hw
  obtain ⟨es, clock, hg, _⟩ : KAt encK encV w g kv := hw.ents _ (List.mem_of_getElem? hL)
  obtain ⟨es', clock', b, h1, h2⟩ := run_kentry (P := P) ht (hw.ents _ (List.mem_of_getElem? hL)) k
  have hr : (execOp a.eval o).run P w = .ok (.value (.tuple #[encV ((kget k kv).getD z), .int .i64 ((b : Nat) : Int)])) { w with heap := w.heap.setIfInBounds g (.map es' clock') } := by
    simp [execOp, ho, ha.eval hm, ha.eval hx, h1]
  unfold Does
  rw [hr, hd]
  exact ⟨_, _, hT b, ha.put hdn _, hw.setI hL rfl rfl rfl (by simp) h2 (by simp [Ent.blocks, kmapB]) (fun b hb => .inl (by simpa [Ent.blocks, kmap, kmapB] using hb)) (fun k _ hkb => (MapKept.heap_set hg).2 k (by simpa [Ent.blocks, kmap] using hkb))⟩
theorem op_kstore {t : TypeId} {m x y : Operand} {g i b : Nat} {kv : List (κ × α)} {k : κ} {u : α} (ho : o.op = .entryStore t m x y) (hd : o.dst = none) (hm : ev V m = some (.map (some g))) (hx : ev V x = some (.int .i64 ((b : Nat) : Int))) (hy : ev V y = some (encV u))
    (hL : L[i]? = some (kmapB encK encV g kv k b)) (hT : T V (L.set i (kmap encK encV g (kset k u kv)))) : OpS P w0 O n D o V L T := by
  intro a w ha hw
  obtain ⟨es, clock, hg, _⟩ : KAtB encK encV w g kv k b := hw.ents _ (List.mem_of_getElem? hL)
  obtain ⟨es', clock', h1, h2⟩ := run_kstore (P := P) (t := t) (hw.ents _ (List.mem_of_getElem? hL) : KAtB encK encV w g kv k b) u
  have hr : (execOp a.eval o).run P w = .ok .skip { w with heap := w.heap.setIfInBounds g (.map es' clock') } := by
    simp [execOp, ho, ha.eval hm, ha.eval hx, ha.eval hy, h1]
  unfold Does
  rw [hr, hd]
  exact ⟨_, _, hT, ha, hw.setI hL rfl rfl rfl (by simp) h2 (by simp [Ent.blocks, kmap]) (fun b hb => .inl (by simpa [Ent.blocks, kmap, kmapB] using hb)) (fun k _ hkb => (MapKept.heap_set hg).2 k (by simpa [Ent.blocks, kmapB] using hkb))⟩
end
end Go.Proofs.YtpcfgoadkfajfaaGreatDoor
namespace Go.Proofs.YtpcfgoadkfajfaaGreatDoor
set_option linter.all false
open Go Go.RowKit
abbrev Sg := (Option Addr × Nat) × List Sm
abbrev sgV (v : Sg) : Value := .slice v.1.1 v.2.length v.1.2
def sgE (p : (Int × Int) × Sg) : Ent := .row p.2.1.1 p.2.1.2 39 9 (List.map smC p.2.2)
def grpOf (x : Int × Int) (kv : List ((Int × Int) × Sg)) : List Sm := ((kget x kv).map Prod.snd).getD []
theorem kset_at {κ α : Type} [DecidableEq κ] {x : κ} {v : α} {kv : List (κ × α)} (h : kget x kv = some v) : ∃ j, kv[j]? = some (x, v) ∧ ∀ u, kset x u kv = kv.set j (x, u) := by
  rcases kfind_spec (fun _ : α => Value.bool true) x kv 0 with ⟨_, h2⟩ | ⟨j, u, _, h2, h3, h4⟩
  · rw [h2] at h; cases h
  · rw [h2] at h
    obtain rfl := Option.some.inj h
    refine ⟨j, h3, fun u' => ?_⟩
    rw [h4]
    apply List.ext_getElem?
    intro m
    rw [List.getElem?_modify, List.getElem?_set]
    have hj := (List.getElem?_eq_some_iff.1 h3).1
    by_cases e : j = m
    · subst e; simp [h3, hj]
    · simp [e]
theorem grpOf_kset (x y : Int × Int) (z : Option Addr × Nat) (l : List Sm) (kv : List ((Int × Int) × Sg)) : grpOf y (kset x (z, l) kv) = if y = x then l else grpOf y kv := by
  unfold grpOf; rw [kget_kset]; split <;> rfl
/-- The subjects of a stream. -/
def subs (kvc : List (Int × Int)) (s : Sm) : List (Int × Int) := (1, s.acc) :: (2, s.dev) :: ((kget s.acc kvc).map fun c => ((3 : Int), c)).toList
theorem sgE_out {kv : List ((Int × Int) × Sg)} {j : Nat} {p : (Int × Int) × Sg} (h : kv[j]? = some p) : (kv.map sgE).Perm (sgE p :: (kv.eraseIdx j).map sgE) := (perm_pick j h).map sgE
end Go.Proofs.YtpcfgoadkfajfaaGreatDoor
namespace Go.Proofs.YtpcfgoadkfajfaaGreatDoor
set_option linter.all false
open Go Go.RowKit
set_option maxRecDepth 100000
theorem agg_114 : AggT Tryz.prog 114 2 := ⟨_, _, Tryz.underlying114, rfl, (by kernel_rfl : Tryz.prog.info? 114 = some (Tryz.prog.info? 114).get!), by kernel_rfl⟩
theorem slb_34 : SlB Tryz.prog 34 39 9 72 (.agg (#[.int .i64 0, .int .i64 0, .int .i64 0, .int .i64 0, .int .i64 0, .int .i64 0, .int .i64 0, .int .i64 0, .int .i64 0])) := ⟨Tryz.underlying34, ⟨(Tryz.prog.info? 39).get!, by kernel_rfl, by kernel_rfl, by kernel_rfl, by kernel_rfl⟩, by decide, by decide⟩
theorem kmapt_107 : KMapT Tryz.prog key2 107 (.slice none 0 0) := ⟨_, _, (Tryz.prog.info? 34).get!, Tryz.underlying107, (keyOk_two Tryz.underlying114 (by kernel_rfl) (by decide) (by decide) Tryz.underlying3 Tryz.underlying3 rfl rfl), by kernel_rfl, by kernel_rfl⟩
set_option maxRecDepth 100000 in
theorem w_put {w : World} {gg : Nat} (kv : List ((Int × Int) × Sg)) (x : Int × Int) (s : Sm) (hb : (grpOf x kv).length ≤ 1000000) (hs : SL w (List.flatMap Ent.blocks [kmap key2 sgV gg kv, pack (List.map sgE kv)]) w [kmap key2 sgV gg kv, pack (List.map sgE kv)]) :
    Calls Tryz.prog 49 #[.map (some gg), .agg (#[Value.int .i64 (Prod.fst x), Value.int .i64 (Prod.snd x)]), .agg (smC s)] w (fun e w' => ∃ z : Option Addr × Nat, True ∧ e = .returned (.tuple #[]) ∧ SL w (List.flatMap Ent.blocks [kmap key2 sgV gg kv, pack (List.map sgE kv)]) w' [kmap key2 sgV gg (kset x (z, grpOf x kv ++ [s]) kv), pack (List.map sgE (kset x (z, grpOf x kv ++ [s]) kv))]) := by
 refine calls_of_CX (O := (List.flatMap Ent.blocks [kmap key2 sgV gg kv, pack (List.map sgE kv)])) (L := [kmap key2 sgV gg kv, pack (List.map sgE kv)]) (args := [.map (some gg), .agg (#[Value.int .i64 (Prod.fst x), Value.int .i64 (Prod.snd x)]), .agg (smC s)]) Tryz.func49 rfl (by simp [Tryz.ntmps49]) hs ?_
 refine CX.sub (V' := [(0, .map (some gg)), (1, .agg (#[Value.int .i64 (Prod.fst x), Value.int .i64 (Prod.snd x)])), (2, .agg (smC s))]) ⟨rfl, rfl, rfl, trivial⟩ ?_
 refine CX.seq ?_
 refine CX.region ?_
 refine RX.cons rfl rfl (op_box rfl rfl rfl rfl fun g4 => ?_)
 refine RX.cons rfl rfl (op_box rfl rfl rfl rfl fun g5 => ?_)
 refine RX.nil (XX.next (V' := [(0, _), (4, _), (5, _)]) ⟨rfl, rfl, rfl, trivial⟩ ?_)
 rcases hk : kget x kv with _ | ⟨⟨A5, c5⟩, ys⟩
 ·have hgo : grpOf x kv = [] := by unfold grpOf; rw [hk]; rfl
  refine CX.rowNil 39 9 ?_
  refine CX.region ?_
  refine RX.cons rfl rfl (op_w (yw_move rfl rfl) rfl rfl ?_)
  refine RX.cons rfl rfl (op_yld (y_loadA (i := 2) rfl rfl agg_114 rfl rfl) rfl rfl ?_)
  refine RX.cons rfl rfl (op_yld (y_loadA (i := 1) rfl rfl agg_39 rfl rfl) rfl rfl ?_)
  refine RX.cons rfl rfl (op_buildSlice rfl rfl rfl slb_34 rfl rfl (by intro v hv; simp only [List.mem_cons, List.not_mem_nil, or_false] at hv; subst hv; exact ⟨rfl, (plain_of rfl)⟩) (by decide) fun g7 => ?_)
  refine RX.cons rfl rfl (op_kentry (i := 4) (k := x) (z := (((none, 0), []) : Sg)) (kv := kv) (encK := key2) (encV := sgV) rfl rfl rfl rfl rfl kmapt_107 rfl fun b => ?_)
  refine RX.know (t := 11) (u := .tuple #[.slice none (List.length (([] : List Sm) : List Sm)) 0, .int .i64 ((b : Nat) : Int)]) rfl (by rw [hk]; rfl) ?_
  refine RX.cons rfl rfl (op_w (yw_extract rfl rfl rfl) rfl rfl ?_)
  refine RX.cons rfl rfl (op_appendM smC (i := 1) (j := 0) (xs := ([] : List Sm)) ([s]) rfl rfl rfl slb_34 rfl rfl rfl rfl rfl rfl (by simp <;> omega) (by simp <;> omega) fun A6 c6 => ?_)
  refine RX.cons rfl rfl (op_w (yw_extract rfl rfl rfl) rfl rfl ?_)
  refine RX.cons rfl rfl (op_kstore (i := 4) (b := b) (kv := (kset x (Option.getD (kget x kv) (((none, 0), []) : Sg)) kv)) (k := x) (u := ((A6, c6), [] ++ [s])) (encK := key2) (encV := sgV) rfl rfl rfl rfl rfl rfl ?_)
  refine RX.nil ?_
  exact end_none rfl fun w1 hw => ⟨(A6, c6), trivial, rfl, by rw [hgo]; have hw := hw.pick (L' := [.row A6 c6 39 9 (List.map smC (([] : List Sm) ++ [s])), pack (List.map sgE kv), kmap key2 sgV gg (kset x ((A6, c6), [] ++ [s]) (kset x (Option.getD (kget x kv) (((none, 0), []) : Sg)) kv))]) ((perm_pick 1 rfl).trans (List.Perm.cons _ ((perm_pick 4 rfl).trans (List.Perm.cons _ ((perm_pick 3 rfl).trans (List.Perm.cons _ (List.Perm.refl _))))))); rw [kset_kset] at hw; exact (SL.packIn (es := List.map sgE (kset x ((A6, c6), [] ++ [s]) kv)) hw (by rw [kset_none hk, List.map_append]; exact List.perm_append_comm)).perm (List.Perm.swap _ _ _)⟩
 ·have hgo : grpOf x kv = ys := by unfold grpOf; rw [hk]; rfl
  rw [hgo] at hb
  obtain ⟨j, hj, hset⟩ := kset_at hk
  refine CX.packOut (e := .row A5 c5 39 9 (List.map smC ys)) (L' := [.blk g5 (.cells (smC s) 39 (0, 0)), .blk g4 (.cells (#[Value.int .i64 (Prod.fst x), Value.int .i64 (Prod.snd x)]) 114 (0, 0)), kmap key2 sgV gg kv]) ((perm_pick 3 rfl).trans (List.Perm.cons _ (List.Perm.refl _))) (sgE_out hj) ?_
  refine CX.region ?_
  refine RX.cons rfl rfl (op_w (yw_move rfl rfl) rfl rfl ?_)
  refine RX.cons rfl rfl (op_yld (y_loadA (i := 3) rfl rfl agg_114 rfl rfl) rfl rfl ?_)
  refine RX.cons rfl rfl (op_yld (y_loadA (i := 2) rfl rfl agg_39 rfl rfl) rfl rfl ?_)
  refine RX.cons rfl rfl (op_buildSlice rfl rfl rfl slb_34 rfl rfl (by intro v hv; simp only [List.mem_cons, List.not_mem_nil, or_false] at hv; subst hv; exact ⟨rfl, (plain_of rfl)⟩) (by decide) fun g7 => ?_)
  refine RX.cons rfl rfl (op_kentry (i := 5) (k := x) (z := (((none, 0), []) : Sg)) (kv := kv) (encK := key2) (encV := sgV) rfl rfl rfl rfl rfl kmapt_107 rfl fun b => ?_)
  refine RX.know (t := 11) (u := .tuple #[.slice A5 (List.length (ys : List Sm)) c5, .int .i64 ((b : Nat) : Int)]) rfl (by rw [hk]; rfl) ?_
  refine RX.cons rfl rfl (op_w (yw_extract rfl rfl rfl) rfl rfl ?_)
  refine RX.cons rfl rfl (op_appendM smC (i := 1) (j := 0) (xs := ys) ([s]) rfl rfl rfl slb_34 rfl rfl rfl rfl rfl rfl (by simp <;> omega) (by simp <;> omega) fun A6 c6 => ?_)
  refine RX.cons rfl rfl (op_w (yw_extract rfl rfl rfl) rfl rfl ?_)
  refine RX.cons rfl rfl (op_kstore (i := 5) (b := b) (kv := (kset x (Option.getD (kget x kv) (((none, 0), []) : Sg)) kv)) (k := x) (u := ((A6, c6), ys ++ [s])) (encK := key2) (encV := sgV) rfl rfl rfl rfl rfl rfl ?_)
  refine RX.nil ?_
  exact end_none rfl fun w1 hw => ⟨(A6, c6), trivial, rfl, by rw [hgo]; have hw := hw.pick (L' := [.row A6 c6 39 9 (List.map smC (ys ++ [s])), pack (List.map sgE (kv.eraseIdx j)), kmap key2 sgV gg (kset x ((A6, c6), ys ++ [s]) (kset x (Option.getD (kget x kv) (((none, 0), []) : Sg)) kv))]) ((perm_pick 1 rfl).trans (List.Perm.cons _ ((perm_pick 1 rfl).trans (List.Perm.cons _ ((perm_pick 3 rfl).trans (List.Perm.cons _ (List.Perm.refl _))))))); rw [kset_kset] at hw; exact (SL.packIn (es := List.map sgE (kset x ((A6, c6), ys ++ [s]) kv)) hw (by rw [hset]; exact (set_perm _ hj).map sgE)).perm (List.Perm.swap _ _ _)⟩

set_option maxRecDepth 100000 in
theorem w_fsubjects {w : World} (gF : Nat) (s : Sm) :
    Calls Tryz.prog 48 #[.pointer (some ⟨gF, 0, none⟩), .agg (smC s)] w (fun e w' => ∃ z : Nat × Nat, True ∧ e = .returned (.func (.func 99) #[] #[.pointer (some ⟨z.1, 0, none⟩), .pointer (some ⟨z.2, 0, none⟩)]) ∧ SL w [] w' [.blk z.1 (.cells (smC s) 39 (0, 0)), .blk z.2 (.cells #[.pointer (some ⟨gF, 0, none⟩)] 65 (0, 0))]) := by
 refine calls_of_CX (O := []) (L := []) (args := [.pointer (some ⟨gF, 0, none⟩), .agg (smC s)]) Tryz.func48 rfl (by simp [Tryz.ntmps48]) (SL.refl w) ?_
 refine CX.sub (V' := [(0, .pointer (some ⟨gF, 0, none⟩)), (1, .agg (smC s))]) ⟨rfl, rfl, trivial⟩ ?_
 refine CX.seq ?_
 refine CX.region ?_
 refine RX.cons rfl rfl (op_box rfl rfl rfl rfl fun gf => ?_)
 refine RX.cons rfl rfl (op_box rfl rfl rfl rfl fun gs => ?_)
 refine RX.cons rfl rfl (op_w (yw_assign rfl rfl) rfl rfl ?_)
 refine RX.nil (XX.next (V' := [(2, _), (3, _)]) ⟨rfl, rfl, trivial⟩ ?_)
 refine CX.seq ?_
 refine CX.region ?_
 refine RX.cons rfl rfl (op_w (yw_makeFunc rfl rfl rfl) rfl rfl ?_)
 refine RX.cons rfl rfl (op_w (yw_assign rfl rfl) rfl rfl ?_)
 refine RX.nil (XX.next (V' := [(4, .func (.func 99) #[] #[.pointer (some ⟨gs, 0, none⟩), .pointer (some ⟨gf, 0, none⟩)])]) ⟨rfl, trivial⟩ ?_)
 refine CX.ret ?_
 exact ret_tmp rfl rfl fun w1 hw => ⟨(gs, gf), trivial, rfl, hw.pick ((perm_pick 0 rfl).trans (List.Perm.cons _ ((perm_pick 0 rfl).trans (List.Perm.cons _ (List.Perm.refl _)))))⟩

end Go.Proofs.YtpcfgoadkfajfaaGreatDoor
