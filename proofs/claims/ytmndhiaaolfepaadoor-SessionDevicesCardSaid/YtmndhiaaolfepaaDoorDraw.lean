/- Regions that draw their order, in the calculus: an operation that only reads is taken first; the others are stepped through as they may come up. -/
import Derived.Test.YtmndhiaaolfepaaDoorCalc
namespace Go.Proofs.YtmndhiaaolfepaaDoor
set_option linter.all false
open Go Go.RowKit

section
variable {P : Program} {ops : Array Oper} {Q : Exit → Act → World → Prop} {S : World → Prop} {th : Nat}

/-- Operation number i comes up. -/
def StepD (P : Program) (ops : Array Oper) (i : Nat) (K : Act → World → Prop) (a : Act) (w : World) : Prop :=
  match ops[i]? with
  | none => K a w
  | some o => if Region.wanted o (yielded ops a.tmps) = true then notDefer o.op = true ∧ Does P o a w K else K (a.put o.dst undef) w

theorem StepD.mono {i : Nat} {K K' : Act → World → Prop} {a : Act} {w : World} (h : StepD P ops i K a w) (hk : ∀ a w, K a w → K' a w) : StepD P ops i K' a w := by
  unfold StepD at *
  split
  · exact hk _ _ (by simpa [*] using h)
  · rename_i o ho
    simp only [ho] at h
    split
    · rename_i hw; simp only [hw, if_true] at h; exact ⟨h.1, h.2.mono hk⟩
    · rename_i hw; simp only [hw] at h; exact hk _ _ h

theorem StepD.wpOpIn {i : Nat} {K : Act → World → Prop} {a : Act} {w : World} (h : StepD P ops i K a w) : wpOpIn (FW none) 0 P ops Q i K a w := by
  unfold StepD at h
  unfold Go.wpOpIn
  split
  · simpa [*] using h
  · rename_i o ho
    simp only [ho] at h
    split
    · rename_i hw; simp only [hw, if_true] at h; exact Does.wpIn h.1 h.2
    · rename_i hw; simp only [hw] at h; exact ⟨fun _ _ => trivial, h⟩

/-- Whatever order is picked; until the operations from th on come up the world stays in S. -/
def wpAnyN (P : Program) (ops : Array Oper) (Q : Exit → Act → World → Prop) (S : World → Prop) (th : Nat) : Nat → Array Bool → Act → World → Prop
  | 0, listed, a, w => Region.ready .any ops listed = [] ∧ Q .normal a w
  | f + 1, listed, a, w =>
    (Region.ready .any ops listed = [] → Q .normal a w) ∧
    ∀ i ∈ Region.ready .any ops listed, StepD P ops i (fun a' w' => (i < th → S w → S w') ∧ wpAnyN P ops Q S th f (listed.setIfInBounds i true) a' w') a w

theorem wpAnyN.sound : ∀ (fuel : Nat) (listed : Array Bool) (a : Act) (w : World), wpAnyN P ops Q S th fuel listed a w → wpAnyIn (FW none) 0 P .any ops Q fuel listed a w
  | 0, _, _, _, h => h
  | f + 1, _, _, _, h => ⟨h.1, fun i hi => StepD.wpOpIn ((h.2 i hi).mono fun a' w' hh => wpAnyN.sound f _ a' w' hh.2)⟩

/-- In every world of Si the operation yields v, here; or it is passed over. -/
def YieldsS (P : Program) (ops : Array Oper) (Si : World → Prop) (o : Oper) (v : Value) (a : Act) : Prop :=
  (Region.wanted o (yielded ops a.tmps) = true ∧ notDefer o.op = true ∧ ∀ w, Si w → (execOp a.eval o).run P w = .ok (.value v) w) ∨
  (Region.wanted o (yielded ops a.tmps) = false ∧ v = undef)

theorem YieldsS.same {Si : World → Prop} {o : Oper} {v : Value} {a a' : Act} (h : YieldsS P ops Si o v a) (he : execOp a'.eval o = execOp a.eval o)
    (hw : Region.wanted o (yielded ops a'.tmps) = Region.wanted o (yielded ops a.tmps)) : YieldsS P ops Si o v a' := by
  unfold YieldsS at *
  rw [he, hw]
  exact h

theorem YieldsS.stepD {Si : World → Prop} {i : Nat} {o : Oper} {v : Value} {a : Act} {w : World} (hi : ops[i]? = some o) (h : YieldsS P ops Si o v a) (hw : Si w) {K : Act → World → Prop} (hK : K (a.put o.dst v) w) : StepD P ops i K a w := by
  unfold StepD
  simp only [hi]
  rcases h with ⟨h1, h2, h3⟩ | ⟨h1, rfl⟩
  · rw [if_pos h1]
    refine ⟨h2, ?_⟩
    unfold Does
    rw [h3 w hw]
    exact hK
  · rw [if_neg (by rw [h1]; simp)]
    exact hK

theorem stepD_put {Si : World → Prop} {j : Nat} {oi oj : Oper} {v : Value} (hj : ops[j]? = some oj) (hap : oi.apart ops oj = true)
    (hsi : ∀ cs b, oi.op ≠ .select cs b) (hsj : ∀ cs b, oj.op ≠ .select cs b) {K : Act → World → Prop} {a : Act} {w : World}
    (hy : YieldsS P ops Si oi v a) (h : StepD P ops j K (a.put oi.dst v) w) : StepD P ops j (fun a' w' => YieldsS P ops Si oi v a' ∧ K (a'.put oi.dst v) w') a w := by
  obtain ⟨h1, h2, h3⟩ := Oper.apart_spec hap
  have keep : ∀ u, YieldsS P ops Si oi v (a.put oj.dst u) := fun u => hy.same (execOp_put oi hsi a oj.dst u h3) (wanted_put oi a oj.dst u h3)
  have comm : ∀ u, (a.put oi.dst v).put oj.dst u = (a.put oj.dst u).put oi.dst v := fun u => Act.put_comm a v u h2
  unfold StepD at *
  simp only [hj] at *
  rw [wanted_put oj a oi.dst v h1] at h
  split
  · rename_i hw
    simp only [hw, if_true] at h
    refine ⟨h.1, ?_⟩
    have hd := h.2
    unfold Does at hd ⊢
    rw [execOp_put oj hsj a oi.dst v h1] at hd
    generalize (execOp a.eval oj).run P w = r at *
    cases r with
    | ok x w' =>
      cases x <;> simp only at hd ⊢ <;>
        first
          | exact ⟨keep _, by rw [← comm]; exact hd⟩
          | exact CallsIn.mono hd (fun e w'' ⟨u, he, hu⟩ => ⟨u, he, keep _, by rw [← comm]; exact hu⟩)
          | exact RoundIn.mono hd (fun e w'' ⟨u, he, hu⟩ => ⟨u, he, keep _, by rw [← comm]; exact hu⟩)
          | exact hd
    | halt x w' => exact hd
  · rename_i hw
    simp only [hw] at h
    exact ⟨keep _, by rw [← comm]; exact h⟩

/-- What is listed waits for nothing. -/
def Closed (ops : Array Oper) (listed : Array Bool) : Prop :=
  ∀ j o, ops[j]? = some o → listed.getD j false = true → ∀ e ∈ o.after, Region.binds .any e = true → listed.getD e.on false = true

theorem Closed.set {listed : Array Bool} (h : Closed ops listed) {i : Nat} (hi : i ∈ Region.ready .any ops listed) : Closed ops (listed.setIfInBounds i true) := by
  obtain ⟨_, o, ho, hall⟩ := mem_ready.1 hi
  intro j oj hj hl e he hb
  by_cases hij : i = j
  · subst hij
    have : oj = o := Option.some.inj (hj.symm.trans ho)
    subst this
    exact getD_set_true (hall e he hb)
  · rw [getD_set_ne false hij] at hl
    exact getD_set_true (h j oj hj hl e he hb)

/-- t waits for i, by way of others or not. -/
def anc (ops : Array Oper) : Nat → Nat → Nat → Bool
  | 0, _, _ => false
  | k + 1, t, i => match ops[t]? with
    | some o => o.after.any (fun e => Region.binds .any e && e.on == i) || o.after.any (fun e => Region.binds .any e && anc ops k e.on i)
    | none => false

theorem anc_listed {listed : Array Bool} (hc : Closed ops listed) {i : Nat} : ∀ (k t : Nat), listed.getD t false = true → anc ops k t i = true → listed.getD i false = true
  | 0, _, _, h => by simp [anc] at h
  | k + 1, t, hl, h => by
    simp only [anc] at h
    split at h
    · rename_i o ho
      rcases Bool.or_eq_true_iff.1 h with h | h
      · obtain ⟨e, he, hb⟩ := Array.any_eq_true'.1 h
        simp only [Bool.and_eq_true, beq_iff_eq] at hb
        rw [← hb.2]
        exact hc t o ho hl e he hb.1
      · obtain ⟨e, he, hb⟩ := Array.any_eq_true'.1 h
        simp only [Bool.and_eq_true] at hb
        exact anc_listed hc k e.on (hc t o ho hl e he hb.1) hb.2
    · cases h

theorem anc_ready {listed : Array Bool} (hc : Closed ops listed) {i t k : Nat} (ht : t ∈ Region.ready .any ops listed) (h : anc ops k t i = true) : listed.getD i false = true := by
  obtain ⟨_, o, ho, hall⟩ := mem_ready.1 ht
  cases k with
  | zero => simp [anc] at h
  | succ k =>
    simp only [anc, ho] at h
    rcases Bool.or_eq_true_iff.1 h with h | h
    · obtain ⟨e, he, hb⟩ := Array.any_eq_true'.1 h
      simp only [Bool.and_eq_true, beq_iff_eq] at hb
      rw [← hb.2]
      exact hall e he hb.1
    · obtain ⟨e, he, hb⟩ := Array.any_eq_true'.1 h
      simp only [Bool.and_eq_true] at hb
      exact anc_listed hc k e.on (hall e he hb.1) hb.2

theorem wpAnyN_first {Si : World → Prop} {i : Nat} {oi : Oper} {v : Value} (hi : ops[i]? = some oi) (hsel : ∀ (j : Nat) (o : Oper) cs b, ops[j]? = some o → o.op ≠ .select cs b)
    (hS : ∀ listed, Closed ops listed → listed.getD i true = false → ∀ j ∈ Region.ready .any ops listed, ∀ w w', Si w → (j < th → S w → S w') → Si w') :
    ∀ (fuel : Nat) (listed : Array Bool) (a : Act) (w : World),
      (∀ j oj, ops[j]? = some oj → j ≠ i → listed.getD j true = false → (∀ e ∈ oj.after, Region.binds .any e = true → e.on ≠ i) → oi.apart ops oj = true) →
      Closed ops listed → i ∈ Region.ready .any ops listed → Si w → YieldsS P ops Si oi v a →
      wpAnyN P ops Q S th fuel (listed.setIfInBounds i true) (a.put oi.dst v) w → wpAnyN P ops Q S th (fuel + 1) listed a w := by
  intro fuel
  induction fuel with
  | zero =>
    intro listed a w _ _ hr hw hy H
    refine ⟨fun h => (by rw [h] at hr; cases hr), fun j hj => ?_⟩
    by_cases hji : j = i
    · subst hji; exact hy.stepD hi hw ⟨fun _ h => h, H⟩
    · have := ready_mono hj hji
      rw [H.1] at this
      cases this
  | succ fuel ih =>
    intro listed a w hfree hc hr hw hy H
    refine ⟨fun h => (by rw [h] at hr; cases hr), fun j hj => ?_⟩
    by_cases hji : j = i
    · subst hji; exact hy.stepD hi hw ⟨fun _ h => h, H⟩
    · have h1 := H.2 j (ready_mono hj hji)
      obtain ⟨hjun, oj, hoj, hall⟩ := mem_ready.1 hj
      have hiun := (mem_ready.1 hr).1
      have hnot : ∀ e ∈ oj.after, Region.binds .any e = true → e.on ≠ i := fun e he hb heq => by
        have h1 := hall e he hb
        rw [heq] at h1
        rcases Nat.lt_or_ge i listed.size with h' | h'
        · simp [h'] at hiun h1; rw [hiun] at h1; cases h1
        · simp [Array.getElem?_eq_none h'] at h1
      have h2 := stepD_put hoj (hfree j oj hoj hji hjun hnot) (fun cs b => hsel i oi cs b hi) (fun cs b => hsel j oj cs b hoj) hy h1
      have hfree' : ∀ k ok, ops[k]? = some ok → k ≠ i → (listed.setIfInBounds j true).getD k true = false →
          (∀ e ∈ ok.after, Region.binds .any e = true → e.on ≠ i) → oi.apart ops ok = true := fun k ok hk hki hun hno => by
        refine hfree k ok hk hki ?_ hno
        by_cases hjk : j = k
        · subst hjk; exact hjun
        · rw [getD_set_ne true hjk] at hun; exact hun
      refine h2.mono fun a' w' ⟨h3, h4, h5⟩ => ⟨h4, ih (listed.setIfInBounds j true) a' w' hfree' (hc.set hj) (ready_mono hr (Ne.symm hji)) (hS listed hc hiun j hj w w' hw h4) h3 ?_⟩
      rw [Array.setIfInBounds_comm _ _ hji]
      exact h5
end

/-! ### The rules -/
/-- What is listed, as a number's bits. -/
def maskA (n m : Nat) : Array Bool := ((List.range n).map fun i => m.testBit i).toArray

theorem maskA_zero (n : Nat) : maskA n 0 = Array.replicate n false := by
  unfold maskA
  apply Array.ext'
  simp [List.ext_getElem_iff]

def closedB (ops : Array Oper) (listed : Array Bool) : Bool :=
  (List.range ops.size).all fun j => match ops[j]? with
    | some o => !listed.getD j false || o.after.all fun e => !Region.binds .any e || listed.getD e.on false
    | none => true
theorem closedB_spec {ops : Array Oper} {listed : Array Bool} (h : closedB ops listed = true) : Closed ops listed := by
  intro j o ho hl e he hb
  simp only [closedB, List.all_eq_true, List.mem_range] at h
  have h1 := h j (Array.getElem?_eq_some_iff.1 ho).1
  simp only [ho, hl, Bool.not_true, Bool.false_or] at h1
  have h2 := Array.all_eq_true'.1 h1 e he
  simpa [hb] using h2

/-- Operation i may be taken first where it reads what lies in the blocks known from the start. -/
def takeB (ops : Array Oper) (th m i m' : Nat) : Bool :=
  (Region.ready .any ops (maskA ops.size m)).contains i && Region.free .any ops (maskA ops.size m) i && closedB ops (maskA ops.size m) && Region.noSelect ops &&
  (maskA ops.size m).setIfInBounds i true == maskA ops.size m' && decide (i < th) && (List.range ops.size).all fun t => decide (t < th) || anc ops ops.size t i
/-- .. where it looks at no memory. -/
def takeWB (ops : Array Oper) (m i m' : Nat) : Bool :=
  (Region.ready .any ops (maskA ops.size m)).contains i && Region.free .any ops (maskA ops.size m) i && closedB ops (maskA ops.size m) && Region.noSelect ops &&
  (maskA ops.size m).setIfInBounds i true == maskA ops.size m'
def stepB (ops : Array Oper) (m i m' : Nat) : Bool :=
  (Region.ready .any ops (maskA ops.size m)) == [i] && (maskA ops.size m).setIfInBounds i true == maskA ops.size m'

section
variable {P : Program} {ops : Array Oper} {Q : Exit → Act → World → Prop} {w0 : World} {O : List Nat} {n : Nat} {D : List Deferred} {th : Nat} {LS : List Ent}

/-- The rest of a region that draws its order, from (V, L); the operations in m have come up. -/
def DX (P : Program) (ops : Array Oper) (Q : Exit → Act → World → Prop) (w0 : World) (O : List Nat) (n : Nat) (D : List Deferred) (th : Nat) (LS : List Ent) (fuel m : Nat) (V : List (Nat × Value)) (L : List Ent) : Prop :=
  ∀ a w, Holds n D a V → SL w0 O w L → wpAnyN P ops Q (fun w => SL w0 O w LS) th fuel (maskA ops.size m) a w

variable {fuel m m' i : Nat} {V : List (Nat × Value)} {L : List Ent} {o : Oper}

theorem CX.draw {id : Nat} {l : List Oper} (th : Nat) (hm : P.follows .mixedOrders = true) (h : DX P l.toArray Q w0 O n D th L l.toArray.size 0 V L) : CX P none Q w0 O n D (.region id l.toArray true) V L := by
  intro a w ha hw
  refine wpIn_region_any hm ?_
  rw [← maskA_zero]
  exact wpAnyN.sound _ _ _ _ (h a _ ha (hw.drew _))

/-- No world is looked at. -/
def YldW (P : Program) (n : Nat) (D : List Deferred) (o : Oper) (V : List (Nat × Value)) (v : Value) : Prop :=
  ∀ a w, Holds n D a V → (execOp a.eval o).run P w = .ok (.value v) w
theorem YldW.yld {v : Value} (h : YldW P n D o V v) : Yld P w0 O n D o V L v := fun a w ha _ => h a w ha
theorem op_w {v : Value} {d : Nat} {T : List (Nat × Value) → List Ent → Prop} (h : YldW P n D o V v) (ho : o.dst = some d) (hd : Nat.blt d n = true) (hT : T ((d, v) :: V) L) : OpS P w0 O n D o V L T :=
  op_yld h.yld ho hd hT

theorem wanted_none {a : Act} (hg : o.guard = none) : Region.wanted o (yielded ops a.tmps) = true := by simp [Region.wanted, hg]
theorem wanted_yes {a : Act} {j dj : Nat} {b : Bool} {oj : Oper} (ha : Holds n D a V) (hg : o.guard = some (j, b)) (hj : ops[j]? = some oj) (hdj : oj.dst = some dj) (hv : lk V dj = some (.bool b)) : Region.wanted o (yielded ops a.tmps) = true := by
  have := ha.at_ _ _ hv
  simp [Region.wanted, hg, yielded, hj, hdj, this]
theorem wanted_no {a : Act} {j dj : Nat} {b : Bool} {oj : Oper} {u : Value} (ha : Holds n D a V) (hg : o.guard = some (j, b)) (hj : ops[j]? = some oj) (hdj : oj.dst = some dj) (hv : lk V dj = some u)
    (hu : (match u with | .bool c => c == b | _ => false) = false) : Region.wanted o (yielded ops a.tmps) = false := by
  have := ha.at_ _ _ hv
  simp only [Region.wanted, hg, yielded, hj, hdj, Option.bind_some, this]
  cases u <;> simp_all

theorem DX.takeS_core {d : Nat} {v : Value} (hc : takeB ops th m i m' = true) (ho : ops[i]? = some o) (hd : o.dst = some d) (hdn : Nat.blt d n = true) (hs : LS.Sublist L)
    (hy : ∀ a, Holds n D a V → YieldsS P ops (fun w => SL w0 O w LS) o v a) (h : DX P ops Q w0 O n D th LS fuel m' ((d, v) :: V) L) : DX P ops Q w0 O n D th LS (fuel + 1) m V L := by
  simp only [takeB, Bool.and_eq_true, beq_iff_eq, decide_eq_true_eq] at hc
  obtain ⟨⟨⟨⟨⟨⟨h1, h2⟩, h3⟩, h4⟩, h5⟩, h6⟩, h7⟩ := hc
  intro a w ha hw
  refine wpAnyN_first (Si := fun w => SL w0 O w LS) (v := v) ho (Region.noSelect_spec h4) ?_ fuel _ a w (Region.free_spec ho h2) (closedB_spec h3) (by simpa using h1) (hw.sub hs) (hy a ha) ?_
  · intro listed hcl hun j hj w1 w' hw1 hS
    refine hS ?_ hw1
    rcases Nat.lt_or_ge j th with hlt | hge
    · exact hlt
    · have hjs : j < ops.size := by
        obtain ⟨_, oj, hoj, _⟩ := mem_ready.1 hj
        exact (Array.getElem?_eq_some_iff.1 hoj).1
      have := List.all_eq_true.1 h7 j (List.mem_range.2 hjs)
      simp only [Bool.or_eq_true, decide_eq_true_eq] at this
      rcases this with h8 | h8
      · omega
      · have := anc_ready hcl hj h8
        rcases Nat.lt_or_ge i listed.size with h' | h'
        · simp [h'] at hun this; rw [hun] at this; cases this
        · simp [Array.getElem?_eq_none h'] at this
  · rw [h5, hd]
    exact h _ w (ha.put hdn v) hw

theorem DX.takeW_core {d : Nat} {v : Value} (hc : takeWB ops m i m' = true) (ho : ops[i]? = some o) (hd : o.dst = some d) (hdn : Nat.blt d n = true)
    (hy : ∀ a, Holds n D a V → YieldsS P ops (fun _ => True) o v a) (h : DX P ops Q w0 O n D th LS fuel m' ((d, v) :: V) L) : DX P ops Q w0 O n D th LS (fuel + 1) m V L := by
  simp only [takeWB, Bool.and_eq_true, beq_iff_eq] at hc
  obtain ⟨⟨⟨⟨h1, h2⟩, h3⟩, h4⟩, h5⟩ := hc
  intro a w ha hw
  refine wpAnyN_first (Si := fun _ => True) (v := v) ho (Region.noSelect_spec h4) (fun _ _ _ _ _ _ _ _ _ => trivial) fuel _ a w (Region.free_spec ho h2) (closedB_spec h3) (by simpa using h1) trivial (hy a ha) ?_
  rw [h5, hd]
  exact h _ w (ha.put hdn v) hw

/-- A load, say: taken first. -/
theorem DX.take (i m' : Nat) {d : Nat} {v : Value} (hc : takeB ops th m i m' = true) (ho : ops[i]? = some o) (hg : o.guard = none) (hnd : notDefer o.op = true) (hd : o.dst = some d) (hdn : Nat.blt d n = true) (hs : LS.Sublist L)
    (hy : Yld P w0 O n D o V LS v) (h : DX P ops Q w0 O n D th LS fuel m' ((d, v) :: V) L) : DX P ops Q w0 O n D th LS (fuel + 1) m V L :=
  DX.takeS_core hc ho hd hdn hs (fun a ha => .inl ⟨wanted_none hg, hnd, fun w hw => hy a w ha hw⟩) h
theorem DX.takeG (i m' : Nat) {d j dj : Nat} {b : Bool} {oj : Oper} {v : Value} (hc : takeB ops th m i m' = true) (ho : ops[i]? = some o) (hg : o.guard = some (j, b)) (hj : ops[j]? = some oj) (hdj : oj.dst = some dj) (hv : lk V dj = some (.bool b)) (hnd : notDefer o.op = true) (hd : o.dst = some d) (hdn : Nat.blt d n = true) (hs : LS.Sublist L)
    (hy : Yld P w0 O n D o V LS v) (h : DX P ops Q w0 O n D th LS fuel m' ((d, v) :: V) L) : DX P ops Q w0 O n D th LS (fuel + 1) m V L :=
  DX.takeS_core hc ho hd hdn hs (fun a ha => .inl ⟨wanted_yes ha hg hj hdj hv, hnd, fun w hw => hy a w ha hw⟩) h
/-- What looks at no memory, taken first. -/
theorem DX.takeW (i m' : Nat) {d : Nat} {v : Value} (hc : takeWB ops m i m' = true) (ho : ops[i]? = some o) (hg : o.guard = none) (hnd : notDefer o.op = true) (hd : o.dst = some d) (hdn : Nat.blt d n = true)
    (hy : YldW P n D o V v) (h : DX P ops Q w0 O n D th LS fuel m' ((d, v) :: V) L) : DX P ops Q w0 O n D th LS (fuel + 1) m V L :=
  DX.takeW_core hc ho hd hdn (fun a ha => .inl ⟨wanted_none hg, hnd, fun w _ => hy a w ha⟩) h
theorem DX.takeWG (i m' : Nat) {d j dj : Nat} {b : Bool} {oj : Oper} {v : Value} (hc : takeWB ops m i m' = true) (ho : ops[i]? = some o) (hg : o.guard = some (j, b)) (hj : ops[j]? = some oj) (hdj : oj.dst = some dj) (hv : lk V dj = some (.bool b)) (hnd : notDefer o.op = true) (hd : o.dst = some d) (hdn : Nat.blt d n = true)
    (hy : YldW P n D o V v) (h : DX P ops Q w0 O n D th LS fuel m' ((d, v) :: V) L) : DX P ops Q w0 O n D th LS (fuel + 1) m V L :=
  DX.takeW_core hc ho hd hdn (fun a ha => .inl ⟨wanted_yes ha hg hj hdj hv, hnd, fun w _ => hy a w ha⟩) h
/-- What a guard passes over. -/
theorem DX.skip (i m' : Nat) {d j dj : Nat} {b : Bool} {oj : Oper} {u : Value} (hc : takeWB ops m i m' = true) (ho : ops[i]? = some o) (hg : o.guard = some (j, b)) (hj : ops[j]? = some oj) (hdj : oj.dst = some dj) (hv : lk V dj = some u)
    (hu : (match u with | .bool c => c == b | _ => false) = false) (hd : o.dst = some d) (hdn : Nat.blt d n = true)
    (h : DX P ops Q w0 O n D th LS fuel m' ((d, undef) :: V) L) : DX P ops Q w0 O n D th LS (fuel + 1) m V L :=
  DX.takeW_core hc ho hd hdn (fun a ha => .inr ⟨wanted_no ha hg hj hdj hv hu, rfl⟩) h

/-- The one that may come up, ahead of the threshold: what is known from the start stays known. -/
def DXs (P : Program) (ops : Array Oper) (Q : Exit → Act → World → Prop) (w0 : World) (O : List Nat) (n : Nat) (D : List Deferred) (th : Nat) (LS : List Ent) (fuel m : Nat) (V : List (Nat × Value)) (L : List Ent) : Prop :=
  LS.Sublist L ∧ DX P ops Q w0 O n D th LS fuel m V L
theorem DXs.mk (hs : LS.Sublist L) (h : DX P ops Q w0 O n D th LS fuel m V L) : DXs P ops Q w0 O n D th LS fuel m V L := ⟨hs, h⟩

theorem DX.step_core (hc : stepB ops m i m' = true) (ho : ops[i]? = some o) (hw : ∀ a, Holds n D a V → Region.wanted o (yielded ops a.tmps) = true) (hnd : notDefer o.op = true)
    (h : OpS P w0 O n D o V L (fun V' L' => (i < th → LS.Sublist L') ∧ DX P ops Q w0 O n D th LS fuel m' V' L')) : DX P ops Q w0 O n D th LS (fuel + 1) m V L := by
  simp only [stepB, Bool.and_eq_true, beq_iff_eq] at hc
  intro a w ha hw'
  refine ⟨fun h0 => (by rw [hc.1] at h0; cases h0), fun j hj => ?_⟩
  rw [hc.1] at hj
  obtain rfl : j = i := by simpa using hj
  unfold StepD
  simp only [ho]
  rw [if_pos (hw a ha)]
  refine ⟨hnd, (h a w ha hw').mono ?_⟩
  rintro a1 w1 ⟨V', L', ⟨h1, h2⟩, ha1, hw1⟩
  refine ⟨fun hlt _ => hw1.sub (h1 hlt), ?_⟩
  rw [hc.2]
  exact h2 a1 w1 ha1 hw1

theorem OpS.mono {T T' : List (Nat × Value) → List Ent → Prop} (h : OpS P w0 O n D o V L T) (hT : ∀ V' L', T V' L' → T' V' L') : OpS P w0 O n D o V L T' :=
  fun a w ha hw => (h a w ha hw).mono fun _ _ ⟨V', L', h1, h2⟩ => ⟨V', L', hT _ _ h1, h2⟩

theorem DX.step (i m' : Nat) (hc : stepB ops m i m' = true) (ho : ops[i]? = some o) (hg : o.guard = none) (hnd : notDefer o.op = true)
    (h : OpS P w0 O n D o V L (DXs P ops Q w0 O n D th LS fuel m')) : DX P ops Q w0 O n D th LS (fuel + 1) m V L :=
  DX.step_core hc ho (fun a _ => wanted_none hg) hnd (h.mono fun _ _ ⟨h1, h2⟩ => ⟨fun _ => h1, h2⟩)
theorem DX.stepG (i m' : Nat) {j dj : Nat} {b : Bool} {oj : Oper} (hc : stepB ops m i m' = true) (ho : ops[i]? = some o) (hg : o.guard = some (j, b)) (hj : ops[j]? = some oj) (hdj : oj.dst = some dj) (hv : lk V dj = some (.bool b)) (hnd : notDefer o.op = true)
    (h : OpS P w0 O n D o V L (DXs P ops Q w0 O n D th LS fuel m')) : DX P ops Q w0 O n D th LS (fuel + 1) m V L :=
  DX.step_core hc ho (fun a ha => wanted_yes ha hg hj hdj hv) hnd (h.mono fun _ _ ⟨h1, h2⟩ => ⟨fun _ => h1, h2⟩)
/-- .. from the threshold on. -/
theorem DX.stepT (i m' : Nat) (hc : stepB ops m i m' = true) (hth : Nat.ble th i = true) (ho : ops[i]? = some o) (hg : o.guard = none) (hnd : notDefer o.op = true)
    (h : OpS P w0 O n D o V L (DX P ops Q w0 O n D th LS fuel m')) : DX P ops Q w0 O n D th LS (fuel + 1) m V L :=
  DX.step_core hc ho (fun a _ => wanted_none hg) hnd (h.mono fun _ _ h2 => ⟨fun hlt => by have := Nat.le_of_ble_eq_true hth; omega, h2⟩)

theorem DX.done (hc : (Region.ready .any ops (maskA ops.size m) == []) = true) (h : XX Q w0 O n D .normal V L) : DX P ops Q w0 O n D th LS fuel m V L := by
  intro a w ha hw
  have hr : Region.ready .any ops (maskA ops.size m) = [] := by simpa using hc
  cases fuel with
  | zero => exact ⟨hr, h a w ha hw⟩
  | succ f => exact ⟨fun _ => h a w ha hw, by rw [hr]; simp⟩

theorem DX.split {t : Nat} {b : Bool} (hv : lk V t = some (.bool b)) (ht : b = true → DX P ops Q w0 O n D th LS fuel m ((t, .bool true) :: V) L) (hf : b = false → DX P ops Q w0 O n D th LS fuel m ((t, .bool false) :: V) L) : DX P ops Q w0 O n D th LS fuel m V L := by
  intro a w ha hw
  cases b with
  | true => exact ht rfl a w (ha.cons hv rfl) hw
  | false => exact hf rfl a w (ha.cons hv rfl) hw
theorem DX.splitD {t : Nat} {p : Prop} [Decidable p] (hv : lk V t = some (.bool (decide p))) (ht : p → DX P ops Q w0 O n D th LS fuel m ((t, .bool true) :: V) L) (hf : ¬ p → DX P ops Q w0 O n D th LS fuel m ((t, .bool false) :: V) L) : DX P ops Q w0 O n D th LS fuel m V L :=
  DX.split hv (fun h => ht (of_decide_eq_true h)) (fun h => hf (of_decide_eq_false h))
theorem DX.know {t : Nat} {v u : Value} (hv : lk V t = some v) (e : v = u) (h : DX P ops Q w0 O n D th LS fuel m ((t, u) :: V) L) : DX P ops Q w0 O n D th LS fuel m V L :=
  fun a w ha hw => h a w (ha.cons hv e) hw

/-- Two that may come up. -/
def step2B (ops : Array Oper) (m i i' m1 m2 : Nat) : Bool :=
  (Region.ready .any ops (maskA ops.size m)) == [i, i'] && (maskA ops.size m).setIfInBounds i true == maskA ops.size m1 && (maskA ops.size m).setIfInBounds i' true == maskA ops.size m2
theorem DX.step2 (i i' m1 m2 : Nat) {o' : Oper} (hc : step2B ops m i i' m1 m2 = true) (ho : ops[i]? = some o) (hg : o.guard = none) (hnd : notDefer o.op = true) (ho' : ops[i']? = some o') (hg' : o'.guard = none) (hnd' : notDefer o'.op = true)
    (h : OpS P w0 O n D o V L (DXs P ops Q w0 O n D th LS fuel m1)) (h' : OpS P w0 O n D o' V L (DXs P ops Q w0 O n D th LS fuel m2)) : DX P ops Q w0 O n D th LS (fuel + 1) m V L := by
  simp only [step2B, Bool.and_eq_true, beq_iff_eq] at hc
  intro a w ha hw'
  refine ⟨fun h0 => (by rw [hc.1.1] at h0; cases h0), fun j hj => ?_⟩
  rw [hc.1.1] at hj
  have one : ∀ (k mk : Nat) (ok : Oper), ops[k]? = some ok → ok.guard = none → notDefer ok.op = true → (maskA ops.size m).setIfInBounds k true = maskA ops.size mk → OpS P w0 O n D ok V L (DXs P ops Q w0 O n D th LS fuel mk) →
      StepD P ops k (fun a' w' => (k < th → SL w0 O w LS → SL w0 O w' LS) ∧ wpAnyN P ops Q (fun w => SL w0 O w LS) th fuel ((maskA ops.size m).setIfInBounds k true) a' w') a w := by
    intro k mk ok hok hgk hnk hmk hk
    unfold StepD
    simp only [hok]
    rw [if_pos (wanted_none hgk)]
    refine ⟨hnk, (hk a w ha hw').mono ?_⟩
    rintro a1 w1 ⟨V', L', ⟨h1, h2⟩, ha1, hw1⟩
    refine ⟨fun _ _ => hw1.sub h1, ?_⟩
    rw [hmk]
    exact h2 a1 w1 ha1 hw1
  have hj' : j = i ∨ j = i' := by simpa using hj
  rcases hj' with rfl | rfl
  · exact one _ _ _ ho hg hnd hc.1.2 h
  · exact one _ _ _ ho' hg' hnd' hc.2 h'
end
end Go.Proofs.YtmndhiaaolfepaaDoor
