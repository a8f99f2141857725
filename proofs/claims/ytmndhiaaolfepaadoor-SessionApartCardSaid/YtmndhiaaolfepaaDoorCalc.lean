/- A calculus of symbolic frames and heaps over the model's weakest preconditions: frames as lists of slots, memory as a list of blocks. Nothing here knows a program. -/
import Derived.WalkKit
import Derived.RangeFuncFrom
import Derived.RangeFuncIn
import Derived.RangeFuncMany
import Derived.OrdersIn
import Derived.TacticsIn
import Derived.Sort.LoopGhostIn
import Derived.Maps.AppendAt
namespace Go.Proofs.YtmndhiaaolfepaaDoor
set_option linter.all false
open Go Go.RowKit

/-! ### Frames -/
/-- The slot's value: the first entry counts. -/
def lk : List (Nat × Value) → Nat → Option Value
  | [], _ => none
  | (k, v) :: r, t => bif Nat.beq k t then some v else lk r t

structure Holds (n : Nat) (D : List Deferred) (a : Act) (V : List (Nat × Value)) : Prop where
  defers : a.defers = D
  size : a.tmps.size = n
  at_ : ∀ t v, lk V t = some v → a.tmps[t]? = some v

def ev (V : List (Nat × Value)) : Operand → Option Value
  | .tmp t => lk V t
  | .const v => some v
  | .global g => some (.pointer (some ⟨g, 0, none⟩))
  | .func f => some (.func (.func f) #[] #[])

def evs (V : List (Nat × Value)) : List Operand → Option (List Value)
  | [] => some []
  | x :: r => match ev V x, evs V r with
    | some v, some vs => some (v :: vs)
    | _, _ => none

section
variable {n : Nat} {D : List Deferred} {a : Act} {V : List (Nat × Value)}
theorem Holds.eval (h : Holds n D a V) {x : Operand} {v : Value} (he : ev V x = some v) : a.eval x = v := by
  cases x with
  | tmp t =>
    have := h.at_ t v he
    simp [Act.eval, this]
  | const u => simpa [ev, Act.eval] using he
  | global g => simpa [ev, Act.eval] using he
  | func f => simpa [ev, Act.eval] using he

theorem Holds.evals (h : Holds n D a V) : ∀ {xs : List Operand} {vs : List Value}, evs V xs = some vs → xs.map a.eval = vs
  | [], vs, he => by simpa [evs] using he
  | x :: r, vs, he => by
    simp only [evs] at he
    split at he
    · rename_i v vs' h1 h2
      simp only [Option.some.injEq] at he
      subst he
      rw [List.map_cons, h.eval h1, h.evals h2]
    · cases he

theorem Holds.put (h : Holds n D a V) {d : Nat} (hd : Nat.blt d n = true) (v : Value) : Holds n D (a.put (some d) v) ((d, v) :: V) := by
  refine ⟨h.defers, by simp [Act.put, h.size], fun t u hl => ?_⟩
  have hdn : d < n := by simpa using hd
  simp only [lk] at hl
  by_cases e : d = t
  · subst e
    have : Nat.beq d d = true := by simp
    rw [this] at hl
    simp at hl
    subst hl
    simp [Act.put, h.size, hdn]
  · have : Nat.beq d t = false := by cases hb : Nat.beq d t with
      | false => rfl
      | true => exact absurd (Nat.eq_of_beq_eq_true hb) e
    rw [this] at hl
    simp only [cond_false] at hl
    have := h.at_ t u hl
    simp [Act.put, Array.getElem?_setIfInBounds_ne e, this]

/-- Every entry of V' is one of V. -/
@[reducible] def Sub (V : List (Nat × Value)) : List (Nat × Value) → Prop
  | [] => True
  | (k, v) :: r => lk V k = some v ∧ Sub V r

theorem Sub.lk {V : List (Nat × Value)} : ∀ {V' : List (Nat × Value)}, Sub V V' → ∀ t v, YtmndhiaaolfepaaDoor.lk V' t = some v → YtmndhiaaolfepaaDoor.lk V t = some v
  | [], _, t, v, h => by simp [YtmndhiaaolfepaaDoor.lk] at h
  | (k, u) :: r, hs, t, v, h => by
    simp only [YtmndhiaaolfepaaDoor.lk] at h
    cases e : Nat.beq k t with
    | true =>
      rw [e] at h
      simp at h
      have : k = t := by simpa using e
      subst this; subst h
      exact hs.1
    | false =>
      rw [e] at h
      exact hs.2.lk t v (by simpa using h)

theorem Holds.sub (h : Holds n D a V) {V' : List (Nat × Value)} (hs : Sub V V') : Holds n D a V' :=
  ⟨h.defers, h.size, fun t v hl => h.at_ t v (hs.lk t v hl)⟩

/-- A slot whose value is known otherwise. -/
theorem Holds.cons (h : Holds n D a V) {t : Nat} {v u : Value} (hl : lk V t = some v) (e : v = u) : Holds n D a ((t, u) :: V) := by
  refine ⟨h.defers, h.size, fun s x hx => ?_⟩
  simp only [lk] at hx
  cases hs : Nat.beq t s with
  | true =>
    rw [hs] at hx
    simp at hx
    have : t = s := by simpa using hs
    subst this; subst hx; subst e
    exact h.at_ _ _ hl
  | false =>
    rw [hs] at hx
    exact h.at_ s x (by simpa using hx)
end

/-! ### Memory -/
/-- What a map with integers as keys holds. -/
def mget (k : Int) : List MapEntry → Option Value
  | [] => none
  | e :: r => match e.key with
    | .int .i64 a => if a = k then some e.val else mget k r
    | _ => mget k r
def MapAt (w : World) (g : Nat) (f : Int → Option Value) : Prop := ∃ es clock, w.heap[g]? = some (.map es clock) ∧ (∀ e ∈ es.toList, ∃ a, e.key = .int .i64 a) ∧ ∀ k, mget k es.toList = f k

/-- What is known of memory: a block, whole; a map with integers as keys; or a slice of the call's own: its array's address, its elements of sz cells each. -/
inductive Ent where
  | blk (g : Nat) (o : Obj)
  | imap (g : Nat) (f : Int → Option Value)
  | row (A : Option Addr) (cap : Nat) (e : TypeId) (sz : Nat) (xs : List (Array Value))

def flat (xs : List (Array Value)) : List Value := xs.flatMap Array.toList

def Ent.blocks : Ent → List Nat
  | .blk g _ => [g]
  | .imap g _ => [g]
  | .row A _ _ _ _ => (A.map Addr.block).toList

def Ent.sat (w : World) : Ent → Prop
  | .blk g o => w.heap[g]? = some o
  | .imap g f => MapAt w g f
  | .row A cap e sz xs => w.ownsRow 0 e sz (.slice A xs.length cap) xs.length (flat xs) ∧ ∀ c ∈ xs, c.size = sz ∧ ∀ u ∈ c.toList, u.oneCell' = true

theorem Ent.lt {w : World} {p : Ent} (h : p.sat w) {b : Nat} (hb : b ∈ p.blocks) : b < w.heap.size := by
  cases p with
  | blk g o =>
    obtain rfl : b = g := by simpa [Ent.blocks] using hb
    exact (Array.getElem?_eq_some_iff.1 h).1
  | imap g f =>
    obtain rfl : b = g := by simpa [Ent.blocks] using hb
    obtain ⟨es, clock, h, _⟩ := h
    exact (Array.getElem?_eq_some_iff.1 h).1
  | row A cap e sz xs =>
    obtain ⟨h, _⟩ := h
    cases A with
    | none => simp [Ent.blocks] at hb
    | some a =>
      obtain rfl : b = a.block := by simpa [Ent.blocks] using hb
      exact (h.lt a.block (by simp [Value.ownBlock])).2

theorem Ent.keep {w w' : World} {p : Ent} (h : p.sat w) (hk : ∀ b ∈ p.blocks, w'.heap[b]? = w.heap[b]?) : p.sat w' := by
  cases p with
  | blk g o =>
    show w'.heap[g]? = some o
    rw [hk g (by simp [Ent.blocks])]; exact h
  | imap g f =>
    obtain ⟨es, clock, h, h1, h2⟩ := h
    exact ⟨es, clock, by rw [hk g (by simp [Ent.blocks])]; exact h, h1, h2⟩
  | row A cap e sz xs =>
    obtain ⟨⟨h1, h2⟩, h3⟩ := h
    refine ⟨⟨h1, ?_⟩, h3⟩
    rcases h2 with h2 | ⟨g, c, cur, hv, hb, hg, r⟩
    · exact .inl h2
    · refine .inr ⟨g, c, cur, hv, hb, ?_, r⟩
      rw [hk g (by injection hv with hA; subst hA; simp [Ent.blocks])]
      exact hg

/-- The world w, seen from the world w0 in which the call began: below w0's size only the blocks O may have turned; what L says holds. -/
structure SL (w0 : World) (O : List Nat) (w : World) (L : List Ent) : Prop where
  os : w.os = w0.os
  tape : w.tape = w0.tape
  output : w.output = w0.output
  size : w0.heap.size ≤ w.heap.size
  same : ∀ k, k < w0.heap.size → k ∉ O → w.heap[k]? = w0.heap[k]?
  ents : ∀ p ∈ L, p.sat w
  nodup : (L.flatMap Ent.blocks).Nodup
  own : ∀ p ∈ L, ∀ b ∈ p.blocks, b ∈ O ∨ w0.heap.size ≤ b

theorem sublist_flatMap {α β : Type} (f : α → List β) {l l' : List α} (h : l'.Sublist l) : (l'.flatMap f).Sublist (l.flatMap f) := by
  induction h with
  | slnil => simp
  | cons a _ ih => rw [List.flatMap_cons]; exact ih.trans (List.sublist_append_right _ _)
  | cons_cons a _ ih => rw [List.flatMap_cons, List.flatMap_cons]; exact (List.Sublist.refl _).append ih
theorem perm_flatMap {α β : Type} (f : α → List β) {l l' : List α} (h : l.Perm l') : (l.flatMap f).Perm (l'.flatMap f) := by
  induction h with
  | nil => simp
  | cons a _ ih => rw [List.flatMap_cons, List.flatMap_cons]; exact ih.append_left _
  | swap a b l => simp only [List.flatMap_cons, ← List.append_assoc]; exact List.perm_append_comm.append_right _
  | trans _ _ ih1 ih2 => exact ih1.trans ih2

section
variable {w0 w w' : World} {O : List Nat} {L : List Ent}
theorem SL.refl (w : World) : SL w [] w [] := ⟨rfl, rfl, rfl, Nat.le_refl _, fun _ _ _ => rfl, by simp, by simp, by simp⟩

theorem SL.start (w : World) (L : List Ent) (h : ∀ p ∈ L, p.sat w) (hn : (L.flatMap Ent.blocks).Nodup) : SL w (L.flatMap Ent.blocks) w L :=
  ⟨rfl, rfl, rfl, Nat.le_refl _, fun _ _ _ => rfl, h, hn, fun p hp b hb => .inl (List.mem_flatMap.2 ⟨p, hp, hb⟩)⟩

theorem SL.lt {p : Ent} (h : SL w0 O w L) (hp : p ∈ L) {b : Nat} (hb : b ∈ p.blocks) : b < w.heap.size := Ent.lt (h.ents p hp) hb

theorem SL.drew (h : SL w0 O w L) (k : Nat) : SL w0 O { w with drawn := k } L := ⟨h.os, h.tape, h.output, h.size, h.same, fun p hp => Ent.keep (h.ents p hp) (fun _ _ => rfl), h.nodup, h.own⟩

theorem SL.sub (h : SL w0 O w L) {L' : List Ent} (hs : L'.Sublist L) : SL w0 O w L' :=
  ⟨h.os, h.tape, h.output, h.size, h.same, fun p hp => h.ents p (hs.subset hp), h.nodup.sublist (sublist_flatMap _ hs), fun p hp => h.own p (hs.subset hp)⟩

theorem SL.perm (h : SL w0 O w L) {L' : List Ent} (hs : L.Perm L') : SL w0 O w L' :=
  ⟨h.os, h.tape, h.output, h.size, h.same, fun p hp => h.ents p (hs.mem_iff.2 hp), (perm_flatMap _ hs).nodup_iff.1 h.nodup, fun p hp => h.own p (hs.mem_iff.2 hp)⟩

/-- What a callee has done: the caller's blocks among its own are handed back in L'. -/
theorem SL.call {O' : List Nat} {M R L' : List Ent} (h : SL w0 O w (M ++ R)) (hO : O' = M.flatMap Ent.blocks) (h' : SL w O' w' L') : SL w0 O w' (L' ++ R) := by
  subst hO
  have hnd := h.nodup
  rw [List.flatMap_append, List.nodup_append] at hnd
  have hR : ∀ p ∈ R, ∀ b ∈ p.blocks, b ∉ M.flatMap Ent.blocks := fun p hp b hb hm => hnd.2.2 _ hm _ (List.mem_flatMap.2 ⟨p, hp, hb⟩) rfl
  refine ⟨h'.os.trans h.os, h'.tape.trans h.tape, h'.output.trans h.output, Nat.le_trans h.size h'.size, ?_, ?_, ?_, ?_⟩
  · intro k hk hkO
    have hkM : k ∉ M.flatMap Ent.blocks := by
      intro hm
      obtain ⟨p, hp, hb⟩ := List.mem_flatMap.1 hm
      rcases h.own p (List.mem_append_left _ hp) k hb with h1 | h1
      · exact hkO h1
      · omega
    rw [h'.same k (Nat.lt_of_lt_of_le hk h.size) hkM, h.same k hk hkO]
  · intro p hp
    rcases List.mem_append.1 hp with hp | hp
    · exact h'.ents p hp
    · exact Ent.keep (h.ents p (List.mem_append_right _ hp)) (fun b hb => h'.same b (h.lt (List.mem_append_right _ hp) hb) (hR p hp b hb))
  · rw [List.flatMap_append, List.nodup_append]
    refine ⟨h'.nodup, hnd.2.1, ?_⟩
    intro k hk j hj e
    subst e
    obtain ⟨p, hp, hb⟩ := List.mem_flatMap.1 hk
    obtain ⟨q, hq, hqb⟩ := List.mem_flatMap.1 hj
    rcases h'.own p hp k hb with h1 | h1
    · exact hR q hq k hqb h1
    · have := h.lt (List.mem_append_right M hq) hqb; omega
  · intro p hp b hb
    rcases List.mem_append.1 hp with hp | hp
    · rcases h'.own p hp b hb with h1 | h1
      · obtain ⟨q, hq, hqb⟩ := List.mem_flatMap.1 h1
        exact h.own q (List.mem_append_left _ hq) b hqb
      · exact .inr (Nat.le_trans h.size h1)
    · exact h.own p (List.mem_append_right _ hp) b hb

/-- A new block. -/
theorem SL.alloc (h : SL w0 O w L) (o : Obj) : SL w0 O (w.alloc o) (.blk w.heap.size o :: L) := by
  refine ⟨h.os, h.tape, h.output, Nat.le_trans h.size (by simp), ?_, ?_, ?_, ?_⟩
  · intro k hk hkO
    rw [Below.heap_alloc w o k (Nat.lt_of_lt_of_le hk h.size), h.same k hk hkO]
  · intro p hp
    rcases List.mem_cons.1 hp with rfl | hp
    · exact heap_alloc_new w o
    · exact Ent.keep (h.ents p hp) (fun b hb => Below.heap_alloc w o b (h.lt hp hb))
  · rw [List.flatMap_cons, List.nodup_append]
    refine ⟨by simp [Ent.blocks], h.nodup, ?_⟩
    intro k hk j hj e
    subst e
    obtain ⟨q, hq, hqb⟩ := List.mem_flatMap.1 hj
    have := h.lt hq hqb
    have : k = w.heap.size := by simpa [Ent.blocks] using hk
    omega
  · intro p hp b hb
    rcases List.mem_cons.1 hp with rfl | hp
    · have : b = w.heap.size := by simpa [Ent.blocks] using hb
      subst this
      exact .inr h.size
    · exact h.own p hp b hb

/-- One entry of the list is put anew: its blocks stay, or are new ones. -/
theorem SL.set (h : SL w0 O w L) {A R : List Ent} {p p' : Ent} (hL : L = A ++ p :: R) (hos : w'.os = w.os) (ht : w'.tape = w.tape) (hou : w'.output = w.output)
    (hsz : w.heap.size ≤ w'.heap.size) (hp : p'.sat w') (hnd : p'.blocks.Nodup) (hbl : ∀ b ∈ p'.blocks, b ∈ p.blocks ∨ w.heap.size ≤ b) (hk : ∀ k, k < w.heap.size → k ∉ p.blocks → w'.heap[k]? = w.heap[k]?) : SL w0 O w' (A ++ p' :: R) := by
  subst hL
  have hmem : p ∈ A ++ p :: R := by simp
  have hn := h.nodup
  rw [List.flatMap_append, List.flatMap_cons, List.nodup_append, List.nodup_append] at hn
  obtain ⟨hA, ⟨_, hR, hpR⟩, hAR⟩ := hn
  have hqA : ∀ q ∈ A, ∀ b ∈ q.blocks, b ∉ p.blocks := fun q hq b hb hbp => hAR b (List.mem_flatMap.2 ⟨q, hq, hb⟩) b (List.mem_append_left _ hbp) rfl
  have hqR : ∀ q ∈ R, ∀ b ∈ q.blocks, b ∉ p.blocks := fun q hq b hb hbp => hpR b hbp b (List.mem_flatMap.2 ⟨q, hq, hb⟩) rfl
  have hltA : ∀ q ∈ A, ∀ b ∈ q.blocks, b < w.heap.size := fun q hq b hb => h.lt (List.mem_append_left _ hq) hb
  have hltR : ∀ q ∈ R, ∀ b ∈ q.blocks, b < w.heap.size := fun q hq b hb => h.lt (List.mem_append_right _ (List.mem_cons_of_mem _ hq)) hb
  refine ⟨hos.trans h.os, ht.trans h.tape, hou.trans h.output, Nat.le_trans h.size hsz, ?_, ?_, ?_, ?_⟩
  · intro k hkk hkO
    have : k ∉ p.blocks := by
      intro hb
      rcases h.own _ hmem k hb with h1 | h1
      · exact hkO h1
      · omega
    rw [hk k (Nat.lt_of_lt_of_le hkk h.size) this, h.same k hkk hkO]
  · intro q hq
    rcases List.mem_append.1 hq with hq | hq
    · exact Ent.keep (h.ents q (List.mem_append_left _ hq)) (fun b hb => hk b (hltA q hq b hb) (hqA q hq b hb))
    · rcases List.mem_cons.1 hq with rfl | hq
      · exact hp
      · exact Ent.keep (h.ents q (List.mem_append_right _ (List.mem_cons_of_mem _ hq))) (fun b hb => hk b (hltR q hq b hb) (hqR q hq b hb))
  · rw [List.flatMap_append, List.flatMap_cons, List.nodup_append, List.nodup_append]
    have out : ∀ (S : List Ent), (∀ q ∈ S, ∀ b ∈ q.blocks, b < w.heap.size) → (∀ q ∈ S, ∀ b ∈ q.blocks, b ∉ p.blocks) → ∀ b ∈ p'.blocks, b ∉ S.flatMap Ent.blocks := by
      intro S h1 h2 b hb hm
      obtain ⟨q, hq, hqb⟩ := List.mem_flatMap.1 hm
      rcases hbl b hb with h3 | h3
      · exact h2 q hq b hqb h3
      · have := h1 q hq b hqb; omega
    refine ⟨hA, ⟨hnd, hR, ?_⟩, ?_⟩
    · intro b hb c hc e
      subst e
      exact out R hltR hqR b hb hc
    · intro b hb c hc e
      subst e
      rcases List.mem_append.1 hc with hc | hc
      · exact out A hltA hqA b hc hb
      · exact hAR b hb b (List.mem_append_right _ hc) rfl
  · intro q hq b hb
    rcases List.mem_append.1 hq with hq | hq
    · exact h.own q (List.mem_append_left _ hq) b hb
    · rcases List.mem_cons.1 hq with rfl | hq
      · rcases hbl b hb with h3 | h3
        · exact h.own p hmem b h3
        · exact .inr (Nat.le_trans h.size h3)
      · exact h.own q (List.mem_append_right _ (List.mem_cons_of_mem _ hq)) b hb

theorem SL.below (h : SL w0 [] w L) : Below w0.heap.size w0 w := ⟨h.os, h.tape, h.output, h.size, fun k hk => h.same k hk (by simp)⟩
theorem SL.cell0 (h : SL w0 O w L) {p : Addr} (hp : p.block < w0.heap.size) (hO : p.block ∉ O) : w.cell? p = w0.cell? p := World.cell?_of_block (h.same _ hp hO)
end

/-! ### One operation -/
/-- What an operation does, without a panic: the next state is one of K. -/
def Does (P : Program) (o : Oper) (a : Act) (w : World) (K : Act → World → Prop) : Prop :=
  match (execOp a.eval o).run P w with
  | .ok (.value v) w' => K (a.put o.dst v) w'
  | .ok .skip w' => K (a.put o.dst undef) w'
  | .ok (.enter f args) w' => CallsIn Fence.wide 0 P f args w' fun e w'' => ∃ v, e = .returned v ∧ K (a.put o.dst v) w''
  | .ok (.round l f tmps asg body) w' => RoundIn Fence.wide 0 P l f tmps asg body w' fun e w'' => ∃ v, e = .returned v ∧ K (a.put o.dst v) w''
  | _ => False

/-- The fences used here: none; in a round or not. -/
@[reducible] def FW (r : Option Nat) : Fence := { Fence.wide with round := r }
theorem FW_wide : FW none = Fence.wide := rfl

def notDefer : Op → Bool
  | .defer _ => false
  | _ => true
theorem notDefer_spec {op : Op} (h : notDefer op = true) : ∀ c, op ≠ .defer c := by
  intro c e; subst e; simp [notDefer] at h

theorem semAt_FW {r : Option Nat} {ρ : Operand → Value} {o : Oper} (h : notDefer o.op = true) : o.semAt (FW r).round ρ = execOp ρ o := by
  cases r with
  | none => simp [Oper.semAt_none]
  | some l => exact Oper.semAt_some l ρ o (notDefer_spec h)

theorem Does.mono {P : Program} {o : Oper} {a : Act} {w : World} {K K' : Act → World → Prop} (h : Does P o a w K) (hk : ∀ a w, K a w → K' a w) : Does P o a w K' := by
  unfold Does at *
  generalize (execOp a.eval o).run P w = r at *
  cases r with
  | ok x w' =>
    cases x <;> simp only at h ⊢ <;>
      first
        | exact hk _ _ h
        | exact CallsIn.mono h (fun e w'' ⟨v, he, hv⟩ => ⟨v, he, hk _ _ hv⟩)
        | exact RoundIn.mono h (fun e w'' ⟨v, he, hv⟩ => ⟨v, he, hk _ _ hv⟩)
        | exact h
  | halt x w' => exact h

theorem Does.wpIn {P : Program} {o : Oper} {a : Act} {w : World} {K : Act → World → Prop} {Q : Exit → Act → World → Prop} {r : Option Nat} (hd : notDefer o.op = true) (h : Does P o a w K) : o.wpIn (FW r) 0 P a w K Q := by
  refine ⟨fun _ _ => trivial, ?_⟩
  rw [semAt_FW hd]
  unfold Does at h
  generalize (execOp a.eval o).run P w = x at *
  cases x with
  | ok x w' =>
    cases x <;> simp only [Oper.uponIn] at h ⊢ <;>
      first
        | exact h
        | exact ⟨fun hh => by simp [Fence.wide] at hh, CallsIn.mono h (fun e w'' ⟨v, he, hv⟩ => by subst he; exact hv)⟩
        | exact ⟨fun hh => by simp [Fence.wide] at hh, RoundIn.mono h (fun e w'' ⟨v, he, hv⟩ => by subst he; exact hv)⟩
        | exact h.elim
  | halt x w' => exact h.elim

/-- An operation from every state (V, L): the next states are states of T. -/
def OpS (P : Program) (w0 : World) (O : List Nat) (n : Nat) (D : List Deferred) (o : Oper) (V : List (Nat × Value)) (L : List Ent) (T : List (Nat × Value) → List Ent → Prop) : Prop :=
  ∀ a w, Holds n D a V → SL w0 O w L → Does P o a w fun a' w' => ∃ V' L', T V' L' ∧ Holds n D a' V' ∧ SL w0 O w' L'

/-- An operation that leaves the world alone and yields v. -/
def Yld (P : Program) (w0 : World) (O : List Nat) (n : Nat) (D : List Deferred) (o : Oper) (V : List (Nat × Value)) (L : List Ent) (v : Value) : Prop :=
  ∀ a w, Holds n D a V → SL w0 O w L → (execOp a.eval o).run P w = .ok (.value v) w

section
variable {P : Program} {w0 : World} {O : List Nat} {n : Nat} {D : List Deferred} {o : Oper} {V : List (Nat × Value)} {L : List Ent} {T : List (Nat × Value) → List Ent → Prop}
theorem op_yld {v : Value} {d : Nat} (h : Yld P w0 O n D o V L v) (ho : o.dst = some d) (hd : Nat.blt d n = true) (hT : T ((d, v) :: V) L) : OpS P w0 O n D o V L T := by
  intro a w ha hw
  unfold Does
  rw [h a w ha hw]
  rw [ho]
  exact ⟨_, _, hT, ha.put hd v, hw⟩
end

/-! ### Plain regions -/
section
variable {P : Program} {r : Option Nat} {ops : Array Oper} {Q : Exit → Act → World → Prop} {w0 : World} {O : List Nat} {n : Nat} {D : List Deferred}

/-- The operations l of a region from (V, L). -/
def RX (P : Program) (r : Option Nat) (ops : Array Oper) (Q : Exit → Act → World → Prop) (w0 : World) (O : List Nat) (n : Nat) (D : List Deferred) (l : List Oper) (V : List (Nat × Value)) (L : List Ent) : Prop :=
  ∀ a w, Holds n D a V → SL w0 O w L → wpListIn (FW r) 0 P ops Q l a w

/-- A code from (V, L). -/
def CX (P : Program) (r : Option Nat) (Q : Exit → Act → World → Prop) (w0 : World) (O : List Nat) (n : Nat) (D : List Deferred) (c : Code) (V : List (Nat × Value)) (L : List Ent) : Prop :=
  ∀ a w, Holds n D a V → SL w0 O w L → c.wpIn (FW r) 0 P Q a w

/-- A way out, at (V, L). -/
def XX (Q : Exit → Act → World → Prop) (w0 : World) (O : List Nat) (n : Nat) (D : List Deferred) (e : Exit) (V : List (Nat × Value)) (L : List Ent) : Prop :=
  ∀ a w, Holds n D a V → SL w0 O w L → Q e a w

variable {V : List (Nat × Value)} {L : List Ent} {o : Oper} {rest : List Oper}

theorem RX.cons (hg : o.guard = none) (hd : notDefer o.op = true) (h : OpS P w0 O n D o V L (RX P r ops Q w0 O n D rest)) : RX P r ops Q w0 O n D (o :: rest) V L := by
  intro a w ha hw
  refine wpListIn_plain hg fun K hK => ?_
  exact Does.wpIn hd ((h a w ha hw).mono fun a' w' ⟨V', L', hT, ha', hw'⟩ => hK _ _ (hT a' w' ha' hw'))

/-- An operation under a guard that says yes. -/
theorem RX.consG {j : Nat} {b : Bool} {oj : Oper} {dj : Nat} (hg : o.guard = some (j, b)) (hj : ops[j]? = some oj) (hdj : oj.dst = some dj) (hv : lk V dj = some (.bool b)) (hd : notDefer o.op = true)
    (h : OpS P w0 O n D o V L (RX P r ops Q w0 O n D rest)) : RX P r ops Q w0 O n D (o :: rest) V L := by
  intro a w ha hw
  have hy : Region.wanted o (yielded ops a.tmps) = true := by
    have := ha.at_ _ _ hv
    simp [Region.wanted, hg, yielded, hj, hdj, this]
  refine wpListIn_step fun K hK => ?_
  rw [if_pos hy]
  exact Does.wpIn hd ((h a w ha hw).mono fun a' w' ⟨V', L', hT, ha', hw'⟩ => hK _ _ (hT a' w' ha' hw'))

theorem about_not_call {w : World} {ρ : Operand → Value} (h : ∀ c, o.op ≠ .call c) : o.about P w ρ = none := by
  unfold Oper.about
  cases ho : o.op <;> first | rfl | exact absurd ho (h _)

/-- An operation under a guard that says no is passed over. -/
theorem RX.skip {j : Nat} {b : Bool} {oj : Oper} {dj d : Nat} {u : Value} (hg : o.guard = some (j, b)) (hj : ops[j]? = some oj) (hdj : oj.dst = some dj) (hv : lk V dj = some u)
    (hu : (match u with | .bool c => c == b | _ => false) = false) (ho : o.dst = some d) (hd : Nat.blt d n = true) (h : RX P r ops Q w0 O n D rest ((d, undef) :: V) L) : RX P r ops Q w0 O n D (o :: rest) V L := by
  intro a w ha hw
  have hy : Region.wanted o (yielded ops a.tmps) = false := by
    have := ha.at_ _ _ hv
    simp only [Region.wanted, hg, yielded, hj, hdj, Option.bind_some, this]
    cases u <;> simp_all
  simp only [wpListIn, hy, Bool.false_eq_true, if_false]
  refine ⟨fun _ _ => trivial, ?_⟩
  rw [ho]
  exact h _ _ (ha.put hd undef) hw

/-- A slot holds an undecided Bool: two ways. -/
theorem RX.split {t : Nat} {b : Bool} {l : List Oper} (hv : lk V t = some (.bool b)) (ht : b = true → RX P r ops Q w0 O n D l ((t, .bool true) :: V) L) (hf : b = false → RX P r ops Q w0 O n D l ((t, .bool false) :: V) L) : RX P r ops Q w0 O n D l V L := by
  intro a w ha hw
  cases b with
  | true => exact ht rfl a w (ha.cons hv rfl) hw
  | false => exact hf rfl a w (ha.cons hv rfl) hw

theorem RX.splitD {t : Nat} {p : Prop} [Decidable p] {l : List Oper} (hv : lk V t = some (.bool (decide p))) (ht : p → RX P r ops Q w0 O n D l ((t, .bool true) :: V) L) (hf : ¬ p → RX P r ops Q w0 O n D l ((t, .bool false) :: V) L) : RX P r ops Q w0 O n D l V L :=
  RX.split hv (fun h => ht (of_decide_eq_true h)) (fun h => hf (of_decide_eq_false h))

/-- A slot's value, known otherwise. -/
theorem RX.know {t : Nat} {v u : Value} {l : List Oper} (hv : lk V t = some v) (e : v = u) (h : RX P r ops Q w0 O n D l ((t, u) :: V) L) : RX P r ops Q w0 O n D l V L :=
  fun a w ha hw => h a w (ha.cons hv e) hw
theorem CX.know {t : Nat} {v u : Value} {c : Code} (hv : lk V t = some v) (e : v = u) (h : CX P r Q w0 O n D c ((t, u) :: V) L) : CX P r Q w0 O n D c V L :=
  fun a w ha hw => h a w (ha.cons hv e) hw
theorem CX.sub {c : Code} {V' : List (Nat × Value)} (hs : Sub V V') (h : CX P r Q w0 O n D c V' L) : CX P r Q w0 O n D c V L :=
  fun a w ha hw => h a w (ha.sub hs) hw
theorem CX.drop {c : Code} {L' : List Ent} (hs : L'.Sublist L) (h : CX P r Q w0 O n D c V L') : CX P r Q w0 O n D c V L :=
  fun a w ha hw => h a w ha (hw.sub hs)
theorem CX.perm {c : Code} {L' : List Ent} (hs : L.Perm L') (h : CX P r Q w0 O n D c V L') : CX P r Q w0 O n D c V L :=
  fun a w ha hw => h a w ha (hw.perm hs)

theorem RX.nil (h : XX Q w0 O n D .normal V L) : RX P r ops Q w0 O n D [] V L := fun a w ha hw => wpListIn_nil (h a w ha hw)

theorem CX.region {id : Nat} {l : List Oper} (h : RX P r l.toArray Q w0 O n D l V L) : CX P r Q w0 O n D (.region id l.toArray false) V L :=
  fun a w ha hw => wpIn_region_lit (h a w ha hw)
theorem CX.seq {x y : Code} (h : CX P r (Exit.then (y.wpIn (FW r) 0 P Q) Q) w0 O n D x V L) : CX P r Q w0 O n D (.seq x y) V L :=
  fun a w ha hw => wpIn_seq (h a w ha hw)
theorem CX.block {id : Nat} {c : Code} (h : CX P r (Exit.inBlock id Q) w0 O n D c V L) : CX P r Q w0 O n D (.block id c) V L :=
  fun a w ha hw => wpIn_block (h a w ha hw)
theorem CX.skip (h : XX Q w0 O n D .normal V L) : CX P r Q w0 O n D .skip V L := fun a w ha hw => wpIn_skip (h a w ha hw)
theorem CX.label {l : Nat} (h : XX Q w0 O n D .normal V L) : CX P r Q w0 O n D (.label l) V L := fun a w ha hw => wpIn_label (h a w ha hw)
theorem CX.exit {id : Nat} (h : XX Q w0 O n D (.exit id) V L) : CX P r Q w0 O n D (.exit id) V L := fun a w ha hw => wpIn_exit (h a w ha hw)
theorem CX.ret (h : XX Q w0 O n D .ret V L) : CX P r Q w0 O n D .ret V L := fun a w ha hw => wpIn_ret (h a w ha hw)
theorem CX.cond {c : Operand} {x y : Code} {b : Bool} (hv : ev V c = some (.bool b)) (ht : b = true → CX P r Q w0 O n D x V L) (hf : b = false → CX P r Q w0 O n D y V L) : CX P r Q w0 O n D (.cond c x y) V L := by
  intro a w ha hw
  exact wpIn_cond_split (ha.eval hv) (fun e => ht e a w ha hw) (fun e => hf e a w ha hw)
theorem CX.condD {c : Operand} {x y : Code} {p : Prop} [Decidable p] (hv : ev V c = some (.bool (decide p))) (ht : p → CX P r Q w0 O n D x V L) (hf : ¬ p → CX P r Q w0 O n D y V L) : CX P r Q w0 O n D (.cond c x y) V L :=
  CX.cond hv (fun h => ht (of_decide_eq_true h)) (fun h => hf (of_decide_eq_false h))
theorem CX.condT {c : Operand} {x y : Code} (hv : ev V c = some (.bool true)) (h : CX P r Q w0 O n D x V L) : CX P r Q w0 O n D (.cond c x y) V L := CX.cond hv (fun _ => h) (fun e => by cases e)
theorem CX.condF {c : Operand} {x y : Code} (hv : ev V c = some (.bool false)) (h : CX P r Q w0 O n D y V L) : CX P r Q w0 O n D (.cond c x y) V L := CX.cond hv (fun e => by cases e) (fun _ => h)

/-! ### Ways out -/
theorem XX.next {y : Code} {V' : List (Nat × Value)} (hs : Sub V V') (h : CX P r Q w0 O n D y V' L) : XX (Exit.then (y.wpIn (FW r) 0 P Q) Q) w0 O n D .normal V L :=
  fun a w ha hw => h a w (ha.sub hs) hw
theorem XX.inBlock {id : Nat} {V' : List (Nat × Value)} (hs : Sub V V') (h : XX Q w0 O n D .normal V' L) : XX (Exit.inBlock id Q) w0 O n D .normal V L :=
  fun a w ha hw => h a w (ha.sub hs) hw
theorem XX.then_exit {K : Act → World → Prop} {id : Nat} (h : XX Q w0 O n D (.exit id) V L) : XX (Exit.then K Q) w0 O n D (.exit id) V L := fun a w ha hw => h a w ha hw
theorem XX.then_ret {K : Act → World → Prop} (h : XX Q w0 O n D .ret V L) : XX (Exit.then K Q) w0 O n D .ret V L := fun a w ha hw => h a w ha hw
theorem XX.block_ret {id : Nat} (h : XX Q w0 O n D .ret V L) : XX (Exit.inBlock id Q) w0 O n D .ret V L := fun a w ha hw => h a w ha hw
theorem XX.block_exit {id : Nat} (h : XX Q w0 O n D .normal V L) : XX (Exit.inBlock id Q) w0 O n D (.exit id) V L :=
  fun a w ha hw => by show Exit.inBlock id Q (.exit id) a w; simp only [Exit.inBlock, if_true]; exact h a w ha hw
theorem XX.block_pass {id id' : Nat} (he : Nat.beq id' id = false) (h : XX Q w0 O n D (.exit id') V L) : XX (Exit.inBlock id Q) w0 O n D (.exit id') V L :=
  fun a w ha hw => by
    show Exit.inBlock id Q (.exit id') a w
    have : ¬ (id' = id) := fun e => by rw [e] at he; simp at he
    simp only [Exit.inBlock, this, if_false]; exact h a w ha hw
theorem XX.imp {e : Exit} {Q' : Exit → Act → World → Prop} (h : XX Q w0 O n D e V L) (hq : ∀ a w, Q e a w → Q' e a w) : XX Q' w0 O n D e V L := fun a w ha hw => hq a w (h a w ha hw)

/-! ### Loops: the state of a round is a value x of a type σ -/
/-- Once more round, with a smaller measure. -/
def Again {σ : Type} (Vx : σ → List (Nat × Value)) (Lx : σ → List Ent) (I : σ → Prop) (m : σ → Nat) (w0 : World) (O : List Nat) (n : Nat) (D : List Deferred) (k : Nat) (a : Act) (w : World) : Prop :=
  ∃ j, j < k ∧ ∃ x, m x = j ∧ I x ∧ Holds n D a (Vx x) ∧ SL w0 O w (Lx x)

theorem CX.loop {σ : Type} (Vx : σ → List (Nat × Value)) (Lx : σ → List Ent) (I : σ → Prop) (m : σ → Nat) (x0 : σ) {body : Code} (h0 : I x0) (hV : Sub V (Vx x0)) (hL : L = Lx x0)
    (round : ∀ x, I x → CX P r (Exit.then (Again Vx Lx I m w0 O n D (m x)) Q) w0 O n D body (Vx x) (Lx x)) : CX P r Q w0 O n D (.loop body) V L := by
  intro a w ha hw
  subst hL
  refine wpIn_loop_ghost (fun k a w => ∃ x, m x = k ∧ I x ∧ Holds n D a (Vx x) ∧ SL w0 O w (Lx x)) (m x0) ⟨x0, rfl, h0, ha.sub hV, hw⟩ ?_
  rintro k a w ⟨x, rfl, hI, ha, hw⟩
  exact round x hI a w ha hw

theorem XX.again {σ : Type} {Vx : σ → List (Nat × Value)} {Lx : σ → List Ent} {I : σ → Prop} {m : σ → Nat} {k : Nat} (x : σ) (hm : m x < k) (hI : I x) (hV : Sub V (Vx x)) (hL : (Lx x).Sublist L) :
    XX (Exit.then (Again Vx Lx I m w0 O n D k) Q) w0 O n D .normal V L :=
  fun a w ha hw => ⟨m x, hm, x, rfl, hI, ha.sub hV, hw.sub hL⟩
end
end Go.Proofs.YtmndhiaaolfepaaDoor
