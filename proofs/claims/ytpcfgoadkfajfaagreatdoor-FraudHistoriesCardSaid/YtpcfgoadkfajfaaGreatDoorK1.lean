/- A calculus of symbolic frames and heaps over the model's weakest preconditions: frames as lists of slots, memory as a list of blocks. Nothing here knows a program. Regions that draw their order, in the calculus: an operation that only reads is taken first; the others are stepped through as they may come up. The operations, one rule each, over symbolic frames and heaps. -/
import Derived.WalkKit
import Derived.RangeFuncFrom
import Derived.RangeFuncIn
import Derived.RangeFuncMany
import Derived.OrdersIn
import Derived.TacticsIn
import Derived.Sort.LoopGhostIn
import Derived.Maps.AppendAt
import Derived.Lib.SliceRun
namespace Go.Proofs.YtpcfgoadkfajfaaGreatDoor
set_option linter.all false
open Go Go.RowKit

/-! ### Frames -/
/-- The slot's value: the first entry counts. -/
def lk : List (Nat × Value) → Nat → Option Value
  | [], _ => none
  | (k, v) :: r, t => bif Nat.beq k t then some v else lk r t

structure Holds (n : Nat) (D : List Deferred) (a : Act) (V : List (Nat × Value)) : Prop where
  defers : a.defers = D
  size : a.tmps.size = n
  at_ : ∀ t v, lk V t = some v → a.tmps[t]? = some v

def ev (V : List (Nat × Value)) : Operand → Option Value
  | .tmp t => lk V t
  | .const v => some v
  | .global g => some (.pointer (some ⟨g, 0, none⟩))
  | .func f => some (.func (.func f) #[] #[])

def evs (V : List (Nat × Value)) : List Operand → Option (List Value)
  | [] => some []
  | x :: r => match ev V x, evs V r with
    | some v, some vs => some (v :: vs)
    | _, _ => none

section
variable {n : Nat} {D : List Deferred} {a : Act} {V : List (Nat × Value)}
theorem Holds.eval (h : Holds n D a V) {x : Operand} {v : Value} (he : ev V x = some v) : a.eval x = v := by
  cases x with
  | tmp t =>
    have := h.at_ t v he
    simp [Act.eval, this]
  | const u => simpa [ev, Act.eval] using he
  | global g => simpa [ev, Act.eval] using he
  | func f => simpa [ev, Act.eval] using he

theorem Holds.evals (h : Holds n D a V) : ∀ {xs : List Operand} {vs : List Value}, evs V xs = some vs → xs.map a.eval = vs
  | [], vs, he => by simpa [evs] using he
  | x :: r, vs, he => by
    simp only [evs] at he
    split at he
    · rename_i v vs' h1 h2
      simp only [Option.some.injEq] at he
      subst he
      rw [List.map_cons, h.eval h1, h.evals h2]
    · cases he

theorem Holds.put (h : Holds n D a V) {d : Nat} (hd : Nat.blt d n = true) (v : Value) : Holds n D (a.put (some d) v) ((d, v) :: V) := by
  refine ⟨h.defers, by simp [Act.put, h.size], fun t u hl => ?_⟩
  have hdn : d < n := by simpa using hd
  simp only [lk] at hl
  by_cases e : d = t
  · subst e
    have : Nat.beq d d = true := by simp
    rw [this] at hl
    simp at hl
    subst hl
    simp [Act.put, h.size, hdn]
  · have : Nat.beq d t = false := by cases hb : Nat.beq d t with
      | false => rfl
      | true => exact absurd (Nat.eq_of_beq_eq_true hb) e
    rw [this] at hl
    simp only [cond_false] at hl
    have := h.at_ t u hl
    simp [Act.put, Array.getElem?_setIfInBounds_ne e, this]

/-- Every entry of V' is one of V. -/
@[reducible] def Sub (V : List (Nat × Value)) : List (Nat × Value) → Prop
  | [] => True
  | (k, v) :: r => lk V k = some v ∧ Sub V r

theorem Sub.lk {V : List (Nat × Value)} : ∀ {V' : List (Nat × Value)}, Sub V V' → ∀ t v, YtpcfgoadkfajfaaGreatDoor.lk V' t = some v → YtpcfgoadkfajfaaGreatDoor.lk V t = some v
  | [], _, t, v, h => by simp [YtpcfgoadkfajfaaGreatDoor.lk] at h
  | (k, u) :: r, hs, t, v, h => by
    simp only [YtpcfgoadkfajfaaGreatDoor.lk] at h
    cases e : Nat.beq k t with
    | true =>
      rw [e] at h
      simp at h
      have : k = t := by simpa using e
      subst this; subst h
      exact hs.1
    | false =>
      rw [e] at h
      exact hs.2.lk t v (by simpa using h)

theorem Holds.sub (h : Holds n D a V) {V' : List (Nat × Value)} (hs : Sub V V') : Holds n D a V' :=
  ⟨h.defers, h.size, fun t v hl => h.at_ t v (hs.lk t v hl)⟩

/-- A slot whose value is known otherwise. -/
theorem Holds.cons (h : Holds n D a V) {t : Nat} {v u : Value} (hl : lk V t = some v) (e : v = u) : Holds n D a ((t, u) :: V) := by
  refine ⟨h.defers, h.size, fun s x hx => ?_⟩
  simp only [lk] at hx
  cases hs : Nat.beq t s with
  | true =>
    rw [hs] at hx
    simp at hx
    have : t = s := by simpa using hs
    subst this; subst hx; subst e
    exact h.at_ _ _ hl
  | false =>
    rw [hs] at hx
    exact h.at_ s x (by simpa using hx)
end

/-! ### Memory -/
/-- What a map with integers as keys holds. -/
def mget (k : Int) : List MapEntry → Option Value
  | [] => none
  | e :: r => match e.key with
    | .int .i64 a => if a = k then some e.val else mget k r
    | _ => mget k r
def MapAt (w : World) (g : Nat) (f : Int → Option Value) : Prop := ∃ es clock, w.heap[g]? = some (.map es clock) ∧ (∀ e ∈ es.toList, ∃ a, e.key = .int .i64 a) ∧ ∀ k, mget k es.toList = f k

/-- What is known of memory: a block, whole; a map with integers as keys; a slice of the call's own: its array's address, its elements of sz cells each; or whatever else hangs on the blocks bs alone. -/
inductive Ent where
  | blk (g : Nat) (o : Obj)
  | imap (g : Nat) (f : Int → Option Value)
  | row (A : Option Addr) (cap : Nat) (e : TypeId) (sz : Nat) (xs : List (Array Value))
  | gen (bs : List Nat) (φ : World → Prop) (hl : ∀ w, φ w → ∀ b ∈ bs, b < w.heap.size) (hk : ∀ w w', φ w → (∀ b ∈ bs, w'.heap[b]? = w.heap[b]?) → φ w')

def flat (xs : List (Array Value)) : List Value := xs.flatMap Array.toList

def Ent.blocks : Ent → List Nat
  | .blk g _ => [g]
  | .imap g _ => [g]
  | .row A _ _ _ _ => (A.map Addr.block).toList
  | .gen bs _ _ _ => bs

def Ent.sat (w : World) : Ent → Prop
  | .blk g o => w.heap[g]? = some o
  | .imap g f => MapAt w g f
  | .row A cap e sz xs => w.ownsRow 0 e sz (.slice A xs.length cap) xs.length (flat xs) ∧ ∀ c ∈ xs, c.size = sz ∧ ∀ u ∈ c.toList, u.oneCell' = true
  | .gen _ φ _ _ => φ w

theorem Ent.lt {w : World} {p : Ent} (h : p.sat w) {b : Nat} (hb : b ∈ p.blocks) : b < w.heap.size := by
  cases p with
  | blk g o =>
    obtain rfl : b = g := by simpa [Ent.blocks] using hb
    exact (Array.getElem?_eq_some_iff.1 h).1
  | imap g f =>
    obtain rfl : b = g := by simpa [Ent.blocks] using hb
    obtain ⟨es, clock, h, _⟩ := h
    exact (Array.getElem?_eq_some_iff.1 h).1
  | row A cap e sz xs =>
    obtain ⟨h, _⟩ := h
    cases A with
    | none => simp [Ent.blocks] at hb
    | some a =>
      obtain rfl : b = a.block := by simpa [Ent.blocks] using hb
      exact (h.lt a.block (by simp [Value.ownBlock])).2
  | gen bs φ hl hk => exact hl w h b hb

theorem Ent.keep {w w' : World} {p : Ent} (h : p.sat w) (hk : ∀ b ∈ p.blocks, w'.heap[b]? = w.heap[b]?) : p.sat w' := by
  cases p with
  | blk g o =>
    show w'.heap[g]? = some o
    rw [hk g (by simp [Ent.blocks])]; exact h
  | imap g f =>
    obtain ⟨es, clock, h, h1, h2⟩ := h
    exact ⟨es, clock, by rw [hk g (by simp [Ent.blocks])]; exact h, h1, h2⟩
  | row A cap e sz xs =>
    obtain ⟨⟨h1, h2⟩, h3⟩ := h
    refine ⟨⟨h1, ?_⟩, h3⟩
    rcases h2 with h2 | ⟨g, c, cur, hv, hb, hg, r⟩
    · exact .inl h2
    · refine .inr ⟨g, c, cur, hv, hb, ?_, r⟩
      rw [hk g (by injection hv with hA; subst hA; simp [Ent.blocks])]
      exact hg
  | gen bs φ hl hk' => exact hk' w w' h hk

/-- The world w, seen from the world w0 in which the call began: below w0's size only the blocks O may have turned; what L says holds. -/
structure SL (w0 : World) (O : List Nat) (w : World) (L : List Ent) : Prop where
  os : w.os = w0.os
  tape : w.tape = w0.tape
  output : w.output = w0.output
  size : w0.heap.size ≤ w.heap.size
  same : ∀ k, k < w0.heap.size → k ∉ O → w.heap[k]? = w0.heap[k]?
  ents : ∀ p ∈ L, p.sat w
  nodup : (L.flatMap Ent.blocks).Nodup
  own : ∀ p ∈ L, ∀ b ∈ p.blocks, b ∈ O ∨ w0.heap.size ≤ b

theorem sublist_flatMap {α β : Type} (f : α → List β) {l l' : List α} (h : l'.Sublist l) : (l'.flatMap f).Sublist (l.flatMap f) := by
  induction h with
  | slnil => simp
  | cons a _ ih => rw [List.flatMap_cons]; exact ih.trans (List.sublist_append_right _ _)
  | cons_cons a _ ih => rw [List.flatMap_cons, List.flatMap_cons]; exact (List.Sublist.refl _).append ih
theorem perm_flatMap {α β : Type} (f : α → List β) {l l' : List α} (h : l.Perm l') : (l.flatMap f).Perm (l'.flatMap f) := by
  induction h with
  | nil => simp
  | cons a _ ih => rw [List.flatMap_cons, List.flatMap_cons]; exact ih.append_left _
  | swap a b l => simp only [List.flatMap_cons, ← List.append_assoc]; exact List.perm_append_comm.append_right _
  | trans _ _ ih1 ih2 => exact ih1.trans ih2

section
variable {w0 w w' : World} {O : List Nat} {L : List Ent}
theorem SL.refl (w : World) : SL w [] w [] := ⟨rfl, rfl, rfl, Nat.le_refl _, fun _ _ _ => rfl, by simp, by simp, by simp⟩

theorem SL.start (w : World) (L : List Ent) (h : ∀ p ∈ L, p.sat w) (hn : (L.flatMap Ent.blocks).Nodup) : SL w (L.flatMap Ent.blocks) w L :=
  ⟨rfl, rfl, rfl, Nat.le_refl _, fun _ _ _ => rfl, h, hn, fun p hp b hb => .inl (List.mem_flatMap.2 ⟨p, hp, hb⟩)⟩

theorem SL.lt {p : Ent} (h : SL w0 O w L) (hp : p ∈ L) {b : Nat} (hb : b ∈ p.blocks) : b < w.heap.size := Ent.lt (h.ents p hp) hb

theorem SL.drew (h : SL w0 O w L) (k : Nat) : SL w0 O { w with drawn := k } L := ⟨h.os, h.tape, h.output, h.size, h.same, fun p hp => Ent.keep (h.ents p hp) (fun _ _ => rfl), h.nodup, h.own⟩

theorem SL.sub (h : SL w0 O w L) {L' : List Ent} (hs : L'.Sublist L) : SL w0 O w L' :=
  ⟨h.os, h.tape, h.output, h.size, h.same, fun p hp => h.ents p (hs.subset hp), h.nodup.sublist (sublist_flatMap _ hs), fun p hp => h.own p (hs.subset hp)⟩

theorem SL.perm (h : SL w0 O w L) {L' : List Ent} (hs : L.Perm L') : SL w0 O w L' :=
  ⟨h.os, h.tape, h.output, h.size, h.same, fun p hp => h.ents p (hs.mem_iff.2 hp), (perm_flatMap _ hs).nodup_iff.1 h.nodup, fun p hp => h.own p (hs.mem_iff.2 hp)⟩

/-- What a callee has done: the caller's blocks among its own are handed back in L'. -/
theorem SL.call {O' : List Nat} {M R L' : List Ent} (h : SL w0 O w (M ++ R)) (hO : O' = M.flatMap Ent.blocks) (h' : SL w O' w' L') : SL w0 O w' (L' ++ R) := by
  subst hO
  have hnd := h.nodup
  rw [List.flatMap_append, List.nodup_append] at hnd
  have hR : ∀ p ∈ R, ∀ b ∈ p.blocks, b ∉ M.flatMap Ent.blocks := fun p hp b hb hm => hnd.2.2 _ hm _ (List.mem_flatMap.2 ⟨p, hp, hb⟩) rfl
  refine ⟨h'.os.trans h.os, h'.tape.trans h.tape, h'.output.trans h.output, Nat.le_trans h.size h'.size, ?_, ?_, ?_, ?_⟩
  · intro k hk hkO
    have hkM : k ∉ M.flatMap Ent.blocks := by
      intro hm
      obtain ⟨p, hp, hb⟩ := List.mem_flatMap.1 hm
      rcases h.own p (List.mem_append_left _ hp) k hb with h1 | h1
      · exact hkO h1
      · omega
    rw [h'.same k (Nat.lt_of_lt_of_le hk h.size) hkM, h.same k hk hkO]
  · intro p hp
    rcases List.mem_append.1 hp with hp | hp
    · exact h'.ents p hp
    · exact Ent.keep (h.ents p (List.mem_append_right _ hp)) (fun b hb => h'.same b (h.lt (List.mem_append_right _ hp) hb) (hR p hp b hb))
  · rw [List.flatMap_append, List.nodup_append]
    refine ⟨h'.nodup, hnd.2.1, ?_⟩
    intro k hk j hj e
    subst e
    obtain ⟨p, hp, hb⟩ := List.mem_flatMap.1 hk
    obtain ⟨q, hq, hqb⟩ := List.mem_flatMap.1 hj
    rcases h'.own p hp k hb with h1 | h1
    · exact hR q hq k hqb h1
    · have := h.lt (List.mem_append_right M hq) hqb; omega
  · intro p hp b hb
    rcases List.mem_append.1 hp with hp | hp
    · rcases h'.own p hp b hb with h1 | h1
      · obtain ⟨q, hq, hqb⟩ := List.mem_flatMap.1 h1
        exact h.own q (List.mem_append_left _ hq) b hqb
      · exact .inr (Nat.le_trans h.size h1)
    · exact h.own p (List.mem_append_right _ hp) b hb

/-- A new block. -/
theorem SL.alloc (h : SL w0 O w L) (o : Obj) : SL w0 O (w.alloc o) (.blk w.heap.size o :: L) := by
  refine ⟨h.os, h.tape, h.output, Nat.le_trans h.size (by simp), ?_, ?_, ?_, ?_⟩
  · intro k hk hkO
    rw [Below.heap_alloc w o k (Nat.lt_of_lt_of_le hk h.size), h.same k hk hkO]
  · intro p hp
    rcases List.mem_cons.1 hp with rfl | hp
    · exact heap_alloc_new w o
    · exact Ent.keep (h.ents p hp) (fun b hb => Below.heap_alloc w o b (h.lt hp hb))
  · rw [List.flatMap_cons, List.nodup_append]
    refine ⟨by simp [Ent.blocks], h.nodup, ?_⟩
    intro k hk j hj e
    subst e
    obtain ⟨q, hq, hqb⟩ := List.mem_flatMap.1 hj
    have := h.lt hq hqb
    have : k = w.heap.size := by simpa [Ent.blocks] using hk
    omega
  · intro p hp b hb
    rcases List.mem_cons.1 hp with rfl | hp
    · have : b = w.heap.size := by simpa [Ent.blocks] using hb
      subst this
      exact .inr h.size
    · exact h.own p hp b hb

/-- One entry of the list is put anew: its blocks stay, or are new ones. -/
theorem SL.set (h : SL w0 O w L) {A R : List Ent} {p p' : Ent} (hL : L = A ++ p :: R) (hos : w'.os = w.os) (ht : w'.tape = w.tape) (hou : w'.output = w.output)
    (hsz : w.heap.size ≤ w'.heap.size) (hp : p'.sat w') (hnd : p'.blocks.Nodup) (hbl : ∀ b ∈ p'.blocks, b ∈ p.blocks ∨ w.heap.size ≤ b) (hk : ∀ k, k < w.heap.size → k ∉ p.blocks → w'.heap[k]? = w.heap[k]?) : SL w0 O w' (A ++ p' :: R) := by
  subst hL
  have hmem : p ∈ A ++ p :: R := by simp
  have hn := h.nodup
  rw [List.flatMap_append, List.flatMap_cons, List.nodup_append, List.nodup_append] at hn
  obtain ⟨hA, ⟨_, hR, hpR⟩, hAR⟩ := hn
  have hqA : ∀ q ∈ A, ∀ b ∈ q.blocks, b ∉ p.blocks := fun q hq b hb hbp => hAR b (List.mem_flatMap.2 ⟨q, hq, hb⟩) b (List.mem_append_left _ hbp) rfl
  have hqR : ∀ q ∈ R, ∀ b ∈ q.blocks, b ∉ p.blocks := fun q hq b hb hbp => hpR b hbp b (List.mem_flatMap.2 ⟨q, hq, hb⟩) rfl
  have hltA : ∀ q ∈ A, ∀ b ∈ q.blocks, b < w.heap.size := fun q hq b hb => h.lt (List.mem_append_left _ hq) hb
  have hltR : ∀ q ∈ R, ∀ b ∈ q.blocks, b < w.heap.size := fun q hq b hb => h.lt (List.mem_append_right _ (List.mem_cons_of_mem _ hq)) hb
  refine ⟨hos.trans h.os, ht.trans h.tape, hou.trans h.output, Nat.le_trans h.size hsz, ?_, ?_, ?_, ?_⟩
  · intro k hkk hkO
    have : k ∉ p.blocks := by
      intro hb
      rcases h.own _ hmem k hb with h1 | h1
      · exact hkO h1
      · omega
    rw [hk k (Nat.lt_of_lt_of_le hkk h.size) this, h.same k hkk hkO]
  · intro q hq
    rcases List.mem_append.1 hq with hq | hq
    · exact Ent.keep (h.ents q (List.mem_append_left _ hq)) (fun b hb => hk b (hltA q hq b hb) (hqA q hq b hb))
    · rcases List.mem_cons.1 hq with rfl | hq
      · exact hp
      · exact Ent.keep (h.ents q (List.mem_append_right _ (List.mem_cons_of_mem _ hq))) (fun b hb => hk b (hltR q hq b hb) (hqR q hq b hb))
  · rw [List.flatMap_append, List.flatMap_cons, List.nodup_append, List.nodup_append]
    have out : ∀ (S : List Ent), (∀ q ∈ S, ∀ b ∈ q.blocks, b < w.heap.size) → (∀ q ∈ S, ∀ b ∈ q.blocks, b ∉ p.blocks) → ∀ b ∈ p'.blocks, b ∉ S.flatMap Ent.blocks := by
      intro S h1 h2 b hb hm
      obtain ⟨q, hq, hqb⟩ := List.mem_flatMap.1 hm
      rcases hbl b hb with h3 | h3
      · exact h2 q hq b hqb h3
      · have := h1 q hq b hqb; omega
    refine ⟨hA, ⟨hnd, hR, ?_⟩, ?_⟩
    · intro b hb c hc e
      subst e
      exact out R hltR hqR b hb hc
    · intro b hb c hc e
      subst e
      rcases List.mem_append.1 hc with hc | hc
      · exact out A hltA hqA b hc hb
      · exact hAR b hb b (List.mem_append_right _ hc) rfl
  · intro q hq b hb
    rcases List.mem_append.1 hq with hq | hq
    · exact h.own q (List.mem_append_left _ hq) b hb
    · rcases List.mem_cons.1 hq with rfl | hq
      · rcases hbl b hb with h3 | h3
        · exact h.own p hmem b h3
        · exact .inr (Nat.le_trans h.size h3)
      · exact h.own q (List.mem_append_right _ (List.mem_cons_of_mem _ hq)) b hb

theorem SL.below (h : SL w0 [] w L) : Below w0.heap.size w0 w := ⟨h.os, h.tape, h.output, h.size, fun k hk => h.same k hk (by simp)⟩
theorem SL.cell0 (h : SL w0 O w L) {p : Addr} (hp : p.block < w0.heap.size) (hO : p.block ∉ O) : w.cell? p = w0.cell? p := World.cell?_of_block (h.same _ hp hO)
end

/-! ### One operation -/
/-- What an operation does, without a panic: the next state is one of K. -/
def Does (P : Program) (o : Oper) (a : Act) (w : World) (K : Act → World → Prop) : Prop :=
  match (execOp a.eval o).run P w with
  | .ok (.value v) w' => K (a.put o.dst v) w'
  | .ok .skip w' => K (a.put o.dst undef) w'
  | .ok (.enter f args) w' => CallsIn Fence.wide 0 P f args w' fun e w'' => ∃ v, e = .returned v ∧ K (a.put o.dst v) w''
  | .ok (.round l f tmps asg body) w' => RoundIn Fence.wide 0 P l f tmps asg body w' fun e w'' => ∃ v, e = .returned v ∧ K (a.put o.dst v) w''
  | _ => False

/-- The fences used here: none; in a round or not. -/
@[reducible] def FW (r : Option Nat) : Fence := { Fence.wide with round := r }
theorem FW_wide : FW none = Fence.wide := rfl

def notDefer : Op → Bool
  | .defer _ => false
  | _ => true
theorem notDefer_spec {op : Op} (h : notDefer op = true) : ∀ c, op ≠ .defer c := by
  intro c e; subst e; simp [notDefer] at h

theorem semAt_FW {r : Option Nat} {ρ : Operand → Value} {o : Oper} (h : notDefer o.op = true) : o.semAt (FW r).round ρ = execOp ρ o := by
  cases r with
  | none => simp [Oper.semAt_none]
  | some l => exact Oper.semAt_some l ρ o (notDefer_spec h)

theorem Does.mono {P : Program} {o : Oper} {a : Act} {w : World} {K K' : Act → World → Prop} (h : Does P o a w K) (hk : ∀ a w, K a w → K' a w) : Does P o a w K' := by
  unfold Does at *
  generalize (execOp a.eval o).run P w = r at *
  cases r with
  | ok x w' =>
    cases x <;> simp only at h ⊢ <;>
      first
        | exact hk _ _ h
        | exact CallsIn.mono h (fun e w'' ⟨v, he, hv⟩ => ⟨v, he, hk _ _ hv⟩)
        | exact RoundIn.mono h (fun e w'' ⟨v, he, hv⟩ => ⟨v, he, hk _ _ hv⟩)
        | exact h
  | halt x w' => exact h

theorem Does.wpIn {P : Program} {o : Oper} {a : Act} {w : World} {K : Act → World → Prop} {Q : Exit → Act → World → Prop} {r : Option Nat} (hd : notDefer o.op = true) (h : Does P o a w K) : o.wpIn (FW r) 0 P a w K Q := by
  refine ⟨fun _ _ => trivial, ?_⟩
  rw [semAt_FW hd]
  unfold Does at h
  generalize (execOp a.eval o).run P w = x at *
  cases x with
  | ok x w' =>
    cases x <;> simp only [Oper.uponIn] at h ⊢ <;>
      first
        | exact h
        | exact ⟨fun hh => by simp [Fence.wide] at hh, CallsIn.mono h (fun e w'' ⟨v, he, hv⟩ => by subst he; exact hv)⟩
        | exact ⟨fun hh => by simp [Fence.wide] at hh, RoundIn.mono h (fun e w'' ⟨v, he, hv⟩ => by subst he; exact hv)⟩
        | exact h.elim
  | halt x w' => exact h.elim

/-- An operation from every state (V, L): the next states are states of T. -/
def OpS (P : Program) (w0 : World) (O : List Nat) (n : Nat) (D : List Deferred) (o : Oper) (V : List (Nat × Value)) (L : List Ent) (T : List (Nat × Value) → List Ent → Prop) : Prop :=
  ∀ a w, Holds n D a V → SL w0 O w L → Does P o a w fun a' w' => ∃ V' L', T V' L' ∧ Holds n D a' V' ∧ SL w0 O w' L'

/-- An operation that leaves the world alone and yields v. -/
def Yld (P : Program) (w0 : World) (O : List Nat) (n : Nat) (D : List Deferred) (o : Oper) (V : List (Nat × Value)) (L : List Ent) (v : Value) : Prop :=
  ∀ a w, Holds n D a V → SL w0 O w L → (execOp a.eval o).run P w = .ok (.value v) w

section
variable {P : Program} {w0 : World} {O : List Nat} {n : Nat} {D : List Deferred} {o : Oper} {V : List (Nat × Value)} {L : List Ent} {T : List (Nat × Value) → List Ent → Prop}
theorem op_yld {v : Value} {d : Nat} (h : Yld P w0 O n D o V L v) (ho : o.dst = some d) (hd : Nat.blt d n = true) (hT : T ((d, v) :: V) L) : OpS P w0 O n D o V L T := by
  intro a w ha hw
  unfold Does
  rw [h a w ha hw]
  rw [ho]
  exact ⟨_, _, hT, ha.put hd v, hw⟩
end

/-! ### Plain regions -/
section
variable {P : Program} {r : Option Nat} {ops : Array Oper} {Q : Exit → Act → World → Prop} {w0 : World} {O : List Nat} {n : Nat} {D : List Deferred}

/-- The operations l of a region from (V, L). -/
def RX (P : Program) (r : Option Nat) (ops : Array Oper) (Q : Exit → Act → World → Prop) (w0 : World) (O : List Nat) (n : Nat) (D : List Deferred) (l : List Oper) (V : List (Nat × Value)) (L : List Ent) : Prop :=
  ∀ a w, Holds n D a V → SL w0 O w L → wpListIn (FW r) 0 P ops Q l a w

/-- A code from (V, L). -/
def CX (P : Program) (r : Option Nat) (Q : Exit → Act → World → Prop) (w0 : World) (O : List Nat) (n : Nat) (D : List Deferred) (c : Code) (V : List (Nat × Value)) (L : List Ent) : Prop :=
  ∀ a w, Holds n D a V → SL w0 O w L → c.wpIn (FW r) 0 P Q a w

/-- A way out, at (V, L). -/
def XX (Q : Exit → Act → World → Prop) (w0 : World) (O : List Nat) (n : Nat) (D : List Deferred) (e : Exit) (V : List (Nat × Value)) (L : List Ent) : Prop :=
  ∀ a w, Holds n D a V → SL w0 O w L → Q e a w

variable {V : List (Nat × Value)} {L : List Ent} {o : Oper} {rest : List Oper}

theorem RX.cons (hg : o.guard = none) (hd : notDefer o.op = true) (h : OpS P w0 O n D o V L (RX P r ops Q w0 O n D rest)) : RX P r ops Q w0 O n D (o :: rest) V L := by
  intro a w ha hw
  refine wpListIn_plain hg fun K hK => ?_
  exact Does.wpIn hd ((h a w ha hw).mono fun a' w' ⟨V', L', hT, ha', hw'⟩ => hK _ _ (hT a' w' ha' hw'))

/-- An operation under a guard that says yes. -/
theorem RX.consG {j : Nat} {b : Bool} {oj : Oper} {dj : Nat} (hg : o.guard = some (j, b)) (hj : ops[j]? = some oj) (hdj : oj.dst = some dj) (hv : lk V dj = some (.bool b)) (hd : notDefer o.op = true)
    (h : OpS P w0 O n D o V L (RX P r ops Q w0 O n D rest)) : RX P r ops Q w0 O n D (o :: rest) V L := by
  intro a w ha hw
  have hy : Region.wanted o (yielded ops a.tmps) = true := by
    have := ha.at_ _ _ hv
    simp [Region.wanted, hg, yielded, hj, hdj, this]
  refine wpListIn_step fun K hK => ?_
  rw [if_pos hy]
  exact Does.wpIn hd ((h a w ha hw).mono fun a' w' ⟨V', L', hT, ha', hw'⟩ => hK _ _ (hT a' w' ha' hw'))

theorem about_not_call {w : World} {ρ : Operand → Value} (h : ∀ c, o.op ≠ .call c) : o.about P w ρ = none := by
  unfold Oper.about
  cases ho : o.op <;> first | rfl | exact absurd ho (h _)

/-- An operation under a guard that says no is passed over. -/
theorem RX.skip {j : Nat} {b : Bool} {oj : Oper} {dj d : Nat} {u : Value} (hg : o.guard = some (j, b)) (hj : ops[j]? = some oj) (hdj : oj.dst = some dj) (hv : lk V dj = some u)
    (hu : (match u with | .bool c => c == b | _ => false) = false) (ho : o.dst = some d) (hd : Nat.blt d n = true) (h : RX P r ops Q w0 O n D rest ((d, undef) :: V) L) : RX P r ops Q w0 O n D (o :: rest) V L := by
  intro a w ha hw
  have hy : Region.wanted o (yielded ops a.tmps) = false := by
    have := ha.at_ _ _ hv
    simp only [Region.wanted, hg, yielded, hj, hdj, Option.bind_some, this]
    cases u <;> simp_all
  simp only [wpListIn, hy, Bool.false_eq_true, if_false]
  refine ⟨fun _ _ => trivial, ?_⟩
  rw [ho]
  exact h _ _ (ha.put hd undef) hw

/-- A slot holds an undecided Bool: two ways. -/
theorem RX.split {t : Nat} {b : Bool} {l : List Oper} (hv : lk V t = some (.bool b)) (ht : b = true → RX P r ops Q w0 O n D l ((t, .bool true) :: V) L) (hf : b = false → RX P r ops Q w0 O n D l ((t, .bool false) :: V) L) : RX P r ops Q w0 O n D l V L := by
  intro a w ha hw
  cases b with
  | true => exact ht rfl a w (ha.cons hv rfl) hw
  | false => exact hf rfl a w (ha.cons hv rfl) hw

theorem RX.splitD {t : Nat} {p : Prop} [Decidable p] {l : List Oper} (hv : lk V t = some (.bool (decide p))) (ht : p → RX P r ops Q w0 O n D l ((t, .bool true) :: V) L) (hf : ¬ p → RX P r ops Q w0 O n D l ((t, .bool false) :: V) L) : RX P r ops Q w0 O n D l V L :=
  RX.split hv (fun h => ht (of_decide_eq_true h)) (fun h => hf (of_decide_eq_false h))

/-- A slot's value, known otherwise. -/
theorem RX.know {t : Nat} {v u : Value} {l : List Oper} (hv : lk V t = some v) (e : v = u) (h : RX P r ops Q w0 O n D l ((t, u) :: V) L) : RX P r ops Q w0 O n D l V L :=
  fun a w ha hw => h a w (ha.cons hv e) hw
theorem CX.know {t : Nat} {v u : Value} {c : Code} (hv : lk V t = some v) (e : v = u) (h : CX P r Q w0 O n D c ((t, u) :: V) L) : CX P r Q w0 O n D c V L :=
  fun a w ha hw => h a w (ha.cons hv e) hw
theorem CX.sub {c : Code} {V' : List (Nat × Value)} (hs : Sub V V') (h : CX P r Q w0 O n D c V' L) : CX P r Q w0 O n D c V L :=
  fun a w ha hw => h a w (ha.sub hs) hw
theorem CX.drop {c : Code} {L' : List Ent} (hs : L'.Sublist L) (h : CX P r Q w0 O n D c V L') : CX P r Q w0 O n D c V L :=
  fun a w ha hw => h a w ha (hw.sub hs)
theorem CX.perm {c : Code} {L' : List Ent} (hs : L.Perm L') (h : CX P r Q w0 O n D c V L') : CX P r Q w0 O n D c V L :=
  fun a w ha hw => h a w ha (hw.perm hs)

theorem RX.nil (h : XX Q w0 O n D .normal V L) : RX P r ops Q w0 O n D [] V L := fun a w ha hw => wpListIn_nil (h a w ha hw)

theorem CX.region {id : Nat} {l : List Oper} (h : RX P r l.toArray Q w0 O n D l V L) : CX P r Q w0 O n D (.region id l.toArray false) V L :=
  fun a w ha hw => wpIn_region_lit (h a w ha hw)
theorem CX.seq {x y : Code} (h : CX P r (Exit.then (y.wpIn (FW r) 0 P Q) Q) w0 O n D x V L) : CX P r Q w0 O n D (.seq x y) V L :=
  fun a w ha hw => wpIn_seq (h a w ha hw)
theorem CX.block {id : Nat} {c : Code} (h : CX P r (Exit.inBlock id Q) w0 O n D c V L) : CX P r Q w0 O n D (.block id c) V L :=
  fun a w ha hw => wpIn_block (h a w ha hw)
theorem CX.skip (h : XX Q w0 O n D .normal V L) : CX P r Q w0 O n D .skip V L := fun a w ha hw => wpIn_skip (h a w ha hw)
theorem CX.label {l : Nat} (h : XX Q w0 O n D .normal V L) : CX P r Q w0 O n D (.label l) V L := fun a w ha hw => wpIn_label (h a w ha hw)
theorem CX.exit {id : Nat} (h : XX Q w0 O n D (.exit id) V L) : CX P r Q w0 O n D (.exit id) V L := fun a w ha hw => wpIn_exit (h a w ha hw)
theorem CX.ret (h : XX Q w0 O n D .ret V L) : CX P r Q w0 O n D .ret V L := fun a w ha hw => wpIn_ret (h a w ha hw)
theorem CX.cond {c : Operand} {x y : Code} {b : Bool} (hv : ev V c = some (.bool b)) (ht : b = true → CX P r Q w0 O n D x V L) (hf : b = false → CX P r Q w0 O n D y V L) : CX P r Q w0 O n D (.cond c x y) V L := by
  intro a w ha hw
  exact wpIn_cond_split (ha.eval hv) (fun e => ht e a w ha hw) (fun e => hf e a w ha hw)
theorem CX.condD {c : Operand} {x y : Code} {p : Prop} [Decidable p] (hv : ev V c = some (.bool (decide p))) (ht : p → CX P r Q w0 O n D x V L) (hf : ¬ p → CX P r Q w0 O n D y V L) : CX P r Q w0 O n D (.cond c x y) V L :=
  CX.cond hv (fun h => ht (of_decide_eq_true h)) (fun h => hf (of_decide_eq_false h))
theorem CX.condT {c : Operand} {x y : Code} (hv : ev V c = some (.bool true)) (h : CX P r Q w0 O n D x V L) : CX P r Q w0 O n D (.cond c x y) V L := CX.cond hv (fun _ => h) (fun e => by cases e)
theorem CX.condF {c : Operand} {x y : Code} (hv : ev V c = some (.bool false)) (h : CX P r Q w0 O n D y V L) : CX P r Q w0 O n D (.cond c x y) V L := CX.cond hv (fun e => by cases e) (fun _ => h)

/-! ### Ways out -/
theorem XX.next {y : Code} {V' : List (Nat × Value)} (hs : Sub V V') (h : CX P r Q w0 O n D y V' L) : XX (Exit.then (y.wpIn (FW r) 0 P Q) Q) w0 O n D .normal V L :=
  fun a w ha hw => h a w (ha.sub hs) hw
theorem XX.inBlock {id : Nat} {V' : List (Nat × Value)} (hs : Sub V V') (h : XX Q w0 O n D .normal V' L) : XX (Exit.inBlock id Q) w0 O n D .normal V L :=
  fun a w ha hw => h a w (ha.sub hs) hw
theorem XX.then_exit {K : Act → World → Prop} {id : Nat} (h : XX Q w0 O n D (.exit id) V L) : XX (Exit.then K Q) w0 O n D (.exit id) V L := fun a w ha hw => h a w ha hw
theorem XX.then_ret {K : Act → World → Prop} (h : XX Q w0 O n D .ret V L) : XX (Exit.then K Q) w0 O n D .ret V L := fun a w ha hw => h a w ha hw
theorem XX.block_ret {id : Nat} (h : XX Q w0 O n D .ret V L) : XX (Exit.inBlock id Q) w0 O n D .ret V L := fun a w ha hw => h a w ha hw
theorem XX.block_exit {id : Nat} (h : XX Q w0 O n D .normal V L) : XX (Exit.inBlock id Q) w0 O n D (.exit id) V L :=
  fun a w ha hw => by show Exit.inBlock id Q (.exit id) a w; simp only [Exit.inBlock, if_true]; exact h a w ha hw
theorem XX.block_pass {id id' : Nat} (he : Nat.beq id' id = false) (h : XX Q w0 O n D (.exit id') V L) : XX (Exit.inBlock id Q) w0 O n D (.exit id') V L :=
  fun a w ha hw => by
    show Exit.inBlock id Q (.exit id') a w
    have : ¬ (id' = id) := fun e => by rw [e] at he; simp at he
    simp only [Exit.inBlock, this, if_false]; exact h a w ha hw
theorem XX.imp {e : Exit} {Q' : Exit → Act → World → Prop} (h : XX Q w0 O n D e V L) (hq : ∀ a w, Q e a w → Q' e a w) : XX Q' w0 O n D e V L := fun a w ha hw => hq a w (h a w ha hw)

/-! ### Loops: the state of a round is a value x of a type σ -/
/-- Once more round, with a smaller measure. -/
def Again {σ : Type} (Vx : σ → List (Nat × Value)) (Lx : σ → List Ent) (I : σ → Prop) (m : σ → Nat) (w0 : World) (O : List Nat) (n : Nat) (D : List Deferred) (k : Nat) (a : Act) (w : World) : Prop :=
  ∃ j, j < k ∧ ∃ x, m x = j ∧ I x ∧ Holds n D a (Vx x) ∧ SL w0 O w (Lx x)

theorem CX.loop {σ : Type} (Vx : σ → List (Nat × Value)) (Lx : σ → List Ent) (I : σ → Prop) (m : σ → Nat) (x0 : σ) {body : Code} (h0 : I x0) (hV : Sub V (Vx x0)) (hL : L = Lx x0)
    (round : ∀ x, I x → CX P r (Exit.then (Again Vx Lx I m w0 O n D (m x)) Q) w0 O n D body (Vx x) (Lx x)) : CX P r Q w0 O n D (.loop body) V L := by
  intro a w ha hw
  subst hL
  refine wpIn_loop_ghost (fun k a w => ∃ x, m x = k ∧ I x ∧ Holds n D a (Vx x) ∧ SL w0 O w (Lx x)) (m x0) ⟨x0, rfl, h0, ha.sub hV, hw⟩ ?_
  rintro k a w ⟨x, rfl, hI, ha, hw⟩
  exact round x hI a w ha hw

theorem XX.again {σ : Type} {Vx : σ → List (Nat × Value)} {Lx : σ → List Ent} {I : σ → Prop} {m : σ → Nat} {k : Nat} (x : σ) (hm : m x < k) (hI : I x) (hV : Sub V (Vx x)) (hL : (Lx x).Sublist L) :
    XX (Exit.then (Again Vx Lx I m w0 O n D k) Q) w0 O n D .normal V L :=
  fun a w ha hw => ⟨m x, hm, x, rfl, hI, ha.sub hV, hw.sub hL⟩
end
end Go.Proofs.YtpcfgoadkfajfaaGreatDoor
namespace Go.Proofs.YtpcfgoadkfajfaaGreatDoor
set_option linter.all false
open Go Go.RowKit

section
variable {P : Program} {ops : Array Oper} {Q : Exit → Act → World → Prop} {S : World → Prop} {th : Nat}

/-- Operation number i comes up. -/
def StepD (P : Program) (ops : Array Oper) (i : Nat) (K : Act → World → Prop) (a : Act) (w : World) : Prop :=
  match ops[i]? with
  | none => K a w
  | some o => if Region.wanted o (yielded ops a.tmps) = true then notDefer o.op = true ∧ Does P o a w K else K (a.put o.dst undef) w

theorem StepD.mono {i : Nat} {K K' : Act → World → Prop} {a : Act} {w : World} (h : StepD P ops i K a w) (hk : ∀ a w, K a w → K' a w) : StepD P ops i K' a w := by
  unfold StepD at *
  split
  · exact hk _ _ (by simpa [*] using h)
  · rename_i o ho
    simp only [ho] at h
    split
    · rename_i hw; simp only [hw, if_true] at h; exact ⟨h.1, h.2.mono hk⟩
    · rename_i hw; simp only [hw] at h; exact hk _ _ h

theorem StepD.wpOpIn {r : Option Nat} {i : Nat} {K : Act → World → Prop} {a : Act} {w : World} (h : StepD P ops i K a w) : wpOpIn (FW r) 0 P ops Q i K a w := by
  unfold StepD at h
  unfold Go.wpOpIn
  split
  · simpa [*] using h
  · rename_i o ho
    simp only [ho] at h
    split
    · rename_i hw; simp only [hw, if_true] at h; exact Does.wpIn h.1 h.2
    · rename_i hw; simp only [hw] at h; exact ⟨fun _ _ => trivial, h⟩

/-- Whatever order is picked; until the operations from th on come up the world stays in S. -/
def wpAnyN (P : Program) (ops : Array Oper) (Q : Exit → Act → World → Prop) (S : World → Prop) (th : Nat) : Nat → Array Bool → Act → World → Prop
  | 0, listed, a, w => Region.ready .any ops listed = [] ∧ Q .normal a w
  | f + 1, listed, a, w =>
    (Region.ready .any ops listed = [] → Q .normal a w) ∧
    ∀ i ∈ Region.ready .any ops listed, StepD P ops i (fun a' w' => (i < th → S w → S w') ∧ wpAnyN P ops Q S th f (listed.setIfInBounds i true) a' w') a w

theorem wpAnyN.sound {r : Option Nat} : ∀ (fuel : Nat) (listed : Array Bool) (a : Act) (w : World), wpAnyN P ops Q S th fuel listed a w → wpAnyIn (FW r) 0 P .any ops Q fuel listed a w
  | 0, _, _, _, h => h
  | f + 1, _, _, _, h => ⟨h.1, fun i hi => StepD.wpOpIn ((h.2 i hi).mono fun a' w' hh => wpAnyN.sound f _ a' w' hh.2)⟩

/-- In every world of Si the operation yields v, here; or it is passed over. -/
def YieldsS (P : Program) (ops : Array Oper) (Si : World → Prop) (o : Oper) (v : Value) (a : Act) : Prop :=
  (Region.wanted o (yielded ops a.tmps) = true ∧ notDefer o.op = true ∧ ∀ w, Si w → (execOp a.eval o).run P w = .ok (.value v) w) ∨
  (Region.wanted o (yielded ops a.tmps) = false ∧ v = undef)

theorem YieldsS.same {Si : World → Prop} {o : Oper} {v : Value} {a a' : Act} (h : YieldsS P ops Si o v a) (he : execOp a'.eval o = execOp a.eval o)
    (hw : Region.wanted o (yielded ops a'.tmps) = Region.wanted o (yielded ops a.tmps)) : YieldsS P ops Si o v a' := by
  unfold YieldsS at *
  rw [he, hw]
  exact h

theorem YieldsS.stepD {Si : World → Prop} {i : Nat} {o : Oper} {v : Value} {a : Act} {w : World} (hi : ops[i]? = some o) (h : YieldsS P ops Si o v a) (hw : Si w) {K : Act → World → Prop} (hK : K (a.put o.dst v) w) : StepD P ops i K a w := by
  unfold StepD
  simp only [hi]
  rcases h with ⟨h1, h2, h3⟩ | ⟨h1, rfl⟩
  · rw [if_pos h1]
    refine ⟨h2, ?_⟩
    unfold Does
    rw [h3 w hw]
    exact hK
  · rw [if_neg (by rw [h1]; simp)]
    exact hK

theorem stepD_put {Si : World → Prop} {j : Nat} {oi oj : Oper} {v : Value} (hj : ops[j]? = some oj) (hap : oi.apart ops oj = true)
    (hsi : ∀ cs b, oi.op ≠ .select cs b) (hsj : ∀ cs b, oj.op ≠ .select cs b) {K : Act → World → Prop} {a : Act} {w : World}
    (hy : YieldsS P ops Si oi v a) (h : StepD P ops j K (a.put oi.dst v) w) : StepD P ops j (fun a' w' => YieldsS P ops Si oi v a' ∧ K (a'.put oi.dst v) w') a w := by
  obtain ⟨h1, h2, h3⟩ := Oper.apart_spec hap
  have keep : ∀ u, YieldsS P ops Si oi v (a.put oj.dst u) := fun u => hy.same (execOp_put oi hsi a oj.dst u h3) (wanted_put oi a oj.dst u h3)
  have comm : ∀ u, (a.put oi.dst v).put oj.dst u = (a.put oj.dst u).put oi.dst v := fun u => Act.put_comm a v u h2
  unfold StepD at *
  simp only [hj] at *
  rw [wanted_put oj a oi.dst v h1] at h
  split
  · rename_i hw
    simp only [hw, if_true] at h
    refine ⟨h.1, ?_⟩
    have hd := h.2
    unfold Does at hd ⊢
    rw [execOp_put oj hsj a oi.dst v h1] at hd
    generalize (execOp a.eval oj).run P w = r at *
    cases r with
    | ok x w' =>
      cases x <;> simp only at hd ⊢ <;>
        first
          | exact ⟨keep _, by rw [← comm]; exact hd⟩
          | exact CallsIn.mono hd (fun e w'' ⟨u, he, hu⟩ => ⟨u, he, keep _, by rw [← comm]; exact hu⟩)
          | exact RoundIn.mono hd (fun e w'' ⟨u, he, hu⟩ => ⟨u, he, keep _, by rw [← comm]; exact hu⟩)
          | exact hd
    | halt x w' => exact hd
  · rename_i hw
    simp only [hw] at h
    exact ⟨keep _, by rw [← comm]; exact h⟩

/-- What is listed waits for nothing. -/
def Closed (ops : Array Oper) (listed : Array Bool) : Prop :=
  ∀ j o, ops[j]? = some o → listed.getD j false = true → ∀ e ∈ o.after, Region.binds .any e = true → listed.getD e.on false = true

theorem Closed.set {listed : Array Bool} (h : Closed ops listed) {i : Nat} (hi : i ∈ Region.ready .any ops listed) : Closed ops (listed.setIfInBounds i true) := by
  obtain ⟨_, o, ho, hall⟩ := mem_ready.1 hi
  intro j oj hj hl e he hb
  by_cases hij : i = j
  · subst hij
    have : oj = o := Option.some.inj (hj.symm.trans ho)
    subst this
    exact getD_set_true (hall e he hb)
  · rw [getD_set_ne false hij] at hl
    exact getD_set_true (h j oj hj hl e he hb)

/-- t waits for i, by way of others or not. -/
def anc (ops : Array Oper) : Nat → Nat → Nat → Bool
  | 0, _, _ => false
  | k + 1, t, i => match ops[t]? with
    | some o => o.after.any (fun e => Region.binds .any e && e.on == i) || o.after.any (fun e => Region.binds .any e && anc ops k e.on i)
    | none => false

theorem anc_listed {listed : Array Bool} (hc : Closed ops listed) {i : Nat} : ∀ (k t : Nat), listed.getD t false = true → anc ops k t i = true → listed.getD i false = true
  | 0, _, _, h => by simp [anc] at h
  | k + 1, t, hl, h => by
    simp only [anc] at h
    split at h
    · rename_i o ho
      rcases Bool.or_eq_true_iff.1 h with h | h
      · obtain ⟨e, he, hb⟩ := Array.any_eq_true'.1 h
        simp only [Bool.and_eq_true, beq_iff_eq] at hb
        rw [← hb.2]
        exact hc t o ho hl e he hb.1
      · obtain ⟨e, he, hb⟩ := Array.any_eq_true'.1 h
        simp only [Bool.and_eq_true] at hb
        exact anc_listed hc k e.on (hc t o ho hl e he hb.1) hb.2
    · cases h

theorem anc_ready {listed : Array Bool} (hc : Closed ops listed) {i t k : Nat} (ht : t ∈ Region.ready .any ops listed) (h : anc ops k t i = true) : listed.getD i false = true := by
  obtain ⟨_, o, ho, hall⟩ := mem_ready.1 ht
  cases k with
  | zero => simp [anc] at h
  | succ k =>
    simp only [anc, ho] at h
    rcases Bool.or_eq_true_iff.1 h with h | h
    · obtain ⟨e, he, hb⟩ := Array.any_eq_true'.1 h
      simp only [Bool.and_eq_true, beq_iff_eq] at hb
      rw [← hb.2]
      exact hall e he hb.1
    · obtain ⟨e, he, hb⟩ := Array.any_eq_true'.1 h
      simp only [Bool.and_eq_true] at hb
      exact anc_listed hc k e.on (hall e he hb.1) hb.2

theorem wpAnyN_first {Si : World → Prop} {i : Nat} {oi : Oper} {v : Value} (hi : ops[i]? = some oi) (hsel : ∀ (j : Nat) (o : Oper) cs b, ops[j]? = some o → o.op ≠ .select cs b)
    (hS : ∀ listed, Closed ops listed → listed.getD i true = false → ∀ j ∈ Region.ready .any ops listed, ∀ w w', Si w → (j < th → S w → S w') → Si w') :
    ∀ (fuel : Nat) (listed : Array Bool) (a : Act) (w : World),
      (∀ j oj, ops[j]? = some oj → j ≠ i → listed.getD j true = false → (∀ e ∈ oj.after, Region.binds .any e = true → e.on ≠ i) → oi.apart ops oj = true) →
      Closed ops listed → i ∈ Region.ready .any ops listed → Si w → YieldsS P ops Si oi v a →
      wpAnyN P ops Q S th fuel (listed.setIfInBounds i true) (a.put oi.dst v) w → wpAnyN P ops Q S th (fuel + 1) listed a w := by
  intro fuel
  induction fuel with
  | zero =>
    intro listed a w _ _ hr hw hy H
    refine ⟨fun h => (by rw [h] at hr; cases hr), fun j hj => ?_⟩
    by_cases hji : j = i
    · subst hji; exact hy.stepD hi hw ⟨fun _ h => h, H⟩
    · have := ready_mono hj hji
      rw [H.1] at this
      cases this
  | succ fuel ih =>
    intro listed a w hfree hc hr hw hy H
    refine ⟨fun h => (by rw [h] at hr; cases hr), fun j hj => ?_⟩
    by_cases hji : j = i
    · subst hji; exact hy.stepD hi hw ⟨fun _ h => h, H⟩
    · have h1 := H.2 j (ready_mono hj hji)
      obtain ⟨hjun, oj, hoj, hall⟩ := mem_ready.1 hj
      have hiun := (mem_ready.1 hr).1
      have hnot : ∀ e ∈ oj.after, Region.binds .any e = true → e.on ≠ i := fun e he hb heq => by
        have h1 := hall e he hb
        rw [heq] at h1
        rcases Nat.lt_or_ge i listed.size with h' | h'
        · simp [h'] at hiun h1; rw [hiun] at h1; cases h1
        · simp [Array.getElem?_eq_none h'] at h1
      have h2 := stepD_put hoj (hfree j oj hoj hji hjun hnot) (fun cs b => hsel i oi cs b hi) (fun cs b => hsel j oj cs b hoj) hy h1
      have hfree' : ∀ k ok, ops[k]? = some ok → k ≠ i → (listed.setIfInBounds j true).getD k true = false →
          (∀ e ∈ ok.after, Region.binds .any e = true → e.on ≠ i) → oi.apart ops ok = true := fun k ok hk hki hun hno => by
        refine hfree k ok hk hki ?_ hno
        by_cases hjk : j = k
        · subst hjk; exact hjun
        · rw [getD_set_ne true hjk] at hun; exact hun
      refine h2.mono fun a' w' ⟨h3, h4, h5⟩ => ⟨h4, ih (listed.setIfInBounds j true) a' w' hfree' (hc.set hj) (ready_mono hr (Ne.symm hji)) (hS listed hc hiun j hj w w' hw h4) h3 ?_⟩
      rw [Array.setIfInBounds_comm _ _ hji]
      exact h5
end

/-! ### The rules -/
/-- What is listed, as a number's bits. -/
def maskA (n m : Nat) : Array Bool := ((List.range n).map fun i => m.testBit i).toArray

theorem maskA_zero (n : Nat) : maskA n 0 = Array.replicate n false := by
  unfold maskA
  apply Array.ext'
  simp [List.ext_getElem_iff]

/-- A region as a table of numbers' bits: for each operation what it waits for, the slots it looks at, the slot it fills. -/
abbrev Tab := List (Nat × Nat × Nat)
def bitsOf (l : List Nat) : Nat := l.foldr (fun d s => 2 ^ d ||| s) 0
def needOf (o : Oper) : Nat := bitsOf ((o.after.toList.filter fun e => Region.binds .any e).map (·.on))
def rowOf (ops : Array Oper) (o : Oper) : Nat × Nat × Nat := (needOf o, bitsOf (o.looksAt ops), match o.dst with | some d => 2 ^ d | none => 0)
def tabOf (ops : Array Oper) : Tab := ops.toList.map (rowOf ops)
theorem bits_mem : ∀ {l : List Nat} {d : Nat}, (bitsOf l).testBit d = true ↔ d ∈ l
  | [], d => by simp [bitsOf]
  | x :: l, d => by
    have h : bitsOf (x :: l) = 2 ^ x ||| bitsOf l := rfl
    rw [h, Nat.testBit_or, Bool.or_eq_true, bits_mem, List.mem_cons, Nat.testBit_two_pow]
    simp only [decide_eq_true_iff]
    constructor
    · rintro (h | h)
      · exact .inl h.symm
      · exact .inr h
    · rintro (h | h)
      · exact .inl h.symm
      · exact .inr h
theorem sub_bits {a m : Nat} (h : (a &&& m == a) = true) {d : Nat} (hd : a.testBit d = true) : m.testBit d = true := by
  have e : a &&& m = a := by simpa using h
  rw [← e, Nat.testBit_and, Bool.and_eq_true] at hd
  exact hd.2
theorem apart_bits {a b : Nat} (h : (a &&& b == 0) = true) {d : Nat} (h1 : a.testBit d = true) (h2 : b.testBit d = true) : False := by
  have e : a &&& b = 0 := by simpa using h
  have h3 : (a &&& b).testBit d = true := by rw [Nat.testBit_and, h1, h2]; rfl
  rw [e] at h3
  simp at h3
/-- Operation i waits for nothing more. -/
def readyR (m i : Nat) (r : Nat × Nat × Nat) : Bool := !m.testBit i && (r.1 &&& m == r.1)
/-- Operation i stands apart from those that may come up ahead of it. -/
def freeR (m i : Nat) (q : Nat × Nat × Nat) : Nat → Tab → Bool
  | _, [] => true
  | j, r :: t => (m.testBit j || Nat.beq j i || r.1.testBit i || ((q.2.2 &&& r.2.1 == 0) && (q.2.2 &&& r.2.2 == 0) && (r.2.2 &&& q.2.1 == 0))) && freeR m i q (j + 1) t
/-- Only the operations s are ready. -/
def onlyR (m : Nat) (s : List Nat) : Nat → Tab → Bool
  | _, [] => true
  | j, r :: t => (m.testBit j || !(r.1 &&& m == r.1) || s.contains j) && onlyR m s (j + 1) t
theorem freeR_spec {m i : Nat} {q : Nat × Nat × Nat} : ∀ {t : Tab} {j k : Nat} {r : Nat × Nat × Nat}, freeR m i q j t = true → t[k]? = some r → m.testBit (j + k) = true ∨ j + k = i ∨ r.1.testBit i = true ∨ ((q.2.2 &&& r.2.1 == 0) = true ∧ (q.2.2 &&& r.2.2 == 0) = true ∧ (r.2.2 &&& q.2.1 == 0) = true)
  | [], j, k, r, _, h => by simp at h
  | x :: t, j, 0, r, h, hr => by
    obtain rfl : x = r := by simpa using hr
    simp only [freeR, Bool.and_eq_true, Bool.or_eq_true] at h
    obtain ⟨(((h | h) | h) | h), _⟩ := h
    · exact .inl h
    · exact .inr (.inl (Nat.eq_of_beq_eq_true h))
    · exact .inr (.inr (.inl h))
    · exact .inr (.inr (.inr ⟨h.1.1, h.1.2, h.2⟩))
  | x :: t, j, k + 1, r, h, hr => by
    simp only [freeR, Bool.and_eq_true] at h
    have := freeR_spec (k := k) h.2 (by simpa using hr)
    rw [show j + 1 + k = j + (k + 1) from by omega] at this
    exact this
theorem onlyR_spec {m : Nat} {s : List Nat} : ∀ {t : Tab} {j k : Nat} {r : Nat × Nat × Nat}, onlyR m s j t = true → t[k]? = some r → m.testBit (j + k) = true ∨ (r.1 &&& m == r.1) = false ∨ j + k ∈ s
  | [], j, k, r, _, h => by simp at h
  | x :: t, j, 0, r, h, hr => by
    obtain rfl : x = r := by simpa using hr
    simp only [onlyR, Bool.and_eq_true, Bool.or_eq_true, Bool.not_eq_true', List.contains_iff_mem] at h
    obtain ⟨((h | h) | h), _⟩ := h
    · exact .inl h
    · exact .inr (.inl h)
    · exact .inr (.inr (by simpa using h))
  | x :: t, j, k + 1, r, h, hr => by
    simp only [onlyR, Bool.and_eq_true] at h
    have := onlyR_spec (k := k) h.2 (by simpa using hr)
    rw [show j + 1 + k = j + (k + 1) from by omega] at this
    exact this
def takeWB (tab : Tab) (m i m' : Nat) : Bool :=
  match tab[i]? with
  | some r => readyR m i r && freeR m i r 0 tab && (m' == m ||| 2 ^ i)
  | none => false
/-- Operation i may be taken first where it reads what lies in the blocks known from the start. -/
def takeB (ops : Array Oper) (tab : Tab) (th m i m' : Nat) : Bool :=
  takeWB tab m i m' && decide (i < th) && (List.range (tab.length - th)).all fun k => anc ops ops.size (th + k) i
def stepB (tab : Tab) (m i m' : Nat) : Bool :=
  match tab[i]? with
  | some r => readyR m i r && onlyR m [i] 0 tab && (m' == m ||| 2 ^ i)
  | none => false

section
variable {P : Program} {ops : Array Oper} {Q : Exit → Act → World → Prop} {w0 : World} {O : List Nat} {n : Nat} {D : List Deferred} {th : Nat} {LS : List Ent}

/-- What holds of what is listed: it waits for nothing; the table is the region's. -/
structure Fits (ops : Array Oper) (tab : Tab) (m : Nat) : Prop where
  tab : tabOf ops = tab
  sel : Region.noSelect ops = true
  lt : m < 2 ^ ops.size
  closed : Closed ops (maskA ops.size m)
theorem maskA_size (n m : Nat) : (maskA n m).size = n := by simp [maskA]
theorem maskA_get {n m j : Nat} (h : j < n) (d : Bool) : (maskA n m).getD j d = m.testBit j := by
  unfold maskA
  simp [h]
theorem maskA_out {n m j : Nat} (h : ¬ j < n) (d : Bool) : (maskA n m).getD j d = d := by
  have : (maskA n m)[j]? = none := Array.getElem?_eq_none (by rw [maskA_size]; omega)
  simp [this]
theorem maskA_set {n m i : Nat} (h : i < n) : (maskA n m).setIfInBounds i true = maskA n (m ||| 2 ^ i) := by
  apply Array.ext
  · simp [maskA_size]
  · intro j h1 h2
    have hj : j < n := by rw [Array.size_setIfInBounds, maskA_size] at h1; exact h1
    rw [Array.getElem_setIfInBounds]
    · simp only [maskA, List.getElem_toArray, List.getElem_map, List.getElem_range, Nat.testBit_or, Nat.testBit_two_pow]
      by_cases hij : i = j
      · subst hij; simp
      · simp [hij]
    · rw [maskA_size]; exact hj
section
variable {tab : Tab} {m i : Nat}
theorem Fits.row (h : Fits ops tab m) {j : Nat} {o : Oper} (ho : ops[j]? = some o) : tab[j]? = some (rowOf ops o) := by
  rw [← h.tab, tabOf, List.getElem?_map, Array.getElem?_toList, ho]; rfl
theorem Fits.op (h : Fits ops tab m) {j : Nat} {r : Nat × Nat × Nat} (hr : tab[j]? = some r) : ∃ o, ops[j]? = some o ∧ rowOf ops o = r := by
  rw [← h.tab, tabOf, List.getElem?_map, Array.getElem?_toList] at hr
  exact Option.map_eq_some_iff.1 hr
theorem need_bits {o : Oper} {e : Edge} (he : e ∈ o.after) (hb : Region.binds .any e = true) : (needOf o).testBit e.on = true :=
  bits_mem.2 (List.mem_map.2 ⟨e, List.mem_filter.2 ⟨Array.mem_toList_iff.2 he, hb⟩, rfl⟩)
theorem Fits.bit_lt (h : Fits ops tab m) {j : Nat} (hj : m.testBit j = true) : j < ops.size := by
  have := h.lt
  rcases Nat.lt_or_ge j ops.size with h1 | h1
  · exact h1
  · have h2 : m < 2 ^ j := Nat.lt_of_lt_of_le this (Nat.pow_le_pow_right (by decide) h1)
    rw [Nat.testBit_lt_two_pow h2] at hj; cases hj
theorem Fits.ready (h : Fits ops tab m) {o : Oper} (ho : ops[i]? = some o) (hr : readyR m i (rowOf ops o) = true) : i ∈ Region.ready .any ops (maskA ops.size m) := by
  have hi := (Array.getElem?_eq_some_iff.1 ho).1
  simp only [readyR, Bool.and_eq_true, Bool.not_eq_true'] at hr
  refine mem_ready.2 ⟨by rw [maskA_get hi]; exact hr.1, o, ho, fun e he hb => ?_⟩
  have := sub_bits hr.2 (need_bits he hb)
  rw [maskA_get (h.bit_lt this)]; exact this
theorem Fits.next (h : Fits ops tab m) (hi : i ∈ Region.ready .any ops (maskA ops.size m)) : Fits ops tab (m ||| 2 ^ i) := by
  obtain ⟨_, o, ho, _⟩ := mem_ready.1 hi
  have hs := (Array.getElem?_eq_some_iff.1 ho).1
  refine ⟨h.tab, h.sel, Nat.or_lt_two_pow h.lt (Nat.pow_lt_pow_right (by decide) hs), ?_⟩
  rw [← maskA_set hs]
  exact h.closed.set hi
theorem Fits.free (h : Fits ops tab m) {oi : Oper} (hf : freeR m i (rowOf ops oi) 0 tab = true) : ∀ j oj, ops[j]? = some oj → j ≠ i → (maskA ops.size m).getD j true = false → (∀ e ∈ oj.after, Region.binds .any e = true → e.on ≠ i) → oi.apart ops oj = true := by
  intro j oj hj hne hun hno
  have hjs := (Array.getElem?_eq_some_iff.1 hj).1
  rw [maskA_get hjs] at hun
  have := freeR_spec hf (h.row hj)
  rw [Nat.zero_add] at this
  rcases this with h1 | h1 | h1 | ⟨h1, h2, h3⟩
  · rw [hun] at h1; cases h1
  · exact absurd h1 hne
  · obtain ⟨e, he, hon⟩ := List.mem_map.1 (bits_mem.1 h1)
    obtain ⟨he, hb⟩ := List.mem_filter.1 he
    exact absurd hon (hno e (Array.mem_toList_iff.1 he) hb)
  · unfold Oper.apart
    have b1 : ∀ (a : Option Tmp) (l : List Tmp), ((match a with | some d => 2 ^ d | none => 0) &&& bitsOf l == 0) = true → (match a with | some d => !l.contains d | none => true) = true := by
      intro a l hh
      cases a with
      | none => rfl
      | some d =>
        simp only [Bool.not_eq_true']
        cases hc : l.contains d with
        | false => rfl
        | true => exact (apart_bits hh (d := d) (by rw [Nat.testBit_two_pow]; simp) (bits_mem.2 (by simpa using hc))).elim
    have c1 := b1 oi.dst (oj.looksAt ops) h1
    have c3 := b1 oj.dst (oi.looksAt ops) h3
    have c2 : ∀ d, oi.dst = some d → (oj.dst != some d) = true := by
      intro d hd
      cases hj2 : oj.dst with
      | none => rfl
      | some e =>
        have : e ≠ d := by
          rintro rfl
          simp only [rowOf, hd, hj2] at h2
          exact (apart_bits h2 (d := e) (by rw [Nat.testBit_two_pow]; simp) (by rw [Nat.testBit_two_pow]; simp)).elim
        simp [this]
    cases hd : oi.dst with
    | none =>
      rw [hd] at c1
      simp only [Bool.true_and]
      exact c3
    | some d =>
      rw [hd] at c1
      simp only [Bool.and_eq_true]
      exact ⟨⟨c1, c2 d hd⟩, c3⟩
theorem Fits.only (h : Fits ops tab m) {s : List Nat} (ho : onlyR m s 0 tab = true) {j : Nat} (hj : j ∈ Region.ready .any ops (maskA ops.size m)) : j ∈ s := by
  obtain ⟨hun, o, hoj, hall⟩ := mem_ready.1 hj
  have hjs := (Array.getElem?_eq_some_iff.1 hoj).1
  rw [maskA_get hjs] at hun
  have := onlyR_spec ho (h.row hoj)
  rw [Nat.zero_add] at this
  rcases this with h1 | h1 | h1
  · rw [hun] at h1; cases h1
  · exfalso
    have e : needOf o &&& m = needOf o := by
      apply Nat.eq_of_testBit_eq
      intro d
      rw [Nat.testBit_and]
      cases hd : (needOf o).testBit d with
      | false => rfl
      | true =>
        obtain ⟨e, he, hon⟩ := List.mem_map.1 (bits_mem.1 hd)
        obtain ⟨he, hb⟩ := List.mem_filter.1 he
        have h2 := hall e (Array.mem_toList_iff.1 he) hb
        rw [hon] at h2
        rcases Nat.lt_or_ge d ops.size with h3 | h3
        · rw [maskA_get h3] at h2; simp [h2]
        · rw [maskA_out (by omega)] at h2; cases h2
    have h1' : (needOf o &&& m == needOf o) = false := h1
    rw [e] at h1'
    simp at h1'
  · exact h1
theorem Fits.start (hs : Region.noSelect ops = true) (ht : tabOf ops = tab) : Fits ops tab 0 := by
  refine ⟨ht, hs, Nat.two_pow_pos _, ?_⟩
  intro j o ho hl
  have hj := (Array.getElem?_eq_some_iff.1 ho).1
  rw [maskA_get hj] at hl
  simp at hl
end

/-- The rest of a region that draws its order, from (V, L); the operations in m have come up. -/
def DX (P : Program) (ops : Array Oper) (tab : Tab) (Q : Exit → Act → World → Prop) (w0 : World) (O : List Nat) (n : Nat) (D : List Deferred) (th : Nat) (LS : List Ent) (fuel m : Nat) (V : List (Nat × Value)) (L : List Ent) : Prop :=
  Fits ops tab m → ∀ a w, Holds n D a V → SL w0 O w L → wpAnyN P ops Q (fun w => SL w0 O w LS) th fuel (maskA ops.size m) a w

variable {tab : Tab} {fuel m m' i : Nat} {V : List (Nat × Value)} {L : List Ent} {o : Oper}

theorem CX.draw {r : Option Nat} {id : Nat} {l : List Oper} (th : Nat) (tab : Tab) (hm : P.follows .mixedOrders = true) (ht : tabOf l.toArray = tab) (hs : Region.noSelect l.toArray = true) (h : DX P l.toArray tab Q w0 O n D th L l.toArray.size 0 V L) : CX P r Q w0 O n D (.region id l.toArray true) V L := by
  intro a w ha hw
  refine wpIn_region_any hm ?_
  rw [← maskA_zero]
  exact wpAnyN.sound _ _ _ _ (h (Fits.start hs ht) a _ ha (hw.drew _))

/-- No world is looked at. -/
def YldW (P : Program) (n : Nat) (D : List Deferred) (o : Oper) (V : List (Nat × Value)) (v : Value) : Prop :=
  ∀ a w, Holds n D a V → (execOp a.eval o).run P w = .ok (.value v) w
theorem YldW.yld {v : Value} (h : YldW P n D o V v) : Yld P w0 O n D o V L v := fun a w ha _ => h a w ha
theorem op_w {v : Value} {d : Nat} {T : List (Nat × Value) → List Ent → Prop} (h : YldW P n D o V v) (ho : o.dst = some d) (hd : Nat.blt d n = true) (hT : T ((d, v) :: V) L) : OpS P w0 O n D o V L T :=
  op_yld h.yld ho hd hT

theorem wanted_none {a : Act} (hg : o.guard = none) : Region.wanted o (yielded ops a.tmps) = true := by simp [Region.wanted, hg]
theorem wanted_yes {a : Act} {j dj : Nat} {b : Bool} {oj : Oper} (ha : Holds n D a V) (hg : o.guard = some (j, b)) (hj : ops[j]? = some oj) (hdj : oj.dst = some dj) (hv : lk V dj = some (.bool b)) : Region.wanted o (yielded ops a.tmps) = true := by
  have := ha.at_ _ _ hv
  simp [Region.wanted, hg, yielded, hj, hdj, this]
theorem wanted_no {a : Act} {j dj : Nat} {b : Bool} {oj : Oper} {u : Value} (ha : Holds n D a V) (hg : o.guard = some (j, b)) (hj : ops[j]? = some oj) (hdj : oj.dst = some dj) (hv : lk V dj = some u)
    (hu : (match u with | .bool c => c == b | _ => false) = false) : Region.wanted o (yielded ops a.tmps) = false := by
  have := ha.at_ _ _ hv
  simp only [Region.wanted, hg, yielded, hj, hdj, Option.bind_some, this]
  cases u <;> simp_all

theorem takeWB_spec (hc : takeWB tab m i m' = true) (hF : Fits ops tab m) (ho : ops[i]? = some o) : i ∈ Region.ready .any ops (maskA ops.size m) ∧ freeR m i (rowOf ops o) 0 tab = true ∧ m' = m ||| 2 ^ i := by
  unfold takeWB at hc
  rw [hF.row ho] at hc
  simp only [Bool.and_eq_true, beq_iff_eq] at hc
  exact ⟨hF.ready ho hc.1.1, hc.1.2, hc.2⟩
theorem DX.takeS_core {d : Nat} {v : Value} (hc : takeB ops tab th m i m' = true) (ho : ops[i]? = some o) (hd : o.dst = some d) (hdn : Nat.blt d n = true) (hs : LS.Sublist L)
    (hy : ∀ a, Holds n D a V → YieldsS P ops (fun w => SL w0 O w LS) o v a) (h : DX P ops tab Q w0 O n D th LS fuel m' ((d, v) :: V) L) : DX P ops tab Q w0 O n D th LS (fuel + 1) m V L := by
  intro hF a w ha hw
  simp only [takeB, Bool.and_eq_true, decide_eq_true_eq] at hc
  obtain ⟨⟨h0, h6⟩, h7⟩ := hc
  obtain ⟨hr, hfr, rfl⟩ := takeWB_spec h0 hF ho
  have his := (Array.getElem?_eq_some_iff.1 ho).1
  have hlen : tab.length = ops.size := by rw [← hF.tab, tabOf, List.length_map, Array.length_toList]
  refine wpAnyN_first (Si := fun w => SL w0 O w LS) (v := v) ho (Region.noSelect_spec hF.sel) ?_ fuel _ a w (hF.free hfr) hF.closed hr (hw.sub hs) (hy a ha) ?_
  · intro listed hcl hun j hj w1 w' hw1 hS
    refine hS ?_ hw1
    rcases Nat.lt_or_ge j th with hlt | hge
    · exact hlt
    · have hjs : j < ops.size := by
        obtain ⟨_, oj, hoj, _⟩ := mem_ready.1 hj
        exact (Array.getElem?_eq_some_iff.1 hoj).1
      have h8 := List.all_eq_true.1 h7 (j - th) (List.mem_range.2 (by omega))
      rw [show th + (j - th) = j from by omega] at h8
      have := anc_ready hcl hj h8
      rcases Nat.lt_or_ge i listed.size with h' | h'
      · simp [h'] at hun this; rw [hun] at this; cases this
      · simp [Array.getElem?_eq_none h'] at this
  · rw [maskA_set his, hd]
    exact h (hF.next hr) _ w (ha.put hdn v) hw

theorem DX.takeW_core {d : Nat} {v : Value} (hc : takeWB tab m i m' = true) (ho : ops[i]? = some o) (hd : o.dst = some d) (hdn : Nat.blt d n = true)
    (hy : ∀ a, Holds n D a V → YieldsS P ops (fun _ => True) o v a) (h : DX P ops tab Q w0 O n D th LS fuel m' ((d, v) :: V) L) : DX P ops tab Q w0 O n D th LS (fuel + 1) m V L := by
  intro hF a w ha hw
  obtain ⟨hr, hfr, rfl⟩ := takeWB_spec hc hF ho
  have his := (Array.getElem?_eq_some_iff.1 ho).1
  refine wpAnyN_first (Si := fun _ => True) (v := v) ho (Region.noSelect_spec hF.sel) (fun _ _ _ _ _ _ _ _ _ => trivial) fuel _ a w (hF.free hfr) hF.closed hr trivial (hy a ha) ?_
  rw [maskA_set his, hd]
  exact h (hF.next hr) _ w (ha.put hdn v) hw

/-- A load, say: taken first. -/
theorem DX.take (i m' : Nat) {d : Nat} {v : Value} (hc : takeB ops tab th m i m' = true) (ho : ops[i]? = some o) (hg : o.guard = none) (hnd : notDefer o.op = true) (hd : o.dst = some d) (hdn : Nat.blt d n = true) (hs : LS.Sublist L)
    (hy : Yld P w0 O n D o V LS v) (h : DX P ops tab Q w0 O n D th LS fuel m' ((d, v) :: V) L) : DX P ops tab Q w0 O n D th LS (fuel + 1) m V L :=
  DX.takeS_core hc ho hd hdn hs (fun a ha => .inl ⟨wanted_none hg, hnd, fun w hw => hy a w ha hw⟩) h
theorem DX.takeG (i m' : Nat) {d j dj : Nat} {b : Bool} {oj : Oper} {v : Value} (hc : takeB ops tab th m i m' = true) (ho : ops[i]? = some o) (hg : o.guard = some (j, b)) (hj : ops[j]? = some oj) (hdj : oj.dst = some dj) (hv : lk V dj = some (.bool b)) (hnd : notDefer o.op = true) (hd : o.dst = some d) (hdn : Nat.blt d n = true) (hs : LS.Sublist L)
    (hy : Yld P w0 O n D o V LS v) (h : DX P ops tab Q w0 O n D th LS fuel m' ((d, v) :: V) L) : DX P ops tab Q w0 O n D th LS (fuel + 1) m V L :=
  DX.takeS_core hc ho hd hdn hs (fun a ha => .inl ⟨wanted_yes ha hg hj hdj hv, hnd, fun w hw => hy a w ha hw⟩) h
/-- What looks at no memory, taken first. -/
theorem DX.takeW (i m' : Nat) {d : Nat} {v : Value} (hc : takeWB tab m i m' = true) (ho : ops[i]? = some o) (hg : o.guard = none) (hnd : notDefer o.op = true) (hd : o.dst = some d) (hdn : Nat.blt d n = true)
    (hy : YldW P n D o V v) (h : DX P ops tab Q w0 O n D th LS fuel m' ((d, v) :: V) L) : DX P ops tab Q w0 O n D th LS (fuel + 1) m V L :=
  DX.takeW_core hc ho hd hdn (fun a ha => .inl ⟨wanted_none hg, hnd, fun w _ => hy a w ha⟩) h
theorem DX.takeWG (i m' : Nat) {d j dj : Nat} {b : Bool} {oj : Oper} {v : Value} (hc : takeWB tab m i m' = true) (ho : ops[i]? = some o) (hg : o.guard = some (j, b)) (hj : ops[j]? = some oj) (hdj : oj.dst = some dj) (hv : lk V dj = some (.bool b)) (hnd : notDefer o.op = true) (hd : o.dst = some d) (hdn : Nat.blt d n = true)
    (hy : YldW P n D o V v) (h : DX P ops tab Q w0 O n D th LS fuel m' ((d, v) :: V) L) : DX P ops tab Q w0 O n D th LS (fuel + 1) m V L :=
  DX.takeW_core hc ho hd hdn (fun a ha => .inl ⟨wanted_yes ha hg hj hdj hv, hnd, fun w _ => hy a w ha⟩) h
/-- What a guard passes over. -/
theorem DX.skip (i m' : Nat) {d j dj : Nat} {b : Bool} {oj : Oper} {u : Value} (hc : takeWB tab m i m' = true) (ho : ops[i]? = some o) (hg : o.guard = some (j, b)) (hj : ops[j]? = some oj) (hdj : oj.dst = some dj) (hv : lk V dj = some u)
    (hu : (match u with | .bool c => c == b | _ => false) = false) (hd : o.dst = some d) (hdn : Nat.blt d n = true)
    (h : DX P ops tab Q w0 O n D th LS fuel m' ((d, undef) :: V) L) : DX P ops tab Q w0 O n D th LS (fuel + 1) m V L :=
  DX.takeW_core hc ho hd hdn (fun a ha => .inr ⟨wanted_no ha hg hj hdj hv hu, rfl⟩) h

/-- The one that may come up, ahead of the threshold: what is known from the start stays known. -/
def DXs (P : Program) (ops : Array Oper) (tab : Tab) (Q : Exit → Act → World → Prop) (w0 : World) (O : List Nat) (n : Nat) (D : List Deferred) (th : Nat) (LS : List Ent) (fuel m : Nat) (V : List (Nat × Value)) (L : List Ent) : Prop :=
  LS.Sublist L ∧ DX P ops tab Q w0 O n D th LS fuel m V L
theorem DXs.mk (hs : LS.Sublist L) (h : DX P ops tab Q w0 O n D th LS fuel m V L) : DXs P ops tab Q w0 O n D th LS fuel m V L := ⟨hs, h⟩

theorem DX.step_core (hc : stepB tab m i m' = true) (ho : ops[i]? = some o) (hw : ∀ a, Holds n D a V → Region.wanted o (yielded ops a.tmps) = true) (hnd : notDefer o.op = true)
    (h : OpS P w0 O n D o V L (fun V' L' => (i < th → LS.Sublist L') ∧ DX P ops tab Q w0 O n D th LS fuel m' V' L')) : DX P ops tab Q w0 O n D th LS (fuel + 1) m V L := by
  intro hF a w ha hw'
  unfold stepB at hc
  rw [hF.row ho] at hc
  simp only [Bool.and_eq_true, beq_iff_eq] at hc
  obtain ⟨⟨h1, h2⟩, rfl⟩ := hc
  have hr := hF.ready ho h1
  have his := (Array.getElem?_eq_some_iff.1 ho).1
  refine ⟨fun h0 => (by rw [h0] at hr; cases hr), fun j hj => ?_⟩
  obtain rfl : j = i := by simpa using hF.only h2 hj
  unfold StepD
  simp only [ho]
  rw [if_pos (hw a ha)]
  refine ⟨hnd, (h a w ha hw').mono ?_⟩
  rintro a1 w1 ⟨V', L', ⟨h1, h2⟩, ha1, hw1⟩
  refine ⟨fun hlt _ => hw1.sub (h1 hlt), ?_⟩
  rw [maskA_set his]
  exact h2 (hF.next hr) a1 w1 ha1 hw1

theorem OpS.mono {T T' : List (Nat × Value) → List Ent → Prop} (h : OpS P w0 O n D o V L T) (hT : ∀ V' L', T V' L' → T' V' L') : OpS P w0 O n D o V L T' :=
  fun a w ha hw => (h a w ha hw).mono fun _ _ ⟨V', L', h1, h2⟩ => ⟨V', L', hT _ _ h1, h2⟩

theorem DX.step (i m' : Nat) (hc : stepB tab m i m' = true) (ho : ops[i]? = some o) (hg : o.guard = none) (hnd : notDefer o.op = true)
    (h : OpS P w0 O n D o V L (DXs P ops tab Q w0 O n D th LS fuel m')) : DX P ops tab Q w0 O n D th LS (fuel + 1) m V L :=
  DX.step_core hc ho (fun a _ => wanted_none hg) hnd (h.mono fun _ _ ⟨h1, h2⟩ => ⟨fun _ => h1, h2⟩)
theorem DX.stepG (i m' : Nat) {j dj : Nat} {b : Bool} {oj : Oper} (hc : stepB tab m i m' = true) (ho : ops[i]? = some o) (hg : o.guard = some (j, b)) (hj : ops[j]? = some oj) (hdj : oj.dst = some dj) (hv : lk V dj = some (.bool b)) (hnd : notDefer o.op = true)
    (h : OpS P w0 O n D o V L (DXs P ops tab Q w0 O n D th LS fuel m')) : DX P ops tab Q w0 O n D th LS (fuel + 1) m V L :=
  DX.step_core hc ho (fun a ha => wanted_yes ha hg hj hdj hv) hnd (h.mono fun _ _ ⟨h1, h2⟩ => ⟨fun _ => h1, h2⟩)
/-- .. from the threshold on. -/
theorem DX.stepT (i m' : Nat) (hc : stepB tab m i m' = true) (hth : Nat.ble th i = true) (ho : ops[i]? = some o) (hg : o.guard = none) (hnd : notDefer o.op = true)
    (h : OpS P w0 O n D o V L (DX P ops tab Q w0 O n D th LS fuel m')) : DX P ops tab Q w0 O n D th LS (fuel + 1) m V L :=
  DX.step_core hc ho (fun a _ => wanted_none hg) hnd (h.mono fun _ _ h2 => ⟨fun hlt => by have := Nat.le_of_ble_eq_true hth; omega, h2⟩)

theorem DX.done (hc : onlyR m [] 0 tab = true) (h : XX Q w0 O n D .normal V L) : DX P ops tab Q w0 O n D th LS fuel m V L := by
  intro hF a w ha hw
  have hr : Region.ready .any ops (maskA ops.size m) = [] := by
    cases hx : Region.ready .any ops (maskA ops.size m) with
    | nil => rfl
    | cons x xs =>
      have := hF.only hc (j := x) (by rw [hx]; exact List.mem_cons_self)
      cases this
  cases fuel with
  | zero => exact ⟨hr, h a w ha hw⟩
  | succ f => exact ⟨fun _ => h a w ha hw, by rw [hr]; simp⟩

theorem DX.split {t : Nat} {b : Bool} (hv : lk V t = some (.bool b)) (ht : b = true → DX P ops tab Q w0 O n D th LS fuel m ((t, .bool true) :: V) L) (hf : b = false → DX P ops tab Q w0 O n D th LS fuel m ((t, .bool false) :: V) L) : DX P ops tab Q w0 O n D th LS fuel m V L := by
  intro hF a w ha hw
  cases b with
  | true => exact ht rfl hF a w (ha.cons hv rfl) hw
  | false => exact hf rfl hF a w (ha.cons hv rfl) hw
theorem DX.splitD {t : Nat} {p : Prop} [Decidable p] (hv : lk V t = some (.bool (decide p))) (ht : p → DX P ops tab Q w0 O n D th LS fuel m ((t, .bool true) :: V) L) (hf : ¬ p → DX P ops tab Q w0 O n D th LS fuel m ((t, .bool false) :: V) L) : DX P ops tab Q w0 O n D th LS fuel m V L :=
  DX.split hv (fun h => ht (of_decide_eq_true h)) (fun h => hf (of_decide_eq_false h))
theorem DX.know {t : Nat} {v u : Value} (hv : lk V t = some v) (e : v = u) (h : DX P ops tab Q w0 O n D th LS fuel m ((t, u) :: V) L) : DX P ops tab Q w0 O n D th LS fuel m V L :=
  fun hF a w ha hw => h hF a w (ha.cons hv e) hw

/-- Two that may come up. -/
def step2B (tab : Tab) (m i i' m1 m2 : Nat) : Bool :=
  match tab[i]?, tab[i']? with
  | some r, some r' => readyR m i r && readyR m i' r' && onlyR m [i, i'] 0 tab && (m1 == m ||| 2 ^ i) && (m2 == m ||| 2 ^ i')
  | _, _ => false
theorem DX.step2 (i i' m1 m2 : Nat) {o' : Oper} (hc : step2B tab m i i' m1 m2 = true) (ho : ops[i]? = some o) (hg : o.guard = none) (hnd : notDefer o.op = true) (ho' : ops[i']? = some o') (hg' : o'.guard = none) (hnd' : notDefer o'.op = true)
    (h : OpS P w0 O n D o V L (DXs P ops tab Q w0 O n D th LS fuel m1)) (h' : OpS P w0 O n D o' V L (DXs P ops tab Q w0 O n D th LS fuel m2)) : DX P ops tab Q w0 O n D th LS (fuel + 1) m V L := by
  intro hF a w ha hw'
  unfold step2B at hc
  rw [hF.row ho, hF.row ho'] at hc
  simp only [Bool.and_eq_true, beq_iff_eq] at hc
  obtain ⟨⟨⟨⟨h1, h2⟩, h3⟩, rfl⟩, rfl⟩ := hc
  have hr := hF.ready ho h1
  have hr' := hF.ready ho' h2
  refine ⟨fun h0 => (by rw [h0] at hr; cases hr), fun j hj => ?_⟩
  have one : ∀ (k : Nat) (ok : Oper), ops[k]? = some ok → ok.guard = none → notDefer ok.op = true → k ∈ Region.ready .any ops (maskA ops.size m) → OpS P w0 O n D ok V L (DXs P ops tab Q w0 O n D th LS fuel (m ||| 2 ^ k)) →
      StepD P ops k (fun a' w' => (k < th → SL w0 O w LS → SL w0 O w' LS) ∧ wpAnyN P ops Q (fun w => SL w0 O w LS) th fuel ((maskA ops.size m).setIfInBounds k true) a' w') a w := by
    intro k ok hok hgk hnk hrk hk
    unfold StepD
    simp only [hok]
    rw [if_pos (wanted_none hgk)]
    refine ⟨hnk, (hk a w ha hw').mono ?_⟩
    rintro a1 w1 ⟨V', L', ⟨h1, h2⟩, ha1, hw1⟩
    refine ⟨fun _ _ => hw1.sub h1, ?_⟩
    rw [maskA_set (Array.getElem?_eq_some_iff.1 hok).1]
    exact h2 (hF.next hrk) a1 w1 ha1 hw1
  have hj' : j = i ∨ j = i' := by simpa using hF.only h3 hj
  rcases hj' with rfl | rfl
  · exact one _ _ ho hg hnd hr h
  · exact one _ _ ho' hg' hnd' hr' h'
end
end Go.Proofs.YtpcfgoadkfajfaaGreatDoor
namespace Go.Proofs.YtpcfgoadkfajfaaGreatDoor
set_option linter.all false
open Go Go.RowKit

section
variable {P : Program} {w0 : World} {O : List Nat} {n : Nat} {D : List Deferred} {o : Oper} {V : List (Nat × Value)} {L : List Ent} {T : List (Nat × Value) → List Ent → Prop}

/-! ### Facts on types -/
def oneB : TypeDesc → Bool
  | .struct _ => false
  | .array _ _ => false
  | _ => true
/-- A type of one cell. -/
def One (P : Program) (t : TypeId) : Prop := ∃ d, P.underlying t = some d ∧ oneB d = true
/-- A struct or an array of sz cells. -/
def AggT (P : Program) (t : TypeId) (sz : Nat) : Prop := ∃ d i, P.underlying t = some d ∧ oneB d = false ∧ P.info? t = some i ∧ i.size = sz
/-- Field i of struct type t lies k cells behind its beginning, and is no empty one. -/
def Fld (P : Program) (t : TypeId) (i k : Nat) : Prop := ∃ fs f j, P.underlying t = some (.struct fs) ∧ fs[i]? = some f ∧ f.offset = k ∧ P.info? f.type = some j ∧ j.size ≠ 0
/-- A slice type, its element's type and cells. -/
def SlT (P : Program) (t e : TypeId) (sz : Nat) : Prop := ∃ i, P.underlying t = some (.slice e) ∧ P.info? e = some i ∧ i.size = sz
/-- A type's cells. -/
def SzT (P : Program) (t : TypeId) (sz : Nat) : Prop := ∃ i, P.info? t = some i ∧ i.size = sz

/-! ### What looks at no memory -/
theorem yw_move {x : Operand} {v : Value} (ho : o.op = .move x) (hx : ev V x = some v) : YldW P n D o V v := by
  intro a w ha; simp [execOp, ho, ha.eval hx]
theorem yw_assign {x : Operand} {v : Value} (ho : o.op = .assign x) (hx : ev V x = some v) : YldW P n D o V v := by
  intro a w ha; simp [execOp, ho, ha.eval hx]
theorem yw_pickT {c x y : Operand} {v : Value} (ho : o.op = .pick c x y) (hc : ev V c = some (.bool true)) (hx : ev V x = some v) : YldW P n D o V v := by
  intro a w ha; simp [execOp, ho, ha.eval hc, ha.eval hx, asBool]
theorem yw_pickF {c x y : Operand} {v : Value} (ho : o.op = .pick c x y) (hc : ev V c = some (.bool false)) (hx : ev V y = some v) : YldW P n D o V v := by
  intro a w ha; simp [execOp, ho, ha.eval hc, ha.eval hx, asBool]
theorem yw_not {t : TypeId} {x : Operand} {b : Bool} (ho : o.op = .unOp .not t x) (hx : ev V x = some (.bool b)) : YldW P n D o V (.bool (!b)) := by
  intro a w ha; simp [execOp, ho, ha.eval hx, Op.unary]
theorem yw_notD {t : TypeId} {x : Operand} {p : Prop} [Decidable p] (ho : o.op = .unOp .not t x) (hx : ev V x = some (.bool (decide p))) : YldW P n D o V (.bool (decide (¬ p))) := by
  intro a w ha; simp [execOp, ho, ha.eval hx, Op.unary]
theorem yw_extract {x : Operand} {vs : Array Value} {i : Nat} {v : Value} (ho : o.op = .extract x i) (hx : ev V x = some (.tuple vs)) (hv : vs[i]? = some v) : YldW P n D o V v := by
  intro a w ha; simp [execOp, ho, ha.eval hx, Instr.extract, hv]
theorem yw_nilCheck {x : Operand} {p : Addr} (ho : o.op = .nilCheck x) (hx : ev V x = some (.pointer (some p))) : YldW P n D o V (.pointer (some p)) := by
  intro a w ha; simp [execOp, ho, ha.eval hx]
theorem yw_makeFunc {f : Fn} {xs ys : Array Operand} {us vs : List Value} (ho : o.op = .makeFunc f xs ys) (hx : evs V xs.toList = some us) (hy : evs V ys.toList = some vs) : YldW P n D o V (.func f us.toArray vs.toArray) := by
  intro a w ha
  have h1 := ha.evals hx
  have h2 := ha.evals hy
  have e1 : xs.map a.eval = us.toArray := Array.ext' (by simpa using h1)
  have e2 : ys.map a.eval = vs.toArray := Array.ext' (by simpa using h2)
  simp [execOp, ho, Instr.makeFunc, e1, e2]

section ints
variable {t u : TypeId} {x y : Operand} {k : IntKind} {a b : Int}
theorem yw_add {a b : Int} (ho : o.op = .binOp .add t x y u) (hx : ev V x = some (.int .i64 a)) (hy : ev V y = some (.int .i64 b)) (h1 : -9223372036854775808 ≤ a + b) (h2 : a + b ≤ 9223372036854775807) : YldW P n D o V (.int .i64 (a + b)) := by
  intro c w ha
  have : IntKind.i64.wrap (a + b) = a + b := by rw [IntKind.wrap_i64]; omega
  simp [execOp, ho, ha.eval hx, ha.eval hy, eqGuard, binOp, Op.intArith, this]
theorem yw_sub {a b : Int} (ho : o.op = .binOp .sub t x y u) (hx : ev V x = some (.int .i64 a)) (hy : ev V y = some (.int .i64 b)) (h1 : -9223372036854775808 ≤ a - b) (h2 : a - b ≤ 9223372036854775807) : YldW P n D o V (.int .i64 (a - b)) := by
  intro c w ha
  have : IntKind.i64.wrap (a - b) = a - b := by rw [IntKind.wrap_i64]; omega
  simp [execOp, ho, ha.eval hx, ha.eval hy, eqGuard, binOp, Op.intArith, this]
theorem yw_mul {a b : Int} (ho : o.op = .binOp .mul t x y u) (hx : ev V x = some (.int .i64 a)) (hy : ev V y = some (.int .i64 b)) (h1 : -9223372036854775808 ≤ a * b) (h2 : a * b ≤ 9223372036854775807) : YldW P n D o V (.int .i64 (a * b)) := by
  intro c w ha
  have : IntKind.i64.wrap (a * b) = a * b := by rw [IntKind.wrap_i64]; omega
  simp [execOp, ho, ha.eval hx, ha.eval hy, eqGuard, binOp, Op.intArith, this]
theorem yw_addw (ho : o.op = .binOp .add t x y u) (hx : ev V x = some (.int k a)) (hy : ev V y = some (.int k b)) : YldW P n D o V (.int k (k.wrap (a + b))) := by
  intro c w ha
  simp [execOp, ho, ha.eval hx, ha.eval hy, eqGuard, binOp, Op.intArith]
theorem yw_subw (ho : o.op = .binOp .sub t x y u) (hx : ev V x = some (.int k a)) (hy : ev V y = some (.int k b)) : YldW P n D o V (.int k (k.wrap (a - b))) := by
  intro c w ha
  simp [execOp, ho, ha.eval hx, ha.eval hy, eqGuard, binOp, Op.intArith]
theorem yw_mulw (ho : o.op = .binOp .mul t x y u) (hx : ev V x = some (.int k a)) (hy : ev V y = some (.int k b)) : YldW P n D o V (.int k (k.wrap (a * b))) := by
  intro c w ha
  simp [execOp, ho, ha.eval hx, ha.eval hy, eqGuard, binOp, Op.intArith]
theorem yw_quo {a b : Int} (ho : o.op = .binOp .quo t x y u) (hx : ev V x = some (.int .i64 a)) (hy : ev V y = some (.int .i64 b)) (h0 : 0 ≤ a) (hm : a ≤ 9223372036854775807) (hb : 0 < b) : YldW P n D o V (.int .i64 (a / b)) := by
  intro c w ha
  have e : a.tdiv b = a / b := Int.tdiv_eq_ediv_of_nonneg h0
  have h1 : 0 ≤ a / b := Int.ediv_nonneg h0 (by omega)
  have h2 : a / b ≤ a := Int.ediv_le_self b h0
  have : IntKind.i64.wrap (a / b) = a / b := by rw [IntKind.wrap_i64]; omega
  have hb0 : b ≠ 0 := by omega
  simp [execOp, ho, ha.eval hx, ha.eval hy, eqGuard, binOp, Op.intDiv, hb0, e, this]
theorem yw_rem {a b : Int} (ho : o.op = .binOp .rem t x y u) (hx : ev V x = some (.int k a)) (hy : ev V y = some (.int k b)) (h0 : 0 ≤ a) (hb : 0 < b) : YldW P n D o V (.int k (a % b)) := by
  intro c w ha
  have e : a.tmod b = a % b := Int.tmod_eq_emod_of_nonneg h0
  have hb0 : b ≠ 0 := by omega
  simp [execOp, ho, ha.eval hx, ha.eval hy, eqGuard, binOp, Op.intDiv, hb0, e]
theorem yw_quow (ho : o.op = .binOp .quo t x y u) (hx : ev V x = some (.int k a)) (hy : ev V y = some (.int k b)) (hb : b ≠ 0) : YldW P n D o V (.int k (k.wrap (a.tdiv b))) := by
  intro c w ha
  simp [execOp, ho, ha.eval hx, ha.eval hy, eqGuard, binOp, Op.intDiv, hb]
theorem yw_remw (ho : o.op = .binOp .rem t x y u) (hx : ev V x = some (.int k a)) (hy : ev V y = some (.int k b)) (hb : b ≠ 0) : YldW P n D o V (.int k (a.tmod b)) := by
  intro c w ha
  simp [execOp, ho, ha.eval hx, ha.eval hy, eqGuard, binOp, Op.intDiv, hb]
theorem yw_lss (ho : o.op = .binOp .lss t x y u) (hx : ev V x = some (.int k a)) (hy : ev V y = some (.int k b)) : YldW P n D o V (.bool (decide (a < b))) := by
  intro c w ha; simp [execOp, ho, ha.eval hx, ha.eval hy, eqGuard, binOp, Op.intCmp]
theorem yw_leq (ho : o.op = .binOp .leq t x y u) (hx : ev V x = some (.int k a)) (hy : ev V y = some (.int k b)) : YldW P n D o V (.bool (decide (a ≤ b))) := by
  intro c w ha; simp [execOp, ho, ha.eval hx, ha.eval hy, eqGuard, binOp, Op.intCmp]
theorem yw_gtr (ho : o.op = .binOp .gtr t x y u) (hx : ev V x = some (.int k a)) (hy : ev V y = some (.int k b)) : YldW P n D o V (.bool (decide (b < a))) := by
  intro c w ha; simp [execOp, ho, ha.eval hx, ha.eval hy, eqGuard, binOp, Op.intCmp]
theorem yw_geq (ho : o.op = .binOp .geq t x y u) (hx : ev V x = some (.int k a)) (hy : ev V y = some (.int k b)) : YldW P n D o V (.bool (decide (b ≤ a))) := by
  intro c w ha; simp [execOp, ho, ha.eval hx, ha.eval hy, eqGuard, binOp, Op.intCmp]
theorem yw_eql (ho : o.op = .binOp .eql t x y u) (hx : ev V x = some (.int k a)) (hy : ev V y = some (.int k b)) : YldW P n D o V (.bool (decide (a = b))) := by
  intro c w ha
  have : (a == b) = decide (a = b) := rfl
  simp [execOp, ho, ha.eval hx, ha.eval hy, eqGuard, binOp, Op.intCmp, this]
theorem yw_neq (ho : o.op = .binOp .neq t x y u) (hx : ev V x = some (.int k a)) (hy : ev V y = some (.int k b)) : YldW P n D o V (.bool (decide (a ≠ b))) := by
  intro c w ha
  have : (a != b) = decide (a ≠ b) := by
    show (!(a == b)) = _
    rw [show (a == b) = decide (a = b) from rfl, decide_not]
  simp [execOp, ho, ha.eval hx, ha.eval hy, eqGuard, binOp, Op.intCmp, this]
theorem yw_conv {s d : TypeId} {kd : IntKind} {sd : TypeDesc} (ho : o.op = .convert s d x) (hx : ev V x = some (.int k a)) (hs : P.underlying s = some sd) (hd : P.underlying d = some (.int kd)) : YldW P n D o V (.int kd (kd.wrap a)) := by
  intro c w ha
  simp [execOp, ho, ha.eval hx, convert, run_underlying hs, run_underlying hd, Conv.intToInt]
end ints

theorem yw_streq {t u : TypeId} {x y : Operand} {a b : ByteArray} (ho : o.op = .binOp .eql t x y u) (hx : ev V x = some (.string a)) (hy : ev V y = some (.string b)) : YldW P n D o V (.bool (decide (a.toList = b.toList))) := by
  intro c w ha
  have : (a.toList == b.toList) = decide (a.toList = b.toList) := by
    rw [Bool.eq_iff_iff]; simp
  simp [execOp, ho, ha.eval hx, ha.eval hy, eqGuard, binOp, Op.stringOp, this]
theorem yw_strneq {t u : TypeId} {x y : Operand} {a b : ByteArray} (ho : o.op = .binOp .neq t x y u) (hx : ev V x = some (.string a)) (hy : ev V y = some (.string b)) : YldW P n D o V (.bool (decide (a.toList ≠ b.toList))) := by
  intro c w ha
  have : (!(a.toList == b.toList)) = decide (a.toList ≠ b.toList) := by
    rw [Bool.eq_iff_iff]; simp
  simp [execOp, ho, ha.eval hx, ha.eval hy, eqGuard, binOp, Op.stringOp, this]
theorem yw_stradd {t u : TypeId} {x y : Operand} {a b : ByteArray} (ho : o.op = .binOp .add t x y u) (hx : ev V x = some (.string a)) (hy : ev V y = some (.string b)) (hs : a.size + b.size ≤ 9223372036854775807) : YldW P n D o V (.string (a ++ b)) := by
  intro c w ha
  have hs' : ¬ (9223372036854775807 < (a.size : Int) + (b.size : Int)) := by omega
  simp [execOp, ho, ha.eval hx, ha.eval hy, eqGuard, binOp, Op.stringOp, hs']
/-- A slice against nil. -/
theorem yw_slnil {t u e : TypeId} {x y : Operand} {A : Option Addr} {m c : Nat} (ho : o.op = .binOp .eql t x y u) (ht : P.underlying t = some (.slice e)) (hx : ev V x = some (.slice A m c)) (hy : ev V y = some (.slice none 0 0)) : YldW P n D o V (.bool A.isNone) := by
  intro b w ha
  simp only [execOp, ho, ha.eval hx, ha.eval hy, Sem.run_bind]
  rw [show (eqGuard .eql t x y (.slice A m c) (.slice none 0 0)) = pure () from by simp [eqGuard]]
  simp [Lib.run_eql_slice_nil w t e A m c 0 0 ht]

theorem yw_lenS {x : Operand} {t e : TypeId} {A : Option Addr} {m c : Nat} (ho : o.op = .call { callee := .builtin .len, args := #[x], argTypes := #[t] }) (ht : P.underlying t = some (.slice e)) (hx : ev V x = some (.slice A m c)) : YldW P n D o V (.int .i64 m) := by
  intro a w ha
  simp [execOp, ho, resolve, invoke, builtin, ha.eval hx, Builtin.len_, run_underlying ht, goInt]
theorem yw_lenStr {x : Operand} {t : TypeId} {s : ByteArray} (ho : o.op = .call { callee := .builtin .len, args := #[x], argTypes := #[t] }) (ht : P.underlying t = some .string) (hx : ev V x = some (.string s)) : YldW P n D o V (.int .i64 s.size) := by
  intro a w ha
  simp [execOp, ho, resolve, invoke, builtin, ha.eval hx, Builtin.len_, run_underlying ht, goInt]
theorem yw_min {x y : Operand} {ts : Array TypeId} {k : IntKind} {p q : Int} (ho : o.op = .call { callee := .builtin .min, args := #[x, y], argTypes := ts }) (hx : ev V x = some (.int k p)) (hy : ev V y = some (.int k q)) : YldW P n D o V (.int k (min p q)) := by
  intro a w ha
  have : (if q < p then q else p) = min p q := by split <;> omega
  simp [execOp, ho, resolve, invoke, builtin, ha.eval hx, ha.eval hy, Builtin.min_, Builtin.min2, this]

/-! ### Addresses -/
def ab (A : Option Addr) : Nat := (A.getD ⟨0, 0, none⟩).block
def ao (A : Option Addr) : Nat := (A.getD ⟨0, 0, none⟩).off

theorem add_none (b i k : Nat) : (⟨b, i, none⟩ : Addr).add k = ⟨b, i + k, none⟩ := Addr.add_lit b i k

theorem yw_fieldAddr {t : TypeId} {x : Operand} {i k b j : Nat} (ho : o.op = .fieldAddr t x i) (hf : Fld P t i k) (hx : ev V x = some (.pointer (some ⟨b, j, none⟩))) : YldW P n D o V (.pointer (some ⟨b, j + k, none⟩)) := by
  intro a w ha
  obtain ⟨fs, f, inf, h1, h2, h3, h4, h5⟩ := hf
  simp [execOp, ho, ha.eval hx, Instr.fieldAt, run_underlying h1, h2, Instr.sureAddr, fieldPlace, sizeOf, typeInfo, h4, h5, h3, add_none]
theorem yw_field0 {t : TypeId} {x : Operand} {i b j : Nat} (ho : o.op = .fieldAddr t x i) (hf : Fld P t i 0) (hx : ev V x = some (.pointer (some ⟨b, j, none⟩))) : YldW P n D o V (.pointer (some ⟨b, j, none⟩)) := yw_fieldAddr ho hf hx

/-- An element of a slice: A its array's address, whatever it is. -/
theorem yw_index {t e : TypeId} {x y : Operand} {A : Option Addr} {len cap sz k : Nat} {q : Int} (ho : o.op = .indexAddr t x y) (ht : SlT P t e sz) (hx : ev V x = some (.slice A len cap)) (hy : ev V y = some (.int .i64 q)) (hq : q = (k : Int)) (hk : k < len) (hA : ∃ b j, A = some ⟨b, j, none⟩) :
    YldW P n D o V (.pointer (some ⟨ab A, ao A + k * sz, none⟩)) := by
  intro a w ha
  obtain ⟨b, j, rfl⟩ := hA
  obtain ⟨i, h1, h2, h3⟩ := ht
  subst hq
  have h4 : (0 : Int) ≤ (k : Int) ∧ (k : Int) < (len : Int) := by omega
  simp [execOp, ho, ha.eval hx, ha.eval hy, Instr.indexAt, asIntOf, run_underlying h1, sizeOf, typeInfo, h2, h3, hk, add_none, ab, ao]

/-! ### Reading -/
theorem run_load_one {t : TypeId} {a : Addr} {v : Value} {w : World} (h1 : One P t) (hc : w.cell? a = some v) : (loadVar t a).run P w = .ok v w := by
  obtain ⟨d, hd, hone⟩ := h1
  have : (isAgg t).run P w = .ok false w := by
    simp only [isAgg, Sem.run_bind, run_underlying hd, Result.andThen_ok]
    cases d <;> simp [oneB] at hone ⊢
  simp only [loadVar, Sem.run_bind, this, Result.andThen_ok]
  simp [load, Sem.run, hc]

theorem run_load_agg {t : TypeId} {b j sz : Nat} {cs : List Value} {w : World} (h1 : AggT P t sz) (hsz : cs.length = sz) (hc : ∀ i v, cs[i]? = some v → w.cell? ⟨b, j + i, none⟩ = some v) : (loadVar t ⟨b, j, none⟩).run P w = .ok (.agg cs.toArray) w := by
  obtain ⟨d, i, hd, hone, hi, hs⟩ := h1
  have : (isAgg t).run P w = .ok true w := by
    simp only [isAgg, Sem.run_bind, run_underlying hd, Result.andThen_ok]
    cases d <;> simp [oneB] at hone ⊢
  have hl := run_loadCells_list (P := P) (w := w) ⟨b, j, none⟩ cs (fun i v hv => by rw [add_none]; exact hc i v hv)
  simp only [loadVar, Sem.run_bind, this, Result.andThen_ok, if_true, sizeOf, typeInfo, run_program, hi, Sem.run_pure]
  rw [hs, ← hsz, hl]
  rfl

/-- A cell of a known block. -/
theorem y_load {t : TypeId} {x : Operand} {g j : Nat} {i : Nat} {cs : Array Value} {tt : TypeId} {fr : Nat × Nat} {v : Value} (ho : o.op = .load t x) (hx : ev V x = some (.pointer (some ⟨g, j, none⟩))) (h1 : One P t)
    (hL : L[i]? = some (.blk g (.cells cs tt fr))) (hv : cs[j]? = some v) : Yld P w0 O n D o V L v := by
  intro a w ha hw
  have hg := hw.ents _ (List.mem_of_getElem? hL)
  have hc : w.cell? ⟨g, j, none⟩ = some v := by rw [cell_of_row w g j cs tt fr hg]; exact hv
  simp [execOp, ho, ha.eval hx, Instr.loadAt, Instr.sureAddr, run_load_one h1 hc]

/-- A whole block of a struct or an array. -/
theorem y_loadA {t : TypeId} {x : Operand} {g : Nat} {i sz : Nat} {cs : Array Value} {tt : TypeId} {fr : Nat × Nat} (ho : o.op = .load t x) (hx : ev V x = some (.pointer (some ⟨g, 0, none⟩))) (h1 : AggT P t sz)
    (hL : L[i]? = some (.blk g (.cells cs tt fr))) (hs : cs.size = sz) : Yld P w0 O n D o V L (.agg cs) := by
  intro a w ha hw
  have hg := hw.ents _ (List.mem_of_getElem? hL)
  have := run_load_agg (P := P) (w := w) (b := g) (j := 0) (cs := cs.toList) h1 (by simpa using hs) (fun k v hv => by rw [cell_of_row w g _ cs tt fr hg]; simpa using hv)
  simp [execOp, ho, ha.eval hx, Instr.loadAt, Instr.sureAddr, this]

/-- A struct or an array that is a part of a known block. -/
theorem y_loadP {t : TypeId} {x : Operand} {g j : Nat} {i sz : Nat} {cs vs : Array Value} {tt : TypeId} {fr : Nat × Nat} (ho : o.op = .load t x) (hx : ev V x = some (.pointer (some ⟨g, j, none⟩))) (h1 : AggT P t sz)
    (hL : L[i]? = some (.blk g (.cells cs tt fr))) (hs : vs.size = sz) (hv : ∀ k, k < sz → cs[j + k]? = vs[k]?) : Yld P w0 O n D o V L (.agg vs) := by
  intro a w ha hw
  have hg := hw.ents _ (List.mem_of_getElem? hL)
  have := run_load_agg (P := P) (w := w) (b := g) (j := j) (cs := vs.toList) h1 (by simpa using hs) (fun k v hkv => by
    have hk : k < vs.size := by
      have := (List.getElem?_eq_some_iff.1 hkv).1
      simpa using this
    rw [cell_of_row w g _ cs tt fr hg, hv k (by omega)]
    simpa using hkv)
  simp [execOp, ho, ha.eval hx, Instr.loadAt, Instr.sureAddr, this]

/-- A slice's elements, each of sz cells, as they lie in a world: A the array's address. -/
structure Rd (w : World) (A : Option Addr) (sz : Nat) (xs : List (Array Value)) : Prop where
  at_ : ∀ k c, xs[k]? = some c → c.size = sz ∧ (∃ b j, A = some ⟨b, j, none⟩) ∧ ab A < w.heap.size ∧ (∀ u ∈ c.toList, u.oneCell' = true) ∧ ∀ j, j < sz → w.cell? ⟨ab A, ao A + k * sz + j, none⟩ = c[j]?

theorem Rd.nil (w : World) (A : Option Addr) (sz : Nat) : Rd w A sz [] := ⟨fun k c h => by simp at h⟩
theorem Rd.some {w : World} {A : Option Addr} {sz : Nat} {xs : List (Array Value)} (h : Rd w A sz xs) {k : Nat} (hk : k < xs.length) : ∃ b j, A = some ⟨b, j, none⟩ :=
  (h.at_ k _ (List.getElem?_eq_getElem hk)).2.1
theorem Rd.keep {w w' : World} {A : Option Addr} {sz : Nat} {xs : List (Array Value)} (h : Rd w A sz xs) (hs : w.heap.size ≤ w'.heap.size) (hk : ab A < w.heap.size → w'.heap[ab A]? = w.heap[ab A]?) : Rd w' A sz xs :=
  ⟨fun k c hc => by
    obtain ⟨h1, h2, h3, h5, h4⟩ := h.at_ k c hc
    exact ⟨h1, h2, Nat.lt_of_lt_of_le h3 hs, h5, fun j hj => (World.cell?_of_block (w := w) (a := ⟨ab A, ao A + k * sz + j, none⟩) (hk h3)).trans (h4 j hj)⟩⟩
/-- What lay ahead of the call lies there still. -/
theorem SL.rd {w : World} (h : SL w0 O w L) {A : Option Addr} {sz : Nat} {xs : List (Array Value)} (hr : Rd w0 A sz xs) (hO : ab A ∉ O) : Rd w A sz xs :=
  hr.keep h.size (fun hlt => h.same _ hlt hO)

/-- An element of a slice that lay ahead of the call, whole. -/
theorem y_elem {t : TypeId} {x : Operand} {A : Option Addr} {sz k : Nat} {xs : List (Array Value)} {c : Array Value} (ho : o.op = .load t x) (hx : ev V x = some (.pointer (some ⟨ab A, ao A + k * sz, none⟩))) (h1 : AggT P t sz)
    (hr : Rd w0 A sz xs) (hO : ab A ∉ O) (hk : xs[k]? = some c) : Yld P w0 O n D o V L (.agg c) := by
  intro a w ha hw
  obtain ⟨hs, _, _, _, hc⟩ := (hw.rd hr hO).at_ k c hk
  have := run_load_agg (P := P) (w := w) (b := ab A) (j := ao A + k * sz) (cs := c.toList) h1 (by simpa using hs) (fun i v hv => by
    have hi : i < c.size := by
      have := (List.getElem?_eq_some_iff.1 hv).1
      simpa using this
    rw [hc i (by omega)]; simpa using hv)
  simp [execOp, ho, ha.eval hx, Instr.loadAt, Instr.sureAddr, this]
/-- One cell of an element. -/
theorem y_elemF {t : TypeId} {x : Operand} {A : Option Addr} {sz k j : Nat} {xs : List (Array Value)} {c : Array Value} {v : Value} (ho : o.op = .load t x) (hx : ev V x = some (.pointer (some ⟨ab A, ao A + k * sz + j, none⟩))) (h1 : One P t)
    (hr : Rd w0 A sz xs) (hO : ab A ∉ O) (hk : xs[k]? = some c) (hv : c[j]? = some v) : Yld P w0 O n D o V L v := by
  intro a w ha hw
  obtain ⟨hs, _, _, _, hc⟩ := (hw.rd hr hO).at_ k c hk
  have hj : j < c.size := (Array.getElem?_eq_some_iff.1 hv).1
  have hcell : w.cell? ⟨ab A, ao A + k * sz + j, none⟩ = some v := by rw [hc j (by omega)]; exact hv
  simp [execOp, ho, ha.eval hx, Instr.loadAt, Instr.sureAddr, run_load_one h1 hcell]

/-! ### Making memory -/
theorem op_box {t : TypeId} {x : Operand} {d : Nat} {v : Value} (ho : o.op = .box t x) (hd : o.dst = some d) (hdn : Nat.blt d n = true) (hx : ev V x = some v)
    (hT : ∀ g, T ((d, .pointer (some ⟨g, 0, none⟩)) :: V) (.blk g (.cells v.cells t (0, 0)) :: L)) : OpS P w0 O n D o V L T := by
  intro a w ha hw
  have hr : (execOp a.eval o).run P w = .ok (.value (.pointer (some ⟨w.heap.size, 0, none⟩))) (w.alloc (.cells v.cells t)) := by
    simp [execOp, ho, ha.eval hx, Instr.box, newVar, newRow]
  unfold Does
  rw [hr, hd]
  exact ⟨_, _, hT _, ha.put hdn _, hw.alloc _⟩

/-- The zero value of a type. -/
def Zero (P : Program) (t : TypeId) (z : Value) : Prop := ∃ i, P.info? t = some i ∧ i.zero = some z

theorem op_alloc {t : TypeId} {d : Nat} {z : Value} (ho : o.op = .alloc t) (hd : o.dst = some d) (hdn : Nat.blt d n = true) (hz : Zero P t z)
    (hT : ∀ g, T ((d, .pointer (some ⟨g, 0, none⟩)) :: V) (.blk g (.cells z.cells t (0, 0)) :: L)) : OpS P w0 O n D o V L T := by
  intro a w ha hw
  obtain ⟨i, hi, hzz⟩ := hz
  have hr : (execOp a.eval o).run P w = .ok (.value (.pointer (some ⟨w.heap.size, 0, none⟩))) (w.alloc (.cells z.cells t)) := by
    simp [execOp, ho, Instr.alloc, zeroValue, typeInfo, hi, hzz, newVar, newRow]
  unfold Does
  rw [hr, hd]
  exact ⟨_, _, hT _, ha.put hdn _, hw.alloc _⟩

theorem op_makeMap {t : TypeId} {d : Nat} (ho : o.op = .makeMap t none) (hd : o.dst = some d) (hdn : Nat.blt d n = true)
    (hT : ∀ g, T ((d, .map (some g)) :: V) (.imap g (fun _ => none) :: L)) : OpS P w0 O n D o V L T := by
  intro a w ha hw
  have hr : (execOp a.eval o).run P w = .ok (.value (.map (some w.heap.size))) (w.alloc (.map #[] 0)) := by
    simp [execOp, ho, Instr.makeMap]
  have h1 := hw.alloc (.map #[] 0)
  have h2 : SL w0 O (w.alloc (.map #[] 0)) (.imap w.heap.size (fun _ => none) :: L) := by
    refine ⟨h1.os, h1.tape, h1.output, h1.size, h1.same, ?_, h1.nodup, ?_⟩
    · intro p hp
      rcases List.mem_cons.1 hp with rfl | hp
      · exact ⟨#[], 0, h1.ents _ List.mem_cons_self, by simp, fun k => rfl⟩
      · exact h1.ents p (List.mem_cons_of_mem _ hp)
    · intro p hp
      rcases List.mem_cons.1 hp with rfl | hp
      · exact h1.own (.blk w.heap.size (.map #[] 0)) List.mem_cons_self
      · exact h1.own p (List.mem_cons_of_mem _ hp)
  unfold Does
  rw [hr, hd]
  exact ⟨_, _, hT _, ha.put hdn _, h2⟩

/-! ### Writing -/
theorem list_set_split {α : Type} : ∀ {l : List α} {i : Nat} {x : α}, l[i]? = some x → ∃ A R, l = A ++ x :: R ∧ ∀ y, l.set i y = A ++ y :: R
  | [], i, x, h => by simp at h
  | a :: l, 0, x, h => ⟨[], l, by simpa using h, fun y => rfl⟩
  | a :: l, i + 1, x, h => by
    obtain ⟨A, R, h1, h2⟩ := list_set_split (l := l) (i := i) (x := x) (by simpa using h)
    exact ⟨a :: A, R, by rw [h1]; rfl, fun y => by rw [List.set_cons_succ, h2]; rfl⟩

theorem SL.setI {w w' : World} (h : SL w0 O w L) {i : Nat} {p p' : Ent} (hL : L[i]? = some p) (hos : w'.os = w.os) (ht : w'.tape = w.tape) (hou : w'.output = w.output)
    (hsz : w.heap.size ≤ w'.heap.size) (hp : p'.sat w') (hnd : p'.blocks.Nodup) (hbl : ∀ b ∈ p'.blocks, b ∈ p.blocks ∨ w.heap.size ≤ b) (hk : ∀ k, k < w.heap.size → k ∉ p.blocks → w'.heap[k]? = w.heap[k]?) : SL w0 O w' (L.set i p') := by
  obtain ⟨A, R, h1, h2⟩ := list_set_split hL
  rw [h2]
  exact h.set h1 hos ht hou hsz hp hnd hbl hk
theorem SL.setB {w w' : World} (h : SL w0 O w L) {i g : Nat} {ob : Obj} (hL : L[i]? = some (.blk g ob)) (o' : Obj) (hos : w'.os = w.os) (ht : w'.tape = w.tape) (hou : w'.output = w.output)
    (hsz : w'.heap.size = w.heap.size) (hg : w'.heap[g]? = some o') (hk : ∀ k, k ≠ g → w'.heap[k]? = w.heap[k]?) : SL w0 O w' (L.set i (.blk g o')) :=
  h.setI hL hos ht hou (Nat.le_of_eq hsz.symm) hg (by simp [Ent.blocks]) (fun b hb => .inl (by simpa [Ent.blocks] using hb)) (fun k _ hkb => hk k (by simpa [Ent.blocks] using hkb))

theorem run_store_row {t : TypeId} {g j sz : Nat} {v : Value} {cs : Array Value} {tt : TypeId} {w : World} (hs : SzT P t sz) (hv : v.cells.size = sz) (h1 : ∀ u ∈ v.cells.toList, u.oneCell' = true)
    (hg : w.heap[g]? = some (.cells cs tt (0, 0))) (hfit : j + sz ≤ cs.size) : (storeVar t ⟨g, j, none⟩ v).run P w = .ok () (w.setRow g (cs.toList.take j ++ v.cells.toList ++ cs.toList.drop (j + sz)).toArray) := by
  obtain ⟨i, hi, hsz⟩ := hs
  have hst := run_storeCells_at P g j tt v.cells.toList 0 cs w hg (by simpa [hv] using hfit) h1
  simp only [Nat.add_zero] at hst
  have hne : ¬ (v.cells.size ≠ i.size) := by rw [hv, hsz]; simp
  simp only [storeVar, sizeOf, typeInfo, Sem.run_bind, run_program, Result.andThen_ok, hi, Sem.run_pure, hne, if_false]
  rw [hst]
  simp [hv]

/-- A store into a known block: what it holds behind it. -/
theorem op_store {t : TypeId} {x y : Operand} {g j i sz : Nat} {v : Value} {cs cs' : Array Value} {tt : TypeId} (ho : o.op = .store t x y) (hd : o.dst = none) (hx : ev V x = some (.pointer (some ⟨g, j, none⟩))) (hy : ev V y = some v) (hs : SzT P t sz)
    (hv : v.cells.size = sz) (h1 : ∀ u ∈ v.cells.toList, u.oneCell' = true) (hL : L[i]? = some (.blk g (.cells cs tt (0, 0)))) (hfit : j + sz ≤ cs.size) (hcs : cs.toList.take j ++ v.cells.toList ++ cs.toList.drop (j + sz) = cs'.toList)
    (hT : T V (L.set i (.blk g (.cells cs' tt (0, 0))))) : OpS P w0 O n D o V L T := by
  intro a w ha hw
  have hg := hw.ents _ (List.mem_of_getElem? hL)
  have hr := run_store_row (P := P) hs hv h1 hg hfit
  have hr' : (execOp a.eval o).run P w = .ok .skip (w.setRow g cs') := by
    simp only [execOp, ho, ha.eval hx, ha.eval hy, Instr.storeAt, Instr.sureAddr]
    simp only [Sem.run_bind, Sem.run_pure, Result.andThen_ok, hr, hcs]
  unfold Does
  rw [hr', hd]
  refine ⟨_, _, hT, ha, hw.setB hL _ rfl rfl rfl (by simp) ?_ (fun k hk => setRow_other w g k _ hk)⟩
  exact setRow_heap w g cs cs' tt _ hg

/-! ### Calls -/
theorem op_call {f : Operand} {xs : Array Operand} {ts : Array TypeId} {k d : Nat} {cap : Array Value} {vs : List Value} {σ : Type} {val : σ → Value} {LL : σ → List Ent} {post : σ → Prop} {M R : List Ent}
    (ho : o.op = .call { callee := .value f, args := xs, argTypes := ts }) (hd : o.dst = some d) (hdn : Nat.blt d n = true) (hf : ev V f = some (.func (.func k) #[] cap)) (hx : evs V xs.toList = some vs)
    (ent : ∀ args w, (callFunc k args).run P w = .ok (.enter k args) w) (hL : L = M ++ R)
    (hc : ∀ w, SL w0 O w L → Calls P k (vs.toArray ++ cap) w fun e w' => ∃ x, post x ∧ e = .returned (val x) ∧ SL w (M.flatMap Ent.blocks) w' (LL x))
    (hT : ∀ x, post x → T ((d, val x) :: V) (LL x ++ R)) : OpS P w0 O n D o V L T := by
  intro a w ha hw
  have h1 := ha.evals hx
  have e1 : xs.map a.eval = vs.toArray := Array.ext' (by simpa using h1)
  have hr : (execOp a.eval o).run P w = .ok (.enter k (vs.toArray ++ cap)) w := by
    simp only [execOp, ho, resolve, ha.eval hf, Deferred.ofValue, e1]
    simp only [Sem.run_bind, Sem.run_pure, Result.andThen_ok, invoke]
    simp [ent]
  unfold Does
  rw [hr, hd]
  refine CallsIn.mono (callsIn_wide.2 (hc w hw)) ?_
  rintro e w' ⟨x, hp, he, hs⟩
  subst hL
  exact ⟨val x, he, _, _, hT x hp, ha.put hdn _, hw.call rfl hs⟩

/-- .. a callee that touches nothing of the caller's and hands back what is no memory. -/
theorem op_callV {f : Operand} {xs : Array Operand} {ts : Array TypeId} {k d : Nat} {cap : Array Value} {vs : List Value} {v : Value}
    (ho : o.op = .call { callee := .value f, args := xs, argTypes := ts }) (hd : o.dst = some d) (hdn : Nat.blt d n = true) (hf : ev V f = some (.func (.func k) #[] cap)) (hx : evs V xs.toList = some vs)
    (ent : ∀ args w, (callFunc k args).run P w = .ok (.enter k args) w)
    (hc : ∀ w, SL w0 O w L → Calls P k (vs.toArray ++ cap) w fun e w' => e = .returned v ∧ SL w [] w' [])
    (hT : T ((d, v) :: V) L) : OpS P w0 O n D o V L T :=
  op_call (σ := Unit) (val := fun _ => v) (LL := fun _ => []) (post := fun _ => True) (M := []) (R := L) ho hd hdn hf hx ent rfl (fun w hw => (hc w hw).mono fun _ _ ⟨h1, h2⟩ => ⟨(), trivial, h1, h2⟩) (fun _ _ => hT)

/-- .. one that hands back memory of its own. -/
theorem op_callE {f : Operand} {xs : Array Operand} {ts : Array TypeId} {k d : Nat} {cap : Array Value} {vs : List Value} {σ : Type} {val : σ → Value} {LL : σ → List Ent} {post : σ → Prop}
    (ho : o.op = .call { callee := .value f, args := xs, argTypes := ts }) (hd : o.dst = some d) (hdn : Nat.blt d n = true) (hf : ev V f = some (.func (.func k) #[] cap)) (hx : evs V xs.toList = some vs)
    (ent : ∀ args w, (callFunc k args).run P w = .ok (.enter k args) w)
    (hc : ∀ w, SL w0 O w L → Calls P k (vs.toArray ++ cap) w fun e w' => ∃ x, post x ∧ e = .returned (val x) ∧ SL w [] w' (LL x))
    (hT : ∀ x, post x → T ((d, val x) :: V) (LL x ++ L)) : OpS P w0 O n D o V L T :=
  op_call (M := []) (R := L) ho hd hdn hf hx ent rfl hc hT
end

/-! ### A function -/
def initV : Nat → List Value → List (Nat × Value)
  | _, [] => []
  | k, v :: r => (k, v) :: initV (k + 1) r

theorem lk_initV : ∀ (vs : List Value) (k t : Nat) (v : Value), lk (initV k vs) t = some v → k ≤ t ∧ vs[t - k]? = some v
  | [], _, _, _, h => by simp [initV, lk] at h
  | u :: r, k, t, v, h => by
    simp only [initV, lk] at h
    cases e : Nat.beq k t with
    | true =>
      rw [e] at h
      have : k = t := by simpa using e
      subst this
      simpa using h
    | false =>
      rw [e] at h
      obtain ⟨h1, h2⟩ := lk_initV r (k + 1) t v (by simpa using h)
      refine ⟨by omega, ?_⟩
      rw [show t - k = (t - (k + 1)) + 1 from by omega]
      simpa using h2

theorem Holds.init {args : List Value} {n : Nat} (hn : args.length ≤ n) : Holds n [] { tmps := args.toArray ++ Array.replicate (n - args.length) undef, defers := [] } (initV 0 args) := by
  refine ⟨rfl, by simp; omega, fun t v h => ?_⟩
  obtain ⟨_, h2⟩ := lk_initV args 0 t v h
  simp only [Nat.sub_zero] at h2
  have hlt : t < args.length := (List.getElem?_eq_some_iff.1 h2).1
  rw [Array.getElem?_append]
  simp [hlt]
  simpa [hlt] using h2

section
variable {P : Program} {w0 : World} {O : List Nat} {L : List Ent} {fn : Func} {R : Ending → World → Prop}

/-- The contract of a function out of its body. -/
theorem calls_of_CX {f : FuncId} {c : Code} {args : List Value} (hf : P.funcs[f]? = some fn) (hb : fn.body = some c) (hn : args.length ≤ fn.ntmps) (hs : SL w0 O w0 L)
    (h : CX P none (bodyPost P fn R) w0 O fn.ntmps [] c (initV 0 args) L) : Calls P f args.toArray w0 R := by
  refine calls_of_wp hf hb ?_
  have := wpIn_wide.1 (h _ w0 (Holds.init hn) hs)
  simpa using this

variable {n : Nat} {V : List (Nat × Value)}
theorem ret_tmp {t : Nat} {v : Value} (hr : fn.results = #[.tmp t]) (hv : lk V t = some v) (h : ∀ w, SL w0 O w L → R (.returned v) w) : XX (bodyPost P fn R) w0 O n [] .ret V L := by
  intro a w ha hw
  have := ha.at_ _ _ hv
  exact ⟨ha.defers, v, by rw [results_tmp hr]; simp [this], h w hw⟩
theorem ret_tmp2 {t t' : Nat} {v v' : Value} (hr : fn.results = #[.tmp t, .tmp t']) (hv : lk V t = some v) (hv' : lk V t' = some v') (h : ∀ w, SL w0 O w L → R (.returned (.tuple #[v, v'])) w) : XX (bodyPost P fn R) w0 O n [] .ret V L := by
  intro a w ha hw
  have h1 := ha.at_ _ _ hv
  have h2 := ha.at_ _ _ hv'
  exact ⟨ha.defers, _, by rw [results_tmp2 hr], by simpa [h1, h2] using h w hw⟩
theorem ret_tmp3 {t t' t'' : Nat} {v v' v'' : Value} (hr : fn.results = #[.tmp t, .tmp t', .tmp t'']) (hv : lk V t = some v) (hv' : lk V t' = some v') (hv'' : lk V t'' = some v'') (h : ∀ w, SL w0 O w L → R (.returned (.tuple #[v, v', v''])) w) : XX (bodyPost P fn R) w0 O n [] .ret V L := by
  intro a w ha hw
  have h1 := ha.at_ _ _ hv
  have h2 := ha.at_ _ _ hv'
  have h3 := ha.at_ _ _ hv''
  exact ⟨ha.defers, .tuple #[v, v', v''], by simp [results, hr, h1, h2, h3], h w hw⟩
theorem ret_none (hr : fn.results = #[]) (h : ∀ w, SL w0 O w L → R (.returned (.tuple #[])) w) : XX (bodyPost P fn R) w0 O n [] .ret V L := by
  intro a w ha hw
  exact ⟨ha.defers, _, results_none hr _ _ _, h w hw⟩
theorem end_none (hr : fn.results = #[]) (h : ∀ w, SL w0 O w L → R (.returned (.tuple #[])) w) : XX (bodyPost P fn R) w0 O n [] .normal V L := by
  intro a w ha hw
  exact ⟨ha.defers, _, results_none hr _ _ _, h w hw⟩
/-- A struct result lies in a block. -/
theorem ret_cell {t g i sz : Nat} {tt : TypeId} {cs : Array Value} {te : TypeId} {fr : Nat × Nat} (hr : fn.results = #[.cell t tt]) (hv : lk V t = some (.pointer (some ⟨g, 0, none⟩))) (h1 : AggT P tt sz) (hL : L[i]? = some (.blk g (.cells cs te fr))) (hs : cs.size = sz)
    (h : ∀ w, SL w0 O w L → R (.returned (.agg cs)) w) : XX (bodyPost P fn R) w0 O n [] .ret V L := by
  intro a w ha hw
  have hp := ha.at_ _ _ hv
  have hg := hw.ents _ (List.mem_of_getElem? hL)
  have := run_load_agg (P := P) (w := w) (b := g) (j := 0) (cs := cs.toList) h1 (by simpa using hs) (fun k v hv => by rw [cell_of_row w g _ cs te fr hg]; simpa using hv)
  exact ⟨ha.defers, .agg cs, by simp [results, hr, hp, asAddr, this], h w hw⟩
theorem ret_cellT {t t' g i sz : Nat} {tt : TypeId} {v : Value} {cs : Array Value} {te : TypeId} {fr : Nat × Nat} (hr : fn.results = #[.cell t tt, .tmp t']) (hv : lk V t = some (.pointer (some ⟨g, 0, none⟩))) (hv' : lk V t' = some v) (h1 : AggT P tt sz) (hL : L[i]? = some (.blk g (.cells cs te fr))) (hs : cs.size = sz)
    (h : ∀ w, SL w0 O w L → R (.returned (.tuple #[.agg cs, v])) w) : XX (bodyPost P fn R) w0 O n [] .ret V L := by
  intro a w ha hw
  have hp := ha.at_ _ _ hv
  have hp' := ha.at_ _ _ hv'
  have hg := hw.ents _ (List.mem_of_getElem? hL)
  have := run_load_agg (P := P) (w := w) (b := g) (j := 0) (cs := cs.toList) h1 (by simpa using hs) (fun k v hv => by rw [cell_of_row w g _ cs te fr hg]; simpa using hv)
  exact ⟨ha.defers, .tuple #[.agg cs, v], by simp [results, hr, hp, hp', asAddr, this], h w hw⟩
end
end Go.Proofs.YtpcfgoadkfajfaaGreatDoor
