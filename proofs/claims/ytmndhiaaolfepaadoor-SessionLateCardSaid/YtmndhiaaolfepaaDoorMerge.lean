/- Plain lists: the stable sort is unique; what merges do. No program. -/
import Derived.Test.YtmndhiaaolfepaaDoorSort
namespace Go.Proofs.YtmndhiaaolfepaaDoor
set_option linter.all false
namespace Srt
variable {α : Type} {lt : α → α → Bool}

/-- Neither is less. -/
def eqv (lt : α → α → Bool) (x y : α) : Bool := !lt x y && !lt y x
theorem eqv_self (h : SWO lt) (x : α) : eqv lt x x = true := by simp [eqv, h.irrefl]
theorem eqv_iff {x y : α} : eqv lt x y = true ↔ lt x y = false ∧ lt y x = false := by simp [eqv]

theorem isort_id (h : SWO lt) {l : List α} (hs : Sorted lt l) : isort lt l = l := by
  have key : ∀ (r acc : List α), Sorted lt (acc ++ r) → r.foldl (fun acc x => ins lt x acc) acc = acc ++ r := by
    intro r
    induction r with
    | nil => intro acc _; simp
    | cons x r ih =>
      intro acc hacc
      have hx : ∀ (l : List α), (∀ y ∈ l, lt x y = false) → ins lt x l = l ++ [x] := by
        intro l
        induction l with
        | nil => intro _; rfl
        | cons y l ihl => intro hy; rw [ins_cons, hy y List.mem_cons_self]; simp [ihl fun z hz => hy z (List.mem_cons_of_mem _ hz)]
      have hxa : ∀ y ∈ acc, lt x y = false := fun y hy => by
        unfold Sorted at hacc
        rw [List.pairwise_append] at hacc
        exact hacc.2.2 y hy x List.mem_cons_self
      simp only [List.foldl_cons, hx acc hxa]
      rw [ih (acc ++ [x]) (by simpa using hacc)]
      simp
  simpa [isort] using key l [] (by simpa using hs)

theorem filter_all (h : SWO lt) (x : α) (l : List α) : (isort lt l).filter (eqv lt x) = l.filter (eqv lt x) := by
  rw [filter_isort h]
  refine isort_id h ?_
  unfold Sorted
  refine List.Pairwise.imp_of_mem (R := fun _ _ => True) ?_ (List.pairwise_of_forall (fun _ _ => trivial))
  intro a b ha hb _
  have h1 := (eqv_iff.1 (List.mem_filter.1 ha).2)
  have h2 := (eqv_iff.1 (List.mem_filter.1 hb).2)
  exact h.ntrans b x a h2.2 h1.1

theorem unique_of_filters (h : SWO lt) : ∀ {l m : List α}, Sorted lt l → Sorted lt m → (∀ x, l.filter (eqv lt x) = m.filter (eqv lt x)) → l = m
  | [], [], _, _, _ => rfl
  | [], b :: m, _, _, hf => by have := hf b; rw [List.filter_cons_of_pos (eqv_self h b)] at this; simp at this
  | a :: l, [], _, _, hf => by have := hf a; rw [List.filter_cons_of_pos (eqv_self h a)] at this; simp at this
  | a :: l, b :: m, hl, hm, hf => by
    have hl' := hl
    have hm' := hm
    unfold Sorted at hl' hm'
    rw [List.pairwise_cons] at hl' hm'
    have ha : a ∈ b :: m := by
      have : a ∈ (a :: l).filter (eqv lt a) := List.mem_filter.2 ⟨List.mem_cons_self, eqv_self h a⟩
      rw [hf a] at this
      exact (List.mem_filter.1 this).1
    have hb : b ∈ a :: l := by
      have : b ∈ (b :: m).filter (eqv lt b) := List.mem_filter.2 ⟨List.mem_cons_self, eqv_self h b⟩
      rw [← hf b] at this
      exact (List.mem_filter.1 this).1
    have h1 : lt a b = false := by
      rcases List.mem_cons.1 ha with e | ha
      · rw [e]; exact h.irrefl b
      · exact hm'.1 a ha
    have h2 : lt b a = false := by
      rcases List.mem_cons.1 hb with e | hb
      · rw [e]; exact h.irrefl a
      · exact hl'.1 b hb
    have hab : eqv lt a b = true := eqv_iff.2 ⟨h1, h2⟩
    have h3 := hf a
    rw [List.filter_cons_of_pos (eqv_self h a), List.filter_cons_of_pos hab] at h3
    injection h3 with h3 h4
    subst h3
    refine congrArg (a :: ·) (unique_of_filters h hl'.2 hm'.2 fun x => ?_)
    have h5 := hf x
    by_cases hx : eqv lt x a = true
    · rw [List.filter_cons_of_pos hx, List.filter_cons_of_pos hx] at h5
      injection h5
    · rw [List.filter_cons_of_neg hx, List.filter_cons_of_neg hx] at h5
      exact h5

theorem isort_unique (h : SWO lt) {l m : List α} (hm : Sorted lt m) (hf : ∀ x, m.filter (eqv lt x) = l.filter (eqv lt x)) : m = isort lt l :=
  unique_of_filters h hm (isort_sorted h l) fun x => by rw [filter_all h, hf]

theorem isort_isort (h : SWO lt) (A B : List α) : isort lt (isort lt A ++ isort lt B) = isort lt (A ++ B) :=
  isort_unique h (isort_sorted h _) fun x => by simp [filter_all h]

theorem sorted_append {A B : List α} : Sorted lt (A ++ B) ↔ Sorted lt A ∧ Sorted lt B ∧ ∀ a ∈ A, ∀ b ∈ B, lt b a = false := by
  unfold Sorted; rw [List.pairwise_append]

theorem merge_split (h : SWO lt) {A1 A2 B1 B2 : List α} (hA : Sorted lt (A1 ++ A2)) (hB : Sorted lt (B1 ++ B2)) (h1 : ∀ a ∈ A1, ∀ b ∈ B2, lt b a = false) (h2 : ∀ b ∈ B1, ∀ a ∈ A2, lt b a = true) :
    isort lt (A1 ++ B1) ++ isort lt (A2 ++ B2) = isort lt (A1 ++ A2 ++ (B1 ++ B2)) := by
  obtain ⟨_, _, hA3⟩ := sorted_append.1 hA
  obtain ⟨_, _, hB3⟩ := sorted_append.1 hB
  refine isort_unique h (sorted_append.2 ⟨isort_sorted h _, isort_sorted h _, ?_⟩) ?_
  · intro a ha b hb
    rw [(isort_perm lt _).mem_iff] at ha hb
    rcases List.mem_append.1 ha with ha | ha <;> rcases List.mem_append.1 hb with hb | hb
    · exact hA3 a ha b hb
    · exact h1 a ha b hb
    · exact SWO.asymm h (h2 a ha b hb)
    · exact hB3 a ha b hb
  · intro x
    simp only [List.filter_append, filter_all h, List.append_assoc]
    congr 1
    have : B1.filter (eqv lt x) = [] ∨ A2.filter (eqv lt x) = [] := by
      cases hb : B1.filter (eqv lt x) with
      | nil => exact .inl rfl
      | cons b r =>
        refine .inr (List.filter_eq_nil_iff.2 fun a ha hx => ?_)
        have hbm : b ∈ B1.filter (eqv lt x) := by rw [hb]; exact List.mem_cons_self
        obtain ⟨hb1, hb2⟩ := List.mem_filter.1 hbm
        have e1 := eqv_iff.1 hb2
        have e2 := eqv_iff.1 hx
        have := h.ntrans b x a e1.2 e2.1
        rw [h2 b hb1 a ha] at this
        cases this
    rcases this with e | e <;> simp [e]

theorem merge_first (h : SWO lt) {x : α} {B1 B2 : List α} (hB : Sorted lt (B1 ++ B2)) (h1 : ∀ b ∈ B1, lt b x = true) (h2 : ∀ b ∈ B2, lt b x = false) : isort lt ([x] ++ (B1 ++ B2)) = B1 ++ x :: B2 := by
  have := merge_split (A1 := []) (A2 := [x]) h (by simp [Sorted]) hB (by simp) (fun b hb a ha => by rw [List.mem_singleton.1 ha]; exact h1 b hb)
  simp only [List.nil_append] at this
  rw [← this, isort_id h (sorted_append.1 hB).1, isort_id h]
  · rfl
  · refine sorted_append.2 ⟨by simp [Sorted], (sorted_append.1 hB).2.1, fun a ha b hb => ?_⟩
    rw [List.mem_singleton.1 ha]; exact h2 b hb

theorem merge_last (h : SWO lt) {y : α} {A1 A2 : List α} (hA : Sorted lt (A1 ++ A2)) (h1 : ∀ a ∈ A1, lt y a = false) (h2 : ∀ a ∈ A2, lt y a = true) : isort lt (A1 ++ A2 ++ [y]) = A1 ++ y :: A2 := by
  have := merge_split (B1 := [y]) (B2 := []) h hA (by simp [Sorted]) (by simp) (fun b hb a ha => by rw [List.mem_singleton.1 hb]; exact h2 a ha)
  simp only [List.append_nil] at this
  rw [← this, isort_id h (l := A2) (sorted_append.1 hA).2.1, isort_id h]
  · simp
  · refine sorted_append.2 ⟨(sorted_append.1 hA).1, by simp [Sorted], fun a ha b hb => ?_⟩
    rw [List.mem_singleton.1 hb]; exact h1 a ha

theorem ins_place (h : SWO lt) {x : α} {A1 A2 : List α} (hA : Sorted lt (A1 ++ A2)) (h1 : ∀ a ∈ A1, lt x a = false) (h2 : ∀ a ∈ A2, lt x a = true) : ins lt x (A1 ++ A2) = A1 ++ x :: A2 := by
  rw [← merge_last h hA h1 h2, isort_snoc, isort_id h hA]

/-- All up to the last one. -/
theorem below_last (h : SWO lt) {A : List α} {z y : α} (hA : Sorted lt (A ++ [z])) (hy : lt y z = false) : ∀ a ∈ A ++ [z], lt y a = false := by
  intro a ha
  rcases List.mem_append.1 ha with ha | ha
  · exact h.ntrans y z a hy ((sorted_append.1 hA).2.2 a ha z (by simp))
  · rw [List.mem_singleton.1 ha]; exact hy
theorem above_first (h : SWO lt) {A : List α} {z y : α} (hA : Sorted lt (z :: A)) (hy : lt y z = true) : ∀ a ∈ z :: A, lt y a = true := by
  intro a ha
  rcases List.mem_cons.1 ha with rfl | ha
  · exact hy
  · cases hc : lt y a with
    | true => rfl
    | false =>
      have := h.ntrans y a z hc ((List.pairwise_cons.1 hA).1 a ha)
      rw [hy] at this; cases this
/-- The ends decide. -/
theorem cond1 (h : SWO lt) {A B : List α} {x y : α} (hA : Sorted lt (A ++ [x])) (hB : Sorted lt (y :: B)) (hxy : lt y x = false) : ∀ a ∈ A ++ [x], ∀ b ∈ y :: B, lt b a = false := by
  intro a ha b hb
  have h1 := below_last h hA hxy a ha
  rcases List.mem_cons.1 hb with rfl | hb
  · exact h1
  · exact h.ntrans b y a ((List.pairwise_cons.1 hB).1 b hb) h1
theorem cond2 (h : SWO lt) {A B : List α} {x y : α} (hA : Sorted lt (x :: A)) (hB : Sorted lt (B ++ [y])) (hxy : lt y x = true) : ∀ b ∈ B ++ [y], ∀ a ∈ x :: A, lt b a = true := by
  intro b hb a ha
  have h1 := above_first h hA hxy a ha
  rcases List.mem_append.1 hb with hb | hb
  · cases hc : lt b a with
    | true => rfl
    | false =>
      have := h.ntrans y b a ((sorted_append.1 hB).2.2 b hb y (by simp)) hc
      rw [h1] at this; cases this
  · rw [List.mem_singleton.1 hb]; exact h1

/-! ### Sorting by blocks -/
/-- The first c blocks of k are sorted. -/
def cs (lt : α → α → Bool) (k : Nat) : Nat → List α → List α
  | 0, l => l
  | c + 1, l => isort lt (l.take k) ++ cs lt k c (l.drop k)
/-- The first c pairs of blocks of k are merged, the others are as sorted by blocks. -/
def ms (lt : α → α → Bool) (k f : Nat) : Nat → List α → List α
  | 0, l => cs lt k f l
  | c + 1, l => isort lt (l.take (2 * k)) ++ ms lt k f c (l.drop (2 * k))

theorem isort_length (l : List α) : (isort lt l).length = l.length := (isort_perm lt l).length_eq
theorem cs_length (k : Nat) : ∀ (c : Nat) (l : List α), (cs lt k c l).length = l.length
  | 0, _ => rfl
  | c + 1, l => by simp [cs, isort_length, cs_length k c]; omega
theorem ms_length (k f : Nat) : ∀ (c : Nat) (l : List α), (ms lt k f c l).length = l.length
  | 0, _ => cs_length k f _
  | c + 1, l => by simp [ms, isort_length, ms_length k f c]; omega
theorem cs_nil (k : Nat) : ∀ c, cs lt k c ([] : List α) = []
  | 0 => rfl
  | c + 1 => by simp [cs, isort_nil, cs_nil k c]

/-- One more block. -/
theorem cs_step (k : Nat) : ∀ (c : Nat) (l : List α), ∃ pre, pre.length = min (k * c) l.length ∧ cs lt k c l = pre ++ l.drop (k * c) ∧ ∀ d, cs lt k (c + d) l = pre ++ cs lt k d (l.drop (k * c))
  | 0, l => ⟨[], by simp, by simp [cs], fun d => by simp⟩
  | c + 1, l => by
    obtain ⟨pre, h1, h2, h3⟩ := cs_step k c (l.drop k)
    have e : k * (c + 1) = k + k * c := by rw [Nat.mul_succ, Nat.add_comm]
    refine ⟨isort lt (l.take k) ++ pre, ?_, ?_, fun d => ?_⟩
    · rw [List.length_append, isort_length, List.length_take, h1, List.length_drop, e]; omega
    · simp only [cs, h2, List.append_assoc, List.drop_drop, e]
    · rw [show c + 1 + d = (c + d) + 1 from by omega]
      simp only [cs, h3, List.append_assoc, List.drop_drop, e]

theorem take_succ_block {k c : Nat} (l : List α) : isort lt ((l.drop (k * c)).take k) ++ (l.drop (k * c)).drop k = cs lt k 1 (l.drop (k * c)) := by simp [cs]

theorem ms_step (k f : Nat) : ∀ (c : Nat) (l : List α), ∃ pre, pre.length = min (2 * k * c) l.length ∧ ∀ d, ms lt k f (c + d) l = pre ++ ms lt k f d (l.drop (2 * k * c))
  | 0, l => ⟨[], by simp, fun d => by simp⟩
  | c + 1, l => by
    obtain ⟨pre, h1, h3⟩ := ms_step k f c (l.drop (2 * k))
    have e : 2 * k * (c + 1) = 2 * k + 2 * k * c := by rw [Nat.mul_succ, Nat.add_comm]
    refine ⟨isort lt (l.take (2 * k)) ++ pre, ?_, fun d => ?_⟩
    · rw [List.length_append, isort_length, List.length_take, h1, List.length_drop, e]; omega
    · rw [show c + 1 + d = (c + d) + 1 from by omega]
      simp only [ms, h3, List.append_assoc, List.drop_drop, e]

/-- Two blocks merged. -/
theorem pair_merge (h : SWO lt) (k f : Nat) (l : List α) : ∃ A B R, A = isort lt (l.take k) ∧ B = isort lt ((l.drop k).take k) ∧ cs lt k (f + 2) l = A ++ B ++ R ∧ R = cs lt k f (l.drop (2 * k)) ∧ isort lt (A ++ B) = isort lt (l.take (2 * k)) := by
  refine ⟨_, _, _, rfl, rfl, ?_, rfl, ?_⟩
  · simp only [cs, List.append_assoc, List.drop_drop]; rw [show k + k = 2 * k from by omega]
  · rw [isort_isort h]
    congr 1
    rw [show 2 * k = k + k from by omega, List.take_add]

/-- With enough blocks, more make no difference. -/
theorem cs_enough (k : Nat) (hk : 0 < k) : ∀ (c : Nat) (l : List α), l.length ≤ k * c → ∀ d, cs lt k (c + d) l = cs lt k c l
  | 0, l, hl, d => by
    have : l = [] := List.length_eq_zero_iff.1 (by omega)
    subst this; rw [cs_nil, cs_nil]
  | c + 1, l, hl, d => by
    rw [show c + 1 + d = (c + d) + 1 from by omega]
    simp only [cs]
    rw [cs_enough k hk c (l.drop k) (by rw [List.length_drop, Nat.mul_succ] at *; omega) d]
theorem cs_one (k : Nat) (c : Nat) (l : List α) (hl : l.length ≤ k) : cs lt k (c + 1) l = isort lt l := by
  simp only [cs]
  rw [List.take_of_length_le hl, List.drop_eq_nil_of_le hl, cs_nil, List.append_nil]

/-! ### What the binary searches find -/
theorem split_le {l : List α} {k : Nat} (h : k ≤ l.length) : ∃ a b, l = a ++ b ∧ a.length = k := ⟨l.take k, l.drop k, (List.take_append_drop k l).symm, by simp; omega⟩
theorem get_app {p q r : List α} {x : α} {k : Nat} (h : (p ++ q ++ r)[k]? = some x) (h1 : p.length ≤ k) (h2 : k < p.length + q.length) : q[k - p.length]? = some x := by
  rw [List.append_assoc, List.getElem?_append_right h1, List.getElem?_append_left (by omega)] at h
  exact h
/-- The last of the first part. -/
theorem get_last {a b : List α} {x : α} (h : (a ++ b)[a.length - 1]? = some x) (ha : 0 < a.length) : ∃ a', a = a' ++ [x] := by
  rw [List.getElem?_append_left (by omega)] at h
  refine ⟨a.dropLast, ?_⟩
  have hne : a ≠ [] := by intro e; subst e; simp at ha
  have : a.getLast hne = x := by
    rw [List.getLast_eq_getElem]
    obtain ⟨_, h⟩ := List.getElem?_eq_some_iff.1 h
    exact h
  rw [← this, List.dropLast_concat_getLast hne]
theorem get_first {a b : List α} {x : α} (h : (a ++ b)[a.length]? = some x) : ∃ b', b = x :: b' := by
  rw [List.getElem?_append_right (Nat.le_refl _), Nat.sub_self] at h
  cases b with
  | nil => simp at h
  | cons y b => simp at h; subst h; exact ⟨b, rfl⟩

theorem search_first (h : SWO lt) {p V r : List α} {x : α} {i : Nat} (hV : Sorted lt V) (h1 : p.length + 1 ≤ i) (h2 : i ≤ p.length + 1 + V.length)
    (ha : i = p.length + 1 ∨ ∃ z, (p ++ [x] ++ V ++ r)[i - 1]? = some z ∧ lt z x = true) (hb : i = p.length + 1 + V.length ∨ ∃ z, (p ++ [x] ++ V ++ r)[i]? = some z ∧ lt z x = false) :
    ∃ B1 B2, V = B1 ++ B2 ∧ p.length + 1 + B1.length = i ∧ isort lt ([x] ++ V) = B1 ++ x :: B2 := by
  obtain ⟨B1, B2, rfl, hl⟩ := split_le (l := V) (k := i - (p.length + 1)) (by omega)
  rw [List.length_append] at h2 hb
  have get : ∀ {k z}, (p ++ [x] ++ (B1 ++ B2) ++ r)[k]? = some z → p.length + 1 ≤ k → k < p.length + 1 + (B1.length + B2.length) → (B1 ++ B2)[k - (p.length + 1)]? = some z := fun {k z} hk h3 h4 => by
    have := get_app (p := p ++ [x]) (q := B1 ++ B2) (r := r) (k := k) hk (by simpa using h3) (by simpa using h4)
    simpa using this
  refine ⟨B1, B2, rfl, by omega, merge_first h hV ?_ ?_⟩
  · rcases ha with ha | ⟨z, hz, hzx⟩
    · have : B1 = [] := List.length_eq_zero_iff.1 (by omega)
      subst this; simp
    · rcases Nat.eq_zero_or_pos B1.length with h0 | h0
      · have : B1 = [] := List.length_eq_zero_iff.1 h0
        subst this; simp
      · have := get hz (by omega) (by omega)
        rw [show i - 1 - (p.length + 1) = B1.length - 1 from by omega] at this
        obtain ⟨B1', rfl⟩ := get_last this h0
        intro b hb
        exact cond2 h (A := []) (x := x) (by simp [Sorted]) (sorted_append.1 hV).1 hzx b hb x (by simp)
  · rcases hb with hb | ⟨z, hz, hzx⟩
    · have : B2 = [] := List.length_eq_zero_iff.1 (by omega)
      subst this; simp
    · rcases Nat.lt_or_ge i (p.length + 1 + (B1.length + B2.length)) with h3 | h3
      · have := get hz (by omega) h3
        rw [← hl] at this
        obtain ⟨B2', rfl⟩ := get_first this
        intro b hb
        exact cond1 h (A := []) (x := x) (by simp [Sorted]) (sorted_append.1 hV).2.1 hzx x (by simp) b hb
      · have : B2 = [] := List.length_eq_zero_iff.1 (by omega)
        subst this; simp

theorem search_last (h : SWO lt) {p U r : List α} {y : α} {i : Nat} (hU : Sorted lt U) (h1 : p.length ≤ i) (h2 : i ≤ p.length + U.length)
    (ha : i = p.length ∨ ∃ z, (p ++ U ++ [y] ++ r)[i - 1]? = some z ∧ lt y z = false) (hb : i = p.length + U.length ∨ ∃ z, (p ++ U ++ [y] ++ r)[i]? = some z ∧ lt y z = true) :
    ∃ A1 A2, U = A1 ++ A2 ∧ p.length + A1.length = i ∧ isort lt (U ++ [y]) = A1 ++ y :: A2 := by
  obtain ⟨A1, A2, rfl, hl⟩ := split_le (l := U) (k := i - p.length) (by omega)
  rw [List.length_append] at h2 hb
  have get : ∀ {k z}, (p ++ (A1 ++ A2) ++ [y] ++ r)[k]? = some z → p.length ≤ k → k < p.length + (A1.length + A2.length) → (A1 ++ A2)[k - p.length]? = some z := fun {k z} hk h3 h4 => by
    rw [List.append_assoc (p ++ (A1 ++ A2))] at hk
    exact get_app (p := p) (q := A1 ++ A2) (r := [y] ++ r) (k := k) hk h3 (by simpa using h4)
  refine ⟨A1, A2, rfl, by omega, merge_last h hU ?_ ?_⟩
  · rcases ha with ha | ⟨z, hz, hzx⟩
    · have : A1 = [] := List.length_eq_zero_iff.1 (by omega)
      subst this; simp
    · rcases Nat.eq_zero_or_pos A1.length with h0 | h0
      · have : A1 = [] := List.length_eq_zero_iff.1 h0
        subst this; simp
      · have := get hz (by omega) (by omega)
        rw [show i - 1 - p.length = A1.length - 1 from by omega] at this
        obtain ⟨A1', rfl⟩ := get_last this h0
        exact below_last h (sorted_append.1 hU).1 hzx
  · rcases hb with hb | ⟨z, hz, hzx⟩
    · have : A2 = [] := List.length_eq_zero_iff.1 (by omega)
      subst this; simp
    · rcases Nat.lt_or_ge i (p.length + (A1.length + A2.length)) with h3 | h3
      · have := get hz (by omega) h3
        rw [← hl] at this
        obtain ⟨A2', rfl⟩ := get_first this
        exact above_first h (sorted_append.1 hU).2.1 hzx
      · have : A2 = [] := List.length_eq_zero_iff.1 (by omega)
        subst this; simp

/-- The general search: start is s. -/
theorem search_mid (h : SWO lt) {p U V r : List α} {m b mid lo hi s : Nat} (hU : Sorted lt U) (hV : Sorted lt V) (hm : p.length + U.length = m) (hb : m + V.length = b)
    (hmid : mid = (p.length + b) / 2) (hlo : lo = (if mid < m then mid + m - b else p.length)) (hhi : hi = (if mid < m then mid else m)) (h1 : lo ≤ s) (h2 : s ≤ hi) (h3 : p.length ≤ lo)
    (hA : s = lo ∨ ∃ x y, (p ++ U ++ V ++ r)[s - 1]? = some x ∧ (p ++ U ++ V ++ r)[mid + m - s]? = some y ∧ lt y x = false)
    (hB : s = hi ∨ ∃ x y, (p ++ U ++ V ++ r)[s]? = some x ∧ (p ++ U ++ V ++ r)[mid + m - 1 - s]? = some y ∧ lt y x = true) :
    ∃ A1 A2 B1 B2, U = A1 ++ A2 ∧ V = B1 ++ B2 ∧ p.length + A1.length = s ∧ p.length + A1.length + B1.length = mid ∧ m + B1.length = mid + m - s ∧ isort lt (A1 ++ B1) ++ isort lt (A2 ++ B2) = isort lt (U ++ V) := by
  have hs1 : s ≤ m ∧ s ≤ mid := by subst hhi; split at h2 <;> omega
  have hs2 : mid + m - s ≤ b := by subst hlo; split at h1 <;> omega
  obtain ⟨A1, A2, rfl, hl⟩ := split_le (l := U) (k := s - p.length) (by omega)
  obtain ⟨B1, B2, rfl, hl'⟩ := split_le (l := V) (k := mid - s) (by omega)
  simp only [List.length_append] at hm hb
  have getU : ∀ {k z}, (p ++ (A1 ++ A2) ++ (B1 ++ B2) ++ r)[k]? = some z → p.length ≤ k → k < p.length + (A1.length + A2.length) → (A1 ++ A2)[k - p.length]? = some z := fun {k z} hk h3 h4 => by
    rw [List.append_assoc (p ++ (A1 ++ A2))] at hk
    exact get_app (p := p) (q := A1 ++ A2) (r := B1 ++ B2 ++ r) (k := k) hk h3 (by simpa using h4)
  have getV : ∀ {k z}, (p ++ (A1 ++ A2) ++ (B1 ++ B2) ++ r)[k]? = some z → m ≤ k → k < b → (B1 ++ B2)[k - m]? = some z := fun {k z} hk h3 h4 => by
    have := get_app (p := p ++ (A1 ++ A2)) (q := B1 ++ B2) (r := r) (k := k) hk (by simp; omega) (by simp; omega)
    rwa [show k - (p ++ (A1 ++ A2)).length = k - m from by simp; omega] at this
  refine ⟨A1, A2, B1, B2, rfl, rfl, by omega, by omega, by omega, merge_split h hU hV ?_ ?_⟩
  · rcases Nat.eq_zero_or_pos A1.length with h0 | h0
    · have : A1 = [] := List.length_eq_zero_iff.1 h0
      subst this; simp
    rcases Nat.eq_zero_or_pos B2.length with h0' | h0'
    · have : B2 = [] := List.length_eq_zero_iff.1 h0'
      subst this; simp
    rcases hA with hA | ⟨x, y, hx, hy, hxy⟩
    · exfalso; subst hlo; split at hA <;> omega
    · have hx' := getU hx (by omega) (by omega)
      rw [show s - 1 - p.length = A1.length - 1 from by omega] at hx'
      obtain ⟨A1', rfl⟩ := get_last hx' h0
      have hy' := getV hy (by omega) (by omega)
      rw [show mid + m - s - m = B1.length from by omega] at hy'
      obtain ⟨B2', rfl⟩ := get_first hy'
      exact cond1 h (sorted_append.1 hU).1 (sorted_append.1 hV).2.1 hxy
  · rcases Nat.eq_zero_or_pos A2.length with h0 | h0
    · have : A2 = [] := List.length_eq_zero_iff.1 h0
      subst this; simp
    rcases Nat.eq_zero_or_pos B1.length with h0' | h0'
    · have : B1 = [] := List.length_eq_zero_iff.1 h0'
      subst this; simp
    rcases hB with hB | ⟨x, y, hx, hy, hxy⟩
    · exfalso; subst hhi; split at hB <;> omega
    · have hx' := getU hx (by omega) (by omega)
      rw [show s - p.length = A1.length from by omega] at hx'
      obtain ⟨A2', rfl⟩ := get_first hx'
      have hy' := getV hy (by omega) (by omega)
      rw [show mid + m - 1 - s - m = B1.length - 1 from by omega] at hy'
      obtain ⟨B1', rfl⟩ := get_last hy' h0'
      exact cond2 h (sorted_append.1 hU).2.1 (sorted_append.1 hV).1 hxy

/-! ### Rounds of the sort -/
theorem ms_cs_step (k f : Nat) : ∀ (c : Nat) (l : List α), ∃ pre, pre.length = min (2 * k * c) l.length ∧ (∀ d, ms lt k f (c + d) l = pre ++ ms lt k f d (l.drop (2 * k * c))) ∧ ∀ d, cs lt (2 * k) (c + d) l = pre ++ cs lt (2 * k) d (l.drop (2 * k * c))
  | 0, l => ⟨[], by simp, fun d => by simp, fun d => by simp⟩
  | c + 1, l => by
    obtain ⟨pre, h1, h3, h4⟩ := ms_cs_step k f c (l.drop (2 * k))
    have e : 2 * k * (c + 1) = 2 * k + 2 * k * c := by rw [Nat.mul_succ, Nat.add_comm]
    refine ⟨isort lt (l.take (2 * k)) ++ pre, ?_, fun d => ?_, fun d => ?_⟩
    · rw [List.length_append, isort_length, List.length_take, h1, List.length_drop, e]; omega
    · rw [show c + 1 + d = (c + d) + 1 from by omega]
      simp only [ms, h3, List.append_assoc, List.drop_drop, e]
    · rw [show c + 1 + d = (c + d) + 1 from by omega]
      simp only [cs, h4, List.append_assoc, List.drop_drop, e]

theorem le_mul_pos {k n m : Nat} (hk : 0 < k) (h : n ≤ m) : n ≤ k * m := Nat.le_trans h (Nat.le_mul_of_pos_left m hk)

theorem cs_ins {k c a n : Nat} {l : List α} (hl : l.length = n) (ha : a = k * c) (hb : a + k ≤ n) : ∃ P s r, cs lt k c l = P ++ s ++ r ∧ P.length = a ∧ s.length = k ∧ cs lt k (c + 1) l = P ++ isort lt s ++ r := by
  obtain ⟨P, h1, h2, h3⟩ := cs_step (lt := lt) k c l
  refine ⟨P, (l.drop (k * c)).take k, (l.drop (k * c)).drop k, by rw [h2, List.append_assoc, List.take_append_drop], by omega, by simp; omega, ?_⟩
  rw [h3 1]; simp [cs]
theorem cs_rest {k c a n : Nat} {l : List α} (hk : 0 < k) (hl : l.length = n) (ha : a = k * c) (hb : a ≤ n) (hc : n < a + k) : ∃ P s, cs lt k c l = P ++ s ∧ P.length = a ∧ a + s.length = n ∧ cs lt k (n + 1) l = P ++ isort lt s := by
  obtain ⟨P, h1, h2, h3⟩ := cs_step (lt := lt) k c l
  refine ⟨P, l.drop (k * c), h2, by omega, by simp; omega, ?_⟩
  have hcn : c ≤ n := by
    have := Nat.le_mul_of_pos_left c hk
    omega
  rw [show n + 1 = c + ((n - c) + 1) from by omega, h3, cs_one]
  simp; omega

theorem ms_one (h : SWO lt) {k d a n : Nat} {l : List α} (hk : 0 < k) (hl : l.length = n) (ha : a = 2 * k * d) (hb : a + 2 * k ≤ n) :
    ∃ P A B R, ms lt k (n + 1) d l = P ++ A ++ B ++ R ∧ P.length = a ∧ A.length = k ∧ B.length = k ∧ Sorted lt A ∧ Sorted lt B ∧ ms lt k (n + 1) (d + 1) l = P ++ isort lt (A ++ B) ++ R := by
  obtain ⟨P, h1, h2, _⟩ := ms_cs_step (lt := lt) k (n + 1) d l
  obtain ⟨A, B, R, hA, hB, h4, hR, h5⟩ := pair_merge h k (n - 1) (l.drop (2 * k * d))
  rw [show n - 1 + 2 = n + 1 from by omega] at h4
  refine ⟨P, A, B, R, ?_, by omega, ?_, ?_, ?_, ?_, ?_⟩
  · have : ms lt k (n + 1) d l = _ := h2 0
    rw [this]; simp only [ms]; rw [h4]; simp
  · rw [hA, isort_length]; simp; omega
  · rw [hB, isort_length]; simp; omega
  · rw [hA]; exact isort_sorted h _
  · rw [hB]; exact isort_sorted h _
  · rw [h2 1, h5]
    simp only [ms, List.append_assoc]
    rw [hR, show n + 1 = (n - 1) + 2 from by omega, cs_enough k hk (n - 1) _ (le_mul_pos hk (by simp; omega)) 2]
theorem ms_rest (h : SWO lt) {k d a n : Nat} {l : List α} (hk : 0 < k) (hl : l.length = n) (ha : a = 2 * k * d) (hb : n < a + 2 * k) (hm : a + k < n) :
    ∃ P A B, ms lt k (n + 1) d l = P ++ A ++ B ∧ P.length = a ∧ A.length = k ∧ a + k + B.length = n ∧ Sorted lt A ∧ Sorted lt B ∧ cs lt (2 * k) (n + 1) l = P ++ isort lt (A ++ B) := by
  obtain ⟨P, h1, h2, h3⟩ := ms_cs_step (lt := lt) k (n + 1) d l
  obtain ⟨A, B, R, hA, hB, h4, hR, h5⟩ := pair_merge h k (n - 1) (l.drop (2 * k * d))
  rw [show n - 1 + 2 = n + 1 from by omega] at h4
  have hR0 : R = [] := by rw [hR, List.drop_eq_nil_of_le (by simp; omega), cs_nil]
  refine ⟨P, A, B, ?_, by omega, ?_, ?_, ?_, ?_, ?_⟩
  · have : ms lt k (n + 1) d l = _ := h2 0
    rw [this]; simp only [ms]; rw [h4, hR0]; simp
  · rw [hA, isort_length]; simp; omega
  · rw [hB, isort_length]; simp; omega
  · rw [hA]; exact isort_sorted h _
  · rw [hB]; exact isort_sorted h _
  · have hdn : d ≤ n := by
      have := Nat.le_mul_of_pos_left d (show 0 < 2 * k by omega)
      omega
    rw [show n + 1 = d + ((n - d) + 1) from by omega, h3, cs_one _ _ _ (by simp; omega), h5]
    rw [List.take_of_length_le (l := l.drop (2 * k * d)) (by simp; omega)]
theorem ms_last {k d a n : Nat} {l : List α} (hk : 0 < k) (hl : l.length = n) (ha : a = 2 * k * d) (hb : a ≤ n) (hm : n ≤ a + k) : ms lt k (n + 1) d l = cs lt (2 * k) (n + 1) l := by
  obtain ⟨P, h1, h2, h3⟩ := ms_cs_step (lt := lt) k (n + 1) d l
  have hdn : d ≤ n := by
    have := Nat.le_mul_of_pos_left d (show 0 < 2 * k by omega)
    omega
  have : ms lt k (n + 1) d l = _ := h2 0
  rw [this]; simp only [ms]
  rw [cs_one k n _ (by simp; omega)]
  rw [show n + 1 = d + ((n - d) + 1) from by omega, h3, cs_one _ _ _ (by simp; omega)]
end Srt
end Go.Proofs.YtmndhiaaolfepaaDoor
