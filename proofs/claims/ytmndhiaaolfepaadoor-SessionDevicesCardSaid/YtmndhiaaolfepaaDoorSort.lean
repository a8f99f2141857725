/- Plain lists: stable insertion sort, and what a stable merge of sorted parts is. No program. -/
namespace Go.Proofs.YtmndhiaaolfepaaDoor
set_option linter.all false
namespace Srt
variable {α : Type}

/-- Insert behind all elements that are not greater. -/
def ins (lt : α → α → Bool) (x : α) : List α → List α
  | [] => [x]
  | y :: r => if lt x y then x :: y :: r else y :: ins lt x r

/-- The stable sort. -/
def isort (lt : α → α → Bool) (l : List α) : List α := l.foldl (fun acc x => ins lt x acc) []

theorem ins_cons (lt : α → α → Bool) (x y : α) (r : List α) : ins lt x (y :: r) = if lt x y then x :: y :: r else y :: ins lt x r := rfl
theorem isort_nil (lt : α → α → Bool) : isort lt [] = [] := rfl
theorem isort_snoc (lt : α → α → Bool) (l : List α) (x : α) : isort lt (l ++ [x]) = ins lt x (isort lt l) := by
  simp [isort, List.foldl_append]

theorem ins_perm (lt : α → α → Bool) (x : α) : ∀ l, (ins lt x l).Perm (x :: l)
  | [] => List.Perm.refl _
  | y :: r => by
    unfold ins
    split
    · exact List.Perm.refl _
    · exact ((ins_perm lt x r).cons y).trans (List.Perm.swap x y r)

theorem foldl_ins_perm (lt : α → α → Bool) : ∀ (l acc : List α), (l.foldl (fun acc x => ins lt x acc) acc).Perm (acc ++ l)
  | [], acc => by simp
  | x :: l, acc => by
    simp only [List.foldl_cons]
    refine (foldl_ins_perm lt l _).trans ?_
    have h1 : (ins lt x acc ++ l).Perm ((x :: acc) ++ l) := (ins_perm lt x acc).append_right l
    refine h1.trans ?_
    have h2 : (x :: acc ++ l).Perm (acc ++ x :: l) := by
      simpa using (List.perm_middle (a := x) (l₁ := acc) (l₂ := l)).symm
    exact h2

theorem isort_perm (lt : α → α → Bool) (l : List α) : (isort lt l).Perm l := by
  simpa [isort] using foldl_ins_perm lt l []

/-- A strict weak order. -/
structure SWO (lt : α → α → Bool) : Prop where
  irrefl : ∀ a, lt a a = false
  trans : ∀ a b c, lt a b = true → lt b c = true → lt a c = true
  ntrans : ∀ a b c, lt a b = false → lt b c = false → lt a c = false

/-- No later element is less than an earlier one. -/
def Sorted (lt : α → α → Bool) (l : List α) : Prop := l.Pairwise (fun a b => lt b a = false)

theorem mem_ins (lt : α → α → Bool) (x y : α) (l : List α) : y ∈ ins lt x l ↔ y = x ∨ y ∈ l := by
  rw [(ins_perm lt x l).mem_iff]; simp

theorem SWO.asymm {lt : α → α → Bool} (h : SWO lt) {a b : α} (hab : lt a b = true) : lt b a = false := by
  cases hb : lt b a with
  | false => rfl
  | true => have := h.trans a b a hab hb; rw [h.irrefl] at this; cases this

theorem ins_sorted {lt : α → α → Bool} (h : SWO lt) (x : α) : ∀ {l}, Sorted lt l → Sorted lt (ins lt x l)
  | [], _ => by simp [ins, Sorted]
  | y :: r, hs => by
    unfold Sorted at hs
    rw [List.pairwise_cons] at hs
    unfold ins
    by_cases hxy : lt x y = true
    · rw [if_pos hxy]
      unfold Sorted
      rw [List.pairwise_cons, List.pairwise_cons]
      refine ⟨?_, hs.1, hs.2⟩
      intro z hz
      rcases List.mem_cons.1 hz with rfl | hz
      · exact h.asymm hxy
      · cases hzx : lt z x with
        | false => rfl
        | true => have := h.trans z x y hzx hxy; rw [hs.1 z hz] at this; cases this
    · rw [if_neg hxy]
      unfold Sorted
      rw [List.pairwise_cons]
      refine ⟨?_, ins_sorted h x hs.2⟩
      intro z hz
      rcases (mem_ins lt x z r).1 hz with rfl | hz
      · simpa using hxy
      · exact hs.1 z hz

theorem isort_sorted {lt : α → α → Bool} (h : SWO lt) (l : List α) : Sorted lt (isort lt l) := by
  have : ∀ (l acc : List α), Sorted lt acc → Sorted lt (l.foldl (fun acc x => ins lt x acc) acc) := by
    intro l
    induction l with
    | nil => intro acc ha; exact ha
    | cons x l ih => intro acc ha; exact ih _ (ins_sorted h x ha)
  exact this l [] List.Pairwise.nil

/-- Sorted by a total strict order: unique among permutations. -/
theorem sorted_unique {lt : α → α → Bool} (hirr : ∀ a, lt a a = false) (htr : ∀ a b c, lt a b = true → lt b c = true → lt a c = true) :
    ∀ (l m : List α), l.Pairwise (fun a b => lt a b = true) → m.Pairwise (fun a b => lt a b = true) → l.Perm m → l = m
  | [], m, _, _, hp => by
    have := hp.length_eq
    cases m with
    | nil => rfl
    | cons => simp at this
  | x :: l, [], _, _, hp => by have := hp.length_eq; simp at this
  | x :: l, y :: m, hl, hm, hp => by
    rw [List.pairwise_cons] at hl hm
    have hxy : x = y := by
      have h1 : x ∈ y :: m := hp.mem_iff.1 List.mem_cons_self
      have h2 : y ∈ x :: l := hp.mem_iff.2 List.mem_cons_self
      rcases List.mem_cons.1 h1 with h1 | h1
      · exact h1
      · rcases List.mem_cons.1 h2 with h2 | h2
        · exact h2.symm
        · have a := hm.1 x h1
          have b := hl.1 y h2
          have c := htr x y x b a
          rw [hirr] at c; cases c
    subst hxy
    rw [sorted_unique hirr htr l m hl.2 hm.2 (List.Perm.cons_inv hp)]

/-! ### Tags -/
/-- By the key, then by the tag. -/
def ltT (lt : α → α → Bool) (x y : α × Nat) : Bool := lt x.1 y.1 || (!lt y.1 x.1 && decide (x.2 < y.2))

theorem ltT_irrefl {lt : α → α → Bool} (h : SWO lt) (x : α × Nat) : ltT lt x x = false := by
  simp [ltT, h.irrefl]

theorem ltT_trans {lt : α → α → Bool} (h : SWO lt) (x y z : α × Nat) (h1 : ltT lt x y = true) (h2 : ltT lt y z = true) : ltT lt x z = true := by
  simp only [ltT, Bool.or_eq_true, Bool.and_eq_true, Bool.not_eq_true', decide_eq_true_eq] at *
  rcases h1 with h1 | ⟨h1, h1'⟩
  · rcases h2 with h2 | ⟨h2, h2'⟩
    · exact .inl (h.trans _ _ _ h1 h2)
    · left
      cases hxz : lt x.1 z.1 with
      | true => rfl
      | false => have := h.ntrans _ _ _ hxz h2; rw [h1] at this; cases this
  · rcases h2 with h2 | ⟨h2, h2'⟩
    · left
      cases hxz : lt x.1 z.1 with
      | true => rfl
      | false => have := h.ntrans _ _ _ h1 hxz; rw [h2] at this; cases this
    · right
      exact ⟨h.ntrans _ _ _ h2 h1, by omega⟩

/-- With a later tag on the left, the key decides. -/
theorem ltT_of_gt {lt : α → α → Bool} {x y : α × Nat} (h : y.2 < x.2) : ltT lt x y = lt x.1 y.1 := by
  have : decide (x.2 < y.2) = false := by simp; omega
  simp [ltT, this]

theorem ltT_total {lt : α → α → Bool} {x y : α × Nat} (h : y.2 < x.2) (hn : ltT lt x y = false) : ltT lt y x = true := by
  rw [ltT_of_gt h] at hn
  simp [ltT, hn, h]

/-- Strictly sorted by key and tag. -/
def TS (lt : α → α → Bool) (l : List (α × Nat)) : Prop := l.Pairwise (fun a b => ltT lt a b = true)

theorem ins_map_fst (lt : α → α → Bool) (x : α × Nat) : ∀ (l : List (α × Nat)), (∀ y ∈ l, y.2 < x.2) → (ins (ltT lt) x l).map Prod.fst = ins lt x.1 (l.map Prod.fst)
  | [], _ => rfl
  | y :: r, h => by
    have h1 := h y List.mem_cons_self
    unfold ins
    rw [ltT_of_gt h1]
    simp only [List.map_cons]
    split
    · rfl
    · simp only [List.map_cons]
      rw [ins_map_fst lt x r (fun z hz => h z (List.mem_cons_of_mem _ hz))]

/-- Tags ascend along the list. -/
def Asc (l : List (α × Nat)) : Prop := l.Pairwise (fun a b => a.2 < b.2)

theorem TS_ins {lt : α → α → Bool} (hw : SWO lt) (x : α × Nat) : ∀ {l : List (α × Nat)}, TS lt l → (∀ y ∈ l, y.2 < x.2) → TS lt (ins (ltT lt) x l)
  | [], _, _ => by simp [ins, TS]
  | y :: r, hs, ht => by
    unfold TS at hs
    rw [List.pairwise_cons] at hs
    unfold ins
    by_cases hxy : ltT lt x y = true
    · rw [if_pos hxy]
      unfold TS
      rw [List.pairwise_cons, List.pairwise_cons]
      refine ⟨?_, hs.1, hs.2⟩
      intro z hz
      rcases List.mem_cons.1 hz with rfl | hz
      · exact hxy
      · exact ltT_trans hw _ _ _ hxy (hs.1 z hz)
    · rw [if_neg hxy]
      unfold TS
      rw [List.pairwise_cons]
      refine ⟨?_, TS_ins hw x hs.2 (fun z hz => ht z (List.mem_cons_of_mem _ hz))⟩
      intro z hz
      rcases (mem_ins _ x z r).1 hz with rfl | hz
      · exact ltT_total (ht y List.mem_cons_self) (by simpa using hxy)
      · exact hs.1 z hz

theorem isort_tagged {lt : α → α → Bool} (hw : SWO lt) (T : List (α × Nat)) (hT : Asc T) :
    TS lt (isort (ltT lt) T) ∧ (isort (ltT lt) T).map Prod.fst = isort lt (T.map Prod.fst) := by
  have key : ∀ (T acc : List (α × Nat)) , Asc T → TS lt acc → (∀ y ∈ acc, ∀ x ∈ T, y.2 < x.2) →
      TS lt (T.foldl (fun acc x => ins (ltT lt) x acc) acc) ∧ (T.foldl (fun acc x => ins (ltT lt) x acc) acc).map Prod.fst = (T.map Prod.fst).foldl (fun acc x => ins lt x acc) (acc.map Prod.fst) := by
    intro T
    induction T with
    | nil => intro acc _ ha _; exact ⟨ha, rfl⟩
    | cons x T ih =>
      intro acc hT ha hlt
      unfold Asc at hT
      rw [List.pairwise_cons] at hT
      have hx : ∀ y ∈ acc, y.2 < x.2 := fun y hy => hlt y hy x List.mem_cons_self
      simp only [List.foldl_cons, List.map_cons]
      rw [← ins_map_fst lt x acc hx]
      refine ih _ hT.2 (TS_ins hw x ha hx) ?_
      intro y hy z hz
      rcases (mem_ins _ x y acc).1 hy with rfl | hy
      · exact hT.1 z hz
      · exact hlt y hy z (List.mem_cons_of_mem _ hz)
  simpa [isort] using key T [] hT List.Pairwise.nil (by simp)

/-- Whatever is sorted by key and tag, and a permutation of what came in ascending by tags, is the stable sort. -/
theorem isort_of_TS {lt : α → α → Bool} (hw : SWO lt) {T S : List (α × Nat)} (hT : Asc T) (hS : TS lt S) (hp : S.Perm T) :
    S.map Prod.fst = isort lt (T.map Prod.fst) := by
  obtain ⟨h1, h2⟩ := isort_tagged hw T hT
  rw [← h2]
  congr 1
  refine sorted_unique (lt := ltT lt) (ltT_irrefl hw) (ltT_trans hw) _ _ hS h1 ?_
  exact hp.trans (isort_perm _ _).symm

/-! ### The stable sort and filter -/
theorem filter_ins {lt : α → α → Bool} (hw : SWO lt) (p : α → Bool) (x : α) : ∀ {l}, Sorted lt l → (ins lt x l).filter p = if p x then ins lt x (l.filter p) else l.filter p
  | [], _ => by cases hp : p x <;> simp [ins, hp]
  | y :: r, hs => by
    unfold Sorted at hs
    rw [List.pairwise_cons] at hs
    have ih := filter_ins hw p x hs.2
    rw [ins_cons]
    by_cases hxy : lt x y = true
    · rw [if_pos hxy]
      cases hp : p x with
      | false => simp [hp]
      | true =>
        rw [List.filter_cons_of_pos hp]
        simp only [if_true]
        cases hy : p y with
        | true => rw [List.filter_cons_of_pos hy, ins_cons, if_pos hxy]
        | false =>
          rw [List.filter_cons_of_neg (by simp [hy])]
          -- x goes ahead of everything that is left
          have : ∀ (l : List α), (∀ z ∈ l, lt x z = true) → ins lt x l = x :: l := by
            intro l hl
            cases l with
            | nil => rfl
            | cons z t => simp [ins, hl z List.mem_cons_self]
          rw [this]
          intro z hz
          have hz' := hs.1 z (List.mem_filter.1 hz).1
          cases hxz : lt x z with
          | true => rfl
          | false => have := hw.ntrans _ _ _ hxz hz'; rw [hxy] at this; cases this
    · rw [if_neg hxy]
      cases hy : p y with
      | true =>
        rw [List.filter_cons_of_pos hy, List.filter_cons_of_pos hy, ih]
        cases hp : p x with
        | true => simp only [if_true]; rw [ins_cons, if_neg hxy]
        | false => simp
      | false =>
        rw [List.filter_cons_of_neg (by simp [hy]), List.filter_cons_of_neg (by simp [hy]), ih]

theorem filter_isort {lt : α → α → Bool} (hw : SWO lt) (p : α → Bool) (l : List α) : (isort lt l).filter p = isort lt (l.filter p) := by
  have key : ∀ (l acc : List α), Sorted lt acc → (l.foldl (fun acc x => ins lt x acc) acc).filter p = (l.filter p).foldl (fun acc x => ins lt x acc) (acc.filter p) := by
    intro l
    induction l with
    | nil => intro acc _; rfl
    | cons x l ih =>
      intro acc ha
      simp only [List.foldl_cons]
      rw [ih _ (ins_sorted hw x ha), filter_ins hw p x ha]
      cases hp : p x with
      | true => rw [List.filter_cons_of_pos hp]; simp
      | false => rw [List.filter_cons_of_neg (by simp [hp])]; simp
  simpa [isort] using key l [] List.Pairwise.nil

/-! ### Symmetric merge: the plain facts -/
/-- All tags on the left are less than all tags on the right. -/
def TagLt (A B : List (α × Nat)) : Prop := ∀ x ∈ A, ∀ y ∈ B, x.2 < y.2

theorem TS_append {lt : α → α → Bool} {A B : List (α × Nat)} : TS lt (A ++ B) ↔ TS lt A ∧ TS lt B ∧ ∀ x ∈ A, ∀ y ∈ B, ltT lt x y = true := by
  simp [TS, List.pairwise_append]

end Srt
end Go.Proofs.YtmndhiaaolfepaaDoor
