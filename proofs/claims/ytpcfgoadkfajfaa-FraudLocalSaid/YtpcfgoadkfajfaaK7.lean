/- Measures and marks of streams, plainly. No program in it. Walks, printed by a program. A map's element read and stored by its entry. Streams by subjects, as a map of slices. No program's function in it. Walks, printed by a program. Walks, printed by a program. What the rounds over a stream's subjects leave. No program's function in it. Walks, printed by a program. -/
import Derived.Test.YtpcfgoadkfajfaaK5
import Derived.Test.YtpcfgoadkfajfaaK6
import Derived.Test.YtpcfgoadkfajfaaK2
namespace Go.Proofs.Ytpcfgoadkfajfaa
set_option linter.all false
/-! ### How many different numbers -/
theorem kget_some_mem {κ α : Type} [DecidableEq κ] {x : κ} {v : α} : ∀ {l : List (κ × α)}, kget x l = some v → (x, v) ∈ l
  | [], h => by cases h
  | p :: r, h => by
    unfold kget at h
    by_cases hx : x = p.1
    · rw [if_pos hx] at h
      obtain rfl := Option.some.inj h
      rw [hx]; exact List.mem_cons_self
    · rw [if_neg hx] at h
      exact List.mem_cons_of_mem _ (kget_some_mem h)
theorem kset_keys {κ α : Type} [DecidableEq κ] (x : κ) (v : α) : ∀ l : List (κ × α), (kset x v l).map Prod.fst = if x ∈ l.map Prod.fst then l.map Prod.fst else l.map Prod.fst ++ [x]
  | [] => rfl
  | p :: r => by
    unfold kset
    by_cases hx : x = p.1
    · rw [if_pos hx]; simp [hx]
    · rw [if_neg hx, List.map_cons, kset_keys x v r]
      by_cases hm : x ∈ r.map Prod.fst
      · rw [if_pos hm, if_pos (by rw [List.map_cons]; exact List.mem_cons_of_mem _ hm)]; rfl
      · rw [if_neg hm, if_neg (by rw [List.map_cons]; intro h; rcases List.mem_cons.1 h with h | h; exact hx h; exact hm h)]; rfl
theorem seenL_spec (xs : List Int) : ((seenL xs).map Prod.fst).Nodup ∧ ∀ x, x ∈ (seenL xs).map Prod.fst ↔ x ∈ xs := by
  have H : ∀ n (xs : List Int), xs.length = n → ((seenL xs).map Prod.fst).Nodup ∧ ∀ x, x ∈ (seenL xs).map Prod.fst ↔ x ∈ xs := by
    intro n
    induction n with
    | zero => intro xs h; obtain rfl := List.eq_nil_of_length_eq_zero h; exact ⟨by simp [seenL], by simp [seenL]⟩
    | succ n ih =>
      intro xs h
      obtain ⟨ys, y, rfl⟩ : ∃ ys y, xs = ys ++ [y] := ⟨xs.dropLast, xs.getLast (by intro h2; simp [h2] at h), (List.dropLast_concat_getLast _).symm⟩
      obtain ⟨h1, h2⟩ := ih ys (by simpa using h)
      rw [seenL_snoc, kset_keys]
      by_cases hm : y ∈ (seenL ys).map Prod.fst
      · rw [if_pos hm]
        refine ⟨h1, fun x => ?_⟩
        rw [h2, List.mem_append, List.mem_singleton]
        exact ⟨.inl, fun h => h.elim id fun e => by rw [e]; exact (h2 y).1 hm⟩
      · rw [if_neg hm]
        refine ⟨List.nodup_append.2 ⟨h1, by simp, fun a ha b hb e => ?_⟩, fun x => ?_⟩
        · rw [List.mem_singleton.1 hb] at e; rw [e] at ha; exact hm ha
        · rw [List.mem_append, List.mem_append, h2]
  exact H _ xs rfl
theorem nodup_le {α : Type} [DecidableEq α] : ∀ {xs ys : List α}, xs.Nodup → (∀ x ∈ xs, x ∈ ys) → xs.length ≤ ys.length
  | [], ys, _, _ => Nat.zero_le _
  | x :: xs, ys, hn, h => by
    rw [List.nodup_cons] at hn
    have h1 := nodup_le (xs := xs) (ys := ys.erase x) hn.2 (fun y hy => by
      rw [List.mem_erase_of_ne (fun e => hn.1 (by rw [← e]; exact hy))]
      exact h y (List.mem_cons_of_mem _ hy))
    have h2 := List.length_erase_of_mem (h x List.mem_cons_self)
    have h3 := List.length_pos_of_mem (h x List.mem_cons_self)
    rw [List.length_cons]; omega
theorem dcount_le {xs ys : List Int} (h : ∀ x ∈ xs, x ∈ ys) : dcount xs ≤ dcount ys := by
  obtain ⟨a1, a2⟩ := seenL_spec xs
  obtain ⟨b1, b2⟩ := seenL_spec ys
  have := nodup_le a1 (ys := (seenL ys).map Prod.fst) (fun x hx => (b2 x).2 (h x ((a2 x).1 hx)))
  simpa [dcount] using this
theorem dcount_len (xs : List Int) : dcount xs ≤ xs.length := by
  obtain ⟨a1, a2⟩ := seenL_spec xs
  have := nodup_le a1 (ys := xs) (fun x hx => (a2 x).1 hx)
  simpa [dcount] using this
theorem dcount_nodup {xs : List Int} (h : xs.Nodup) : dcount xs = xs.length := by
  obtain ⟨a1, a2⟩ := seenL_spec xs
  have h1 := dcount_len xs
  have h2 := nodup_le h (ys := (seenL xs).map Prod.fst) (fun x hx => (a2 x).2 hx)
  rw [List.length_map] at h2
  exact Nat.le_antisymm h1 h2
theorem dcount_unique {xs ys : List Int} (h : ys.Nodup) (hm : ∀ x, x ∈ ys ↔ x ∈ xs) : dcount xs = ys.length := by
  rw [← dcount_nodup h]
  exact Nat.le_antisymm (dcount_le fun x hx => (hm x).2 hx) (dcount_le fun x hx => (hm x).1 hx)
/-! ### Groups -/
def accs (l : List Sm) : List Int := l.map Sm.acc
theorem fst_edges (l : List Sm) : (edgesOf l).map Prod.fst = accs l := by simp [edgesOf, accs]
theorem snd_edges (l : List Sm) : (edgesOf l).map Prod.snd = l.map Sm.dev := by simp [edgesOf]
/-- Accounts that are joined. -/
def joinA (l : List Sm) (a b : Int) : Bool := decide (rep (edgesOf l) (false, a) = rep (edgesOf l) (false, b))
def inGrp (l : List Sm) (s : Sm) (k : Int) (t : Sm) : Bool :=
  if k = 1 then decide (t.acc = s.acc) else if k = 2 then decide (t.dev = s.dev) else if k = 3 then decide (s.acc ∈ accs l) && joinA l t.acc s.acc else false
def grp (l : List Sm) (s : Sm) (k : Int) : List Sm := l.filter (inGrp l s k)
def meas (l : List Sm) (s : Sm) (k m : Int) : Nat := cnt (grp l s k) m
/-- A judgement with this action that a stream meets. -/
def meets (rs : List Ru) (l : List Sm) (s : Sm) (act : Int) : Bool := rs.any fun r => okR r && decide (r.act = act) && decide (r.n < ((meas l s r.sub r.mea : Nat) : Int))
def free (rs : List Ru) (s : Sm) : Bool := rs.any fun r => okR r && decide (r.act = 3) && decide (r.n = s.acc)
def jud (rs : List Ru) (l : List Sm) (s : Sm) : Int := if free rs s = true then 1 else if meets rs l s 2 = true then 3 else if meets rs l s 1 = true then 2 else 1
theorem cnt_le {l l' : List Sm} (hn : l.length ≤ l'.length) (h : ∀ t ∈ l, t ∈ l') (m : Int) : cnt l m ≤ cnt l' m := by
  have hs : ∀ f : Sm → Int, ∀ x ∈ l.map f, x ∈ l'.map f := fun f x hx => by
    obtain ⟨t, ht, rfl⟩ := List.mem_map.1 hx
    exact List.mem_map.2 ⟨t, h t ht, rfl⟩
  unfold cnt
  split; · exact hn
  split; · exact dcount_le (hs _)
  split; · exact dcount_le (hs _)
  split; · exact dcount_le (hs _)
  exact Nat.le_refl _
theorem cnt_len (l : List Sm) (m : Int) : cnt l m ≤ l.length := by
  unfold cnt
  split; · exact Nat.le_refl _
  split; · have := dcount_len (l.map Sm.acc); simpa using this
  split; · have := dcount_len (l.map Sm.dev); simpa using this
  split; · have := dcount_len (l.map Sm.song); simpa using this
  exact Nat.zero_le _
theorem cnt_pos {l : List Sm} {m : Int} (hl : l ≠ []) (h1 : 1 ≤ m) (h4 : m ≤ 4) : 1 ≤ cnt l m := by
  have hd : ∀ f : Sm → Int, 1 ≤ dcount (l.map f) := fun f => by
    obtain ⟨x, r, rfl⟩ := List.exists_cons_of_ne_nil hl
    have : dcount [f x] ≤ dcount ((x :: r).map f) := dcount_le fun y hy => by rw [List.mem_singleton.1 hy]; exact List.mem_map.2 ⟨x, List.mem_cons_self, rfl⟩
    exact Nat.le_trans (by rw [dcount_nodup (by simp)]; exact Nat.le_refl _) this
  unfold cnt
  split; · exact List.length_pos_iff.2 hl
  split; · exact hd _
  split; · exact hd _
  split; · exact hd _
  omega
/-- More streams, more in every group. -/
theorem filter_len {α : Type} {p q : α → Bool} : ∀ {l : List α}, (∀ x ∈ l, p x = true → q x = true) → (l.filter p).length ≤ (l.filter q).length
  | [], _ => Nat.le_refl _
  | a :: l, h => by
    have ih := filter_len (l := l) fun x hx => h x (List.mem_cons_of_mem _ hx)
    simp only [List.filter_cons]
    cases hp : p a with
    | false => cases q a <;> simp <;> omega
    | true => rw [h a List.mem_cons_self hp]; simpa using ih
theorem join_mono {l l' : List Sm} (h : ∀ t ∈ l, t ∈ l') {a b : Int} (hj : joinA l a b = true) : joinA l' a b = true := by
  unfold joinA at *
  rw [decide_eq_true_eq] at *
  rw [rep_eq] at *
  refine hj.mono fun e he => ?_
  obtain ⟨t, ht, rfl⟩ := List.mem_map.1 he
  exact List.mem_map.2 ⟨t, h t ht, rfl⟩
theorem inGrp_mono {l l' : List Sm} (h : ∀ t ∈ l, t ∈ l') {s t : Sm} {k : Int} (hg : inGrp l s k t = true) : inGrp l' s k t = true := by
  unfold inGrp at *
  split at hg
  · rename_i h1; rw [if_pos h1]; exact hg
  · rename_i h1; rw [if_neg h1]
    split at hg
    · rename_i h2; rw [if_pos h2]; exact hg
    · rename_i h2; rw [if_neg h2]
      split at hg
      · rename_i h3; rw [if_pos h3]
        rw [Bool.and_eq_true, decide_eq_true_eq] at *
        refine ⟨?_, join_mono h hg.2⟩
        obtain ⟨t, ht, e⟩ := List.mem_map.1 hg.1
        exact List.mem_map.2 ⟨t, h t ht, e⟩
      · cases hg
theorem meas_snoc (l : List Sm) (x s : Sm) (k m : Int) : meas l s k m ≤ meas (l ++ [x]) s k m := by
  have hs : ∀ t ∈ l, t ∈ l ++ [x] := fun t ht => List.mem_append_left _ ht
  refine cnt_le ?_ ?_ m
  · refine Nat.le_trans (filter_len (p := inGrp l s k) (q := inGrp (l ++ [x]) s k) fun t _ ht => inGrp_mono hs ht) ?_
    unfold grp; rw [List.filter_append, List.length_append]; omega
  · intro t ht
    obtain ⟨h1, h2⟩ := List.mem_filter.1 ht
    exact List.mem_filter.2 ⟨hs t h1, inGrp_mono hs h2⟩
theorem meas_perm {l l' : List Sm} (h : l.Perm l') (s : Sm) (k m : Int) : meas l s k m = meas l' s k m := by
  have H : ∀ {l l' : List Sm}, l.Perm l' → meas l s k m ≤ meas l' s k m := by
    intro l l' h
    have hs : ∀ t ∈ l, t ∈ l' := fun t ht => h.mem_iff.1 ht
    refine cnt_le ?_ ?_ m
    · refine Nat.le_trans (filter_len fun t _ ht => inGrp_mono hs ht) ?_
      exact Nat.le_of_eq (h.filter _).length_eq
    · intro t ht
      obtain ⟨h1, h2⟩ := List.mem_filter.1 ht
      exact List.mem_filter.2 ⟨hs t h1, inGrp_mono hs h2⟩
  exact Nat.le_antisymm (H h) (H h.symm)
/-! ### Marks -/
theorem meets_perm {rs rs' : List Ru} {l l' : List Sm} (hr : rs.Perm rs') (h : l.Perm l') (s : Sm) (a : Int) : meets rs l s a = meets rs' l' s a := by
  have : (fun r : Ru => okR r && decide (r.act = a) && decide (r.n < ((meas l s r.sub r.mea : Nat) : Int))) = (fun r : Ru => okR r && decide (r.act = a) && decide (r.n < ((meas l' s r.sub r.mea : Nat) : Int))) := by
    funext r; rw [meas_perm h]
  unfold meets; rw [this, Bool.eq_iff_iff, List.any_eq_true, List.any_eq_true]
  exact ⟨fun ⟨r, h1, h2⟩ => ⟨r, hr.mem_iff.1 h1, h2⟩, fun ⟨r, h1, h2⟩ => ⟨r, hr.mem_iff.2 h1, h2⟩⟩
theorem free_perm {rs rs' : List Ru} (hr : rs.Perm rs') (s : Sm) : free rs s = free rs' s := by
  unfold free; rw [Bool.eq_iff_iff, List.any_eq_true, List.any_eq_true]
  exact ⟨fun ⟨r, h1, h2⟩ => ⟨r, hr.mem_iff.1 h1, h2⟩, fun ⟨r, h1, h2⟩ => ⟨r, hr.mem_iff.2 h1, h2⟩⟩
theorem jud_perm {rs rs' : List Ru} {l l' : List Sm} (hr : rs.Perm rs') (h : l.Perm l') (s : Sm) : jud rs l s = jud rs' l' s := by
  unfold jud; rw [free_perm hr, meets_perm hr h, meets_perm hr h]
theorem jud_range (rs : List Ru) (l : List Sm) (s : Sm) : 1 ≤ jud rs l s ∧ jud rs l s ≤ 3 := by
  unfold jud; repeat' split
  all_goals omega
/-- More exemptions, fewer judgements: no mark is greater. -/
theorem jud_le {rs rs' : List Ru} {l l' : List Sm} {s : Sm} (hf : free rs' s = true → free rs s = true) (h2 : meets rs l s 2 = true → meets rs' l' s 2 = true) (h1 : meets rs l s 1 = true → meets rs' l' s 1 = true) : jud rs l s ≤ jud rs' l' s := by
  unfold jud
  by_cases f : free rs s = true
  · rw [if_pos f]; repeat' split
    all_goals omega
  · rw [if_neg f, if_neg (fun h => f (hf h))]
    by_cases m2 : meets rs l s 2 = true
    · rw [if_pos m2, if_pos (h2 m2)]; omega
    · rw [if_neg m2]
      by_cases m1 : meets rs l s 1 = true
      · rw [if_pos m1, if_pos (h1 m1)]; split <;> omega
      · rw [if_neg m1]; repeat' split
        all_goals omega
theorem jud_late (rs : List Ru) (l : List Sm) (x s : Sm) : jud rs l s ≤ jud rs (l ++ [x]) s := by
  have H : ∀ a, meets rs l s a = true → meets rs (l ++ [x]) s a = true := fun a h => by
    obtain ⟨r, h1, h2⟩ := List.any_eq_true.1 h
    refine List.any_eq_true.2 ⟨r, h1, ?_⟩
    rw [Bool.and_eq_true, decide_eq_true_eq] at *
    exact ⟨h2.1, by have := meas_snoc l x s r.sub r.mea; omega⟩
  exact jud_le id (H 2) (H 1)
theorem jud_more {rs : List Ru} {l : List Sm} {s : Sm} {r : Ru} (h : r.act ≠ 3) : jud rs l s ≤ jud (rs ++ [r]) l s := by
  have H : ∀ a, meets rs l s a = true → meets (rs ++ [r]) l s a = true := fun a h => by unfold meets at *; rw [List.any_append, h]; rfl
  refine jud_le (fun hf => ?_) (H 2) (H 1)
  unfold free at *; rw [List.any_append] at hf
  simpa [h] using hf
theorem jud_allow {rs : List Ru} {l : List Sm} {s : Sm} {r : Ru} (h : r.act = 3) : jud (rs ++ [r]) l s ≤ jud rs l s := by
  have H : ∀ a, a ≠ 3 → meets (rs ++ [r]) l s a = true → meets rs l s a = true := fun a ha hm => by
    unfold meets at *; rw [List.any_append] at hm; simpa [h, Ne.symm ha] using hm
  refine jud_le (fun hf => ?_) (H 2 (by decide)) (H 1 (by decide))
  unfold free at *; rw [List.any_append, hf]; rfl
theorem jud_none {rs : List Ru} {l : List Sm} {s : Sm} (h : ∀ r ∈ rs, r.act ≠ 1 ∧ r.act ≠ 2) : jud rs l s = 1 := by
  have H : ∀ a, a = 1 ∨ a = 2 → meets rs l s a = false := fun a ha => by
    cases hm : meets rs l s a with
    | false => rfl
    | true =>
      obtain ⟨r, h1, h2⟩ := List.any_eq_true.1 hm
      rw [Bool.and_eq_true, Bool.and_eq_true, decide_eq_true_eq] at h2
      have := h r h1; omega
  unfold jud; rw [H 2 (.inr rfl), H 1 (.inl rfl)]; simp
theorem jud_bad {rs : List Ru} {l : List Sm} {s : Sm} (h : ∀ r ∈ rs, okR r = false) : jud rs l s = 1 := by
  have H : ∀ a, meets rs l s a = false := fun a => by
    cases hm : meets rs l s a with
    | false => rfl
    | true =>
      obtain ⟨r, h1, h2⟩ := List.any_eq_true.1 hm
      rw [h r h1] at h2; cases h2
  unfold jud; rw [H 2, H 1]; simp
theorem jud_free {rs : List Ru} {l : List Sm} {s : Sm} (h : free rs s = true) : jud rs l s = 1 := by unfold jud; rw [if_pos h]
/-! ### Streams that are joined -/
theorem conn_in {E : List (Int × Int)} {c : Nd} {F : List (Int × Int)} (hF : ∀ e ∈ E, Conn E (false, e.1) c → e ∈ F) {x y : Nd} (h : Conn E x y) : Conn E x c → Conn F x y := by
  induction h with
  | refl x => exact fun _ => .refl x
  | edge he => exact fun hc => .edge (hF _ he hc)
  | symm h ih => exact fun hc => (ih (h.trans hc)).symm
  | trans h1 h2 i1 i2 => exact fun hc => (i1 hc).trans (i2 (h1.symm.trans hc))
def near (l : List Sm) (a : Int) : List Sm := l.filter fun t => joinA l t.acc a
theorem near_sub (l : List Sm) (a : Int) : ∀ t ∈ near l a, t ∈ l := fun t ht => (List.mem_filter.1 ht).1
theorem near_join {l : List Sm} {c a b : Int} (ha : joinA l a c = true) (h : joinA l a b = true) : joinA (near l c) a b = true := by
  unfold joinA at *
  rw [decide_eq_true_eq] at *
  rw [rep_eq] at *
  refine conn_in (c := (false, c)) (fun e he hc => ?_) h ha
  obtain ⟨t, ht, rfl⟩ := List.mem_map.1 he
  refine List.mem_map.2 ⟨t, List.mem_filter.2 ⟨ht, ?_⟩, rfl⟩
  show joinA l t.acc c = true
  unfold joinA; rw [decide_eq_true_eq, rep_eq]; exact hc
theorem join_refl (l : List Sm) (a : Int) : joinA l a a = true := by simp [joinA]
theorem join_symm {l : List Sm} {a b : Int} (h : joinA l a b = true) : joinA l b a = true := by
  unfold joinA at *; rw [decide_eq_true_eq] at *; exact h.symm
theorem join_dev {l : List Sm} {s t : Sm} (hs : s ∈ l) (ht : t ∈ l) (h : t.dev = s.dev) : joinA l t.acc s.acc = true := by
  unfold joinA; rw [decide_eq_true_eq, rep_eq]
  have h1 : Conn (edgesOf l) (false, t.acc) (true, t.dev) := .edge (List.mem_map.2 ⟨t, ht, rfl⟩)
  have h2 : Conn (edgesOf l) (false, s.acc) (true, s.dev) := .edge (List.mem_map.2 ⟨s, hs, rfl⟩)
  rw [h] at h1; exact h1.trans h2.symm
theorem grp_near {l : List Sm} {s : Sm} (hs : s ∈ l) (k : Int) : grp (near l s.acc) s k = grp l s k := by
  unfold grp
  rw [near, List.filter_filter]
  refine List.filter_congr fun t ht => ?_
  have hsn : s ∈ near l s.acc := List.mem_filter.2 ⟨hs, join_refl l _⟩
  rw [Bool.eq_iff_iff, Bool.and_eq_true]
  constructor
  · exact fun h => inGrp_mono (near_sub l s.acc) h.1
  · intro h
    have hj : joinA l t.acc s.acc = true := by
      unfold inGrp at h
      split at h
      · rw [of_decide_eq_true h]; exact join_refl l _
      · split at h
        · exact join_dev hs ht (of_decide_eq_true h)
        · split at h
          · rw [Bool.and_eq_true] at h; exact h.2
          · cases h
    refine ⟨?_, hj⟩
    have e : near l s.acc = l.filter fun t => joinA l t.acc s.acc := rfl
    rw [← e]
    unfold inGrp at *
    split
    · rename_i h1; rwa [if_pos h1] at h
    · rename_i h1; rw [if_neg h1] at h
      split
      · rename_i h2; rwa [if_pos h2] at h
      · rename_i h2; rw [if_neg h2] at h
        split
        · rw [Bool.and_eq_true, decide_eq_true_eq]
          exact ⟨List.mem_map.2 ⟨s, hsn, rfl⟩, near_join hj hj⟩
        · rename_i h3; rw [if_neg h3] at h; cases h
theorem jud_near {rs : List Ru} {l : List Sm} {s : Sm} (hs : s ∈ l) : jud rs (near l s.acc) s = jud rs l s := by
  have : ∀ a, meets rs (near l s.acc) s a = meets rs l s a := fun a => by unfold meets meas; simp only [grp_near hs]
  unfold jud; rw [this, this]
/-! ### Measures beside each other -/
theorem meas_part {l : List Sm} {s : Sm} (hs : s ∈ l) {k : Int} (hk : k = 1 ∨ k = 2) (m : Int) : meas l s k m ≤ meas l s 3 m := by
  have H : ∀ t ∈ l, inGrp l s k t = true → inGrp l s 3 t = true := by
    intro t ht h
    have hj : joinA l t.acc s.acc = true := by
      rcases hk with rfl | rfl
      · have : t.acc = s.acc := by simpa [inGrp] using h
        rw [this]; exact join_refl l _
      · exact join_dev hs ht (by simpa [inGrp] using h)
    have : s.acc ∈ accs l := List.mem_map.2 ⟨s, hs, rfl⟩
    simp [inGrp, hj, this]
  exact cnt_le (filter_len H) (fun t ht => by obtain ⟨h1, h2⟩ := List.mem_filter.1 ht; exact List.mem_filter.2 ⟨h1, H t h1 h2⟩) m
theorem mem_grp {l : List Sm} {s : Sm} (hs : s ∈ l) {k : Int} (h1 : 1 ≤ k) (h3 : k ≤ 3) : s ∈ grp l s k := by
  refine List.mem_filter.2 ⟨hs, ?_⟩
  have : s.acc ∈ accs l := List.mem_map.2 ⟨s, hs, rfl⟩
  rcases (by omega : k = 1 ∨ k = 2 ∨ k = 3) with rfl | rfl | rfl <;> simp [inGrp, this, join_refl]
theorem meas_pos {l : List Sm} {s : Sm} (hs : s ∈ l) {k m : Int} (h1 : 1 ≤ k) (h3 : k ≤ 3) (m1 : 1 ≤ m) (m4 : m ≤ 4) : 1 ≤ meas l s k m := cnt_pos (List.ne_nil_of_mem (mem_grp hs h1 h3)) m1 m4
theorem meas_len (l : List Sm) (s : Sm) (k m : Int) : meas l s k m ≤ l.length := Nat.le_trans (cnt_len _ m) (List.length_filter_le _ _)
theorem meas_streams (l : List Sm) (s : Sm) (k m : Int) : meas l s k m ≤ meas l s k 1 := cnt_len _ m
theorem meas_none {l : List Sm} {s : Sm} {k m : Int} (h : ¬ (1 ≤ k ∧ k ≤ 3 ∧ 1 ≤ m ∧ m ≤ 4)) : meas l s k m = 0 := by
  by_cases hk : 1 ≤ k ∧ k ≤ 3
  · unfold meas cnt
    rw [if_neg (by omega), if_neg (by omega), if_neg (by omega), if_neg (by omega)]
  · have : grp l s k = [] := by
      unfold grp; refine List.filter_eq_nil_iff.2 fun t _ => ?_
      unfold inGrp; rw [if_neg (by omega), if_neg (by omega), if_neg (by omega)]; simp
    unfold meas; rw [this]
    unfold cnt; repeat' split
    all_goals rfl
theorem same_dcount {xs : List Int} {a : Int} (hx : xs ≠ []) (h : ∀ x ∈ xs, x = a) : dcount xs = 1 := by
  refine dcount_unique (ys := [a]) (by simp) fun x => ?_
  rw [List.mem_singleton]
  refine ⟨fun e => ?_, h x⟩
  obtain ⟨y, r, rfl⟩ := List.exists_cons_of_ne_nil hx
  rw [e, ← h y List.mem_cons_self]; exact List.mem_cons_self
theorem meas_one_acc {l : List Sm} {s : Sm} (hs : s ∈ l) : meas l s 1 2 = 1 := by
  show dcount _ = 1
  refine same_dcount (a := s.acc) (by have := List.ne_nil_of_mem (mem_grp hs (k := 1) (by decide) (by decide)); simpa using this) fun x hx => ?_
  obtain ⟨t, ht, rfl⟩ := List.mem_map.1 hx
  have := (List.mem_filter.1 ht).2
  simpa [inGrp] using this
theorem meas_one_dev {l : List Sm} {s : Sm} (hs : s ∈ l) : meas l s 2 3 = 1 := by
  show dcount _ = 1
  refine same_dcount (a := s.dev) (by have := List.ne_nil_of_mem (mem_grp hs (k := 2) (by decide) (by decide)); simpa using this) fun x hx => ?_
  obtain ⟨t, ht, rfl⟩ := List.mem_map.1 hx
  have := (List.mem_filter.1 ht).2
  simpa [inGrp] using this
end Go.Proofs.Ytpcfgoadkfajfaa
namespace Go.Proofs.Ytpcfgoadkfajfaa
set_option linter.all false
open Go Go.RowKit
set_option maxRecDepth 100000
theorem ent_61 : ∀ args w, (callFunc 61 args).run Try.prog w = .ok (.enter 61 args) w := enters_of Try.func61 (by kernel_rfl) rfl
theorem kmapt_86 : KMapT Try.prog (fun x : Int => Value.int .i64 x) 86 (.int .i64 0) := ⟨_, _, (Try.prog.info? 3).get!, Try.underlying86, (keyOk_int Try.underlying3), by kernel_rfl, by kernel_rfl⟩
set_option maxRecDepth 100000 in
theorem w_fclusters {w : World} {A : Option Addr} {cap : Nat} (l : List Sm) (hr : Rd w A 9 (l.map smC)) (hl : l.length ≤ 100000) :
    Calls Try.prog 44 #[.slice A l.length cap] w (fun e w' => ∃ z : Nat × List (Int × Int), ClOk (rep (edgesOf l)) (accs l) z.2 ∧ e = .returned (.map (some z.1)) ∧ SL w [] w' [kmap (fun x : Int => Value.int .i64 x) (fun x : Int => Value.int .i64 x) z.1 z.2]) := by
  refine calls_of_CX (O := []) (L := []) (args := [.slice A l.length cap]) Try.func44 rfl (by simp [Try.ntmps44]) (SL.refl w) ?_
  refine CX.sub (V' := [(0, .slice A l.length cap)]) ⟨rfl, trivial⟩ ?_
  refine CX.seq ?_
  refine CX.region ?_
  refine RX.cons rfl rfl (op_w (yw_assign rfl rfl) rfl rfl ?_)
  refine RX.nil (XX.next (V' := [(0, _)]) ⟨rfl, trivial⟩ ?_)
  refine CX.seq ?_
  refine CX.region ?_
  refine RX.cons rfl rfl (op_w (yw_assign rfl rfl) rfl rfl ?_)
  refine RX.nil (XX.next (V' := [(0, _), (3, _)]) ⟨rfl, rfl, trivial⟩ ?_)
  refine CX.seq ?_
  refine CX.seq ?_
  refine CX.region ?_
  refine RX.cons rfl rfl (op_w (yw_move rfl rfl) rfl rfl ?_)
  refine RX.cons rfl rfl (op_w (yw_lenS rfl Try.underlying22 rfl) rfl rfl ?_)
  refine RX.cons rfl rfl (op_w (yw_move rfl rfl) rfl rfl ?_)
  refine RX.nil (XX.next (V' := [(3, _), (11, _), (12, _), (13, _)]) ⟨rfl, rfl, rfl, rfl, trivial⟩ ?_)
  refine CX.block ?_
  refine CX.rowNil 73 2 ?_
  refine CX.loop (σ := Nat × (Option Addr × Nat) × List (Int × Int)) (fun z => [(3, .slice z.2.1.1 (List.length (z.2.2 : List (Int × Int))) z.2.1.2), (11, .slice A l.length cap), (12, .int .i64 ((l.length : Nat) : Int)), (13, .int .i64 ((z.1 : Nat) : Int))]) (fun z => [.row z.2.1.1 z.2.1.2 73 2 (List.map edC z.2.2)]) (fun z => z.1 ≤ l.length ∧ z.2.2 = edgesOf (l.take z.1)) (fun z => l.length - z.1) (0, (none, 0), []) ⟨Nat.zero_le _, rfl⟩ ⟨rfl, rfl, rfl, rfl, trivial⟩ rfl (fun z hI => ?_)
  obtain ⟨i, ⟨A1, c1⟩, Y⟩ := z
  dsimp only at hI ⊢
  obtain ⟨hi, hY⟩ := hI
  have hYn : Y.length = i := by rw [hY, edgesOf, List.length_map, List.length_take]; omega
  refine CX.seq ?_
  refine CX.region ?_
  refine RX.cons rfl rfl (op_w (yw_lss rfl rfl rfl) rfl rfl ?_)
  refine RX.nil (XX.next (V' := [(3, _), (11, _), (12, _), (13, _), (14, _)]) ⟨rfl, rfl, rfl, rfl, rfl, trivial⟩ ?_)
  refine CX.seq ?_
  refine CX.condD (p := ((i : Nat) : Int) < ((l.length : Nat) : Int)) rfl (fun c14 => ?_) (fun c14 => ?_)
  · obtain ⟨x0, hx0⟩ := get_some (l := l) (k := i) (by omega)
    have hx0m := List.mem_of_getElem? hx0
    have hA : ∃ b j, A = some ⟨b, j, none⟩ := hr.some (k := 0) (by simp; omega)
    refine CX.skip (XX.next (V' := [(3, _), (11, _), (12, _), (13, _)]) ⟨rfl, rfl, rfl, rfl, trivial⟩ ?_)
    refine CX.seq ?_
    refine CX.block ?_
    refine CX.seq ?_
    refine CX.region ?_
    refine RX.cons rfl rfl (op_w (yw_index (k := i) rfl slt_22 rfl rfl (by omega) (by omega) hA) rfl rfl ?_)
    refine RX.cons rfl rfl (op_yld (y_elem rfl rfl agg_24 hr (by simp) (map_get hx0)) rfl rfl ?_)
    refine RX.cons rfl rfl (op_alloc rfl rfl rfl zero_24 fun g5 => ?_)
    refine RX.cons rfl rfl (op_storeAll (i := 0) rfl rfl rfl rfl szt_24 rfl (plain_of rfl) rfl rfl ?_)
    refine RX.nil (XX.next (V' := [(3, _), (5, _), (11, _), (12, _), (13, _)]) ⟨rfl, rfl, rfl, rfl, rfl, trivial⟩ ?_)
    refine CX.region ?_
    refine RX.cons rfl rfl (op_w (yw_move rfl rfl) rfl rfl ?_)
    refine RX.cons rfl rfl (op_w (yw_fieldAddr rfl fld_24_2 rfl) rfl rfl ?_)
    refine RX.cons rfl rfl (op_yld (y_load (i := 0) rfl rfl one_3 rfl rfl) rfl rfl ?_)
    refine RX.cons rfl rfl (op_w (yw_field0 rfl fld_24_0 rfl) rfl rfl ?_)
    refine RX.cons rfl rfl (op_yld (y_load (i := 0) rfl rfl one_3 rfl rfl) rfl rfl ?_)
    refine RX.cons rfl rfl (op_w (yw_build (v := .agg (#[.int .i64 (Sm.acc x0), .int .i64 (Sm.dev x0)])) rfl rfl (fun _ => by kernel_rfl)) rfl rfl ?_)
    refine RX.cons rfl rfl (op_buildSlice rfl rfl rfl slb_52 rfl rfl (by intro v hv; simp only [List.mem_cons, List.not_mem_nil, or_false] at hv; subst hv; exact ⟨rfl, (plain_of rfl)⟩) (by decide) fun g7 => ?_)
    refine RX.cons rfl rfl (op_appendM edC (i := 2) (j := 0) (xs := Y) ([(Sm.acc x0, Sm.dev x0)]) rfl rfl rfl slb_52 rfl rfl rfl rfl rfl rfl (by rw [List.length_singleton]; omega) (by rw [List.length_singleton]; omega) fun A2 c2 => ?_)
    refine RX.cons rfl rfl (op_w (yw_assign rfl rfl) rfl rfl ?_)
    refine RX.nil (XX.inBlock (V' := [(3, _), (11, _), (12, _), (13, _)]) ⟨rfl, rfl, rfl, rfl, trivial⟩ ?_)
    refine XX.next (V' := [(3, _), (11, _), (12, _), (13, _)]) ⟨rfl, rfl, rfl, rfl, trivial⟩ ?_
    refine CX.region ?_
    refine RX.cons rfl rfl (op_w (yw_add rfl rfl rfl (by omega) (by omega)) rfl rfl ?_)
    refine RX.cons rfl rfl (op_w (yw_move rfl rfl) rfl rfl ?_)
    refine RX.nil (XX.againP ([.row (some ⟨g7, 0, none⟩) 1 73 2 (List.map edC ([(Sm.acc x0, Sm.dev x0)])), .blk g5 (.cells (smC x0) 24 (0, 0))]) (i + 1, (A2, c2), Y ++ [(Sm.acc x0, Sm.dev x0)]) (by dsimp only; omega) ⟨by dsimp only; omega, by dsimp only; rw [hY, edgesOf, edgesOf, take_map_succ hx0]⟩ ⟨rfl, rfl, rfl, rfl, trivial⟩ ((perm_pick 2 rfl).trans (List.Perm.cons _ (List.Perm.refl _))))
  · rw [List.take_of_length_le (by omega)] at hY
    have hYl : Y.length = l.length := by rw [hY, edgesOf, List.length_map]
    clear hYn
    subst hY
    refine CX.exit ?_
    refine XX.then_exit ?_
    refine XX.then_exit ?_
    refine XX.block_exit ?_
    refine XX.next (V' := [(3, _)]) ⟨rfl, trivial⟩ ?_
    refine CX.seq ?_
    refine CX.region ?_
    refine RX.cons rfl rfl (op_kmake (fun x : Int => Value.int .i64 x) (fun x : Int => Value.int .i64 x) rfl rfl rfl fun gcl => ?_)
    refine RX.cons rfl rfl (op_w (yw_assign rfl rfl) rfl rfl ?_)
    refine RX.nil (XX.next (V' := [(3, _), (6, _)]) ⟨rfl, rfl, trivial⟩ ?_)
    refine CX.seq ?_
    refine CX.seq ?_
    refine CX.region ?_
    refine RX.cons rfl rfl (op_w (yw_move rfl rfl) rfl rfl ?_)
    refine RX.cons rfl rfl (op_callE rfl rfl rfl rfl rfl ent_61 (fun w hw => w_clusters (edgesOf l) (Ent.rd (hw.ents _ (List.mem_of_getElem? (i := 1) rfl))) (by omega)) (fun ⟨⟨Ao, co⟩, gs⟩ ⟨hGr, hgn, hgl⟩ => ?_))
    refine RX.cons rfl rfl (op_w (yw_lenS rfl Try.underlying109 rfl) rfl rfl ?_)
    refine RX.cons rfl rfl (op_w (yw_move rfl rfl) rfl rfl ?_)
    refine RX.nil (XX.next (V' := [(6, _), (28, _), (29, _), (30, _)]) ⟨rfl, rfl, rfl, rfl, trivial⟩ ?_)
    refine CX.block ?_
    dsimp only at hgn hgl hGr
    refine CX.perm (L' := [pack (List.map gpE gs), .row Ao co 36 1 (List.map gpC gs), kmap (fun x : Int => Value.int .i64 x) (fun x : Int => Value.int .i64 x) gcl ([] : List (Int × Int)), .row A1 c1 73 2 (List.map edC (edgesOf l))]) ((perm_pick 0 rfl).trans (List.Perm.cons _ ((perm_pick 0 rfl).trans (List.Perm.cons _ ((perm_pick 0 rfl).trans (List.Perm.cons _ (List.Perm.refl _))))))) ?_
    refine CX.drop (L' := [pack (List.map gpE gs), .row Ao co 36 1 (List.map gpC gs), kmap (fun x : Int => Value.int .i64 x) (fun x : Int => Value.int .i64 x) gcl ([] : List (Int × Int))]) (List.Sublist.cons_cons _ (List.Sublist.cons_cons _ (List.Sublist.cons_cons _ (List.nil_sublist _)))) ?_
    refine CX.loop (σ := Nat × List (Int × Int)) (fun z => [(6, .map (some gcl)), (28, .slice Ao (List.length (gs : List Gp)) co), (29, .int .i64 ((List.length (gs : List Gp) : Nat) : Int)), (30, .int .i64 ((z.1 : Nat) : Int))]) (fun z => [pack (List.map gpE gs), .row Ao co 36 1 (List.map gpC gs), kmap (fun x : Int => Value.int .i64 x) (fun x : Int => Value.int .i64 x) gcl z.2]) (fun z => z.1 ≤ gs.length ∧ HeadOk (List.map Prod.snd gs) (List.flatMap id (List.take z.1 (List.map Prod.snd gs))) z.2) (fun z => gs.length - z.1) (0, []) ⟨Nat.zero_le _, HeadOk.nil _⟩ ⟨rfl, rfl, rfl, rfl, trivial⟩ rfl (fun z hI => ?_)
    obtain ⟨j, kv⟩ := z
    dsimp only at hI ⊢
    obtain ⟨hj, hH⟩ := hI
    refine CX.seq ?_
    refine CX.region ?_
    refine RX.cons rfl rfl (op_w (yw_lss rfl rfl rfl) rfl rfl ?_)
    refine RX.nil (XX.next (V' := [(6, _), (28, _), (29, _), (30, _), (31, _)]) ⟨rfl, rfl, rfl, rfl, rfl, trivial⟩ ?_)
    refine CX.seq ?_
    refine CX.condD (p := ((j : Nat) : Int) < ((List.length (gs : List Gp) : Nat) : Int)) rfl (fun c31 => ?_) (fun c31 => ?_)
    · obtain ⟨⟨⟨A5, c5⟩, ys⟩, hg⟩ := get_some (l := gs) (k := j) (by omega)
      have hyl := hgl _ (List.mem_of_getElem? hg)
      dsimp only at hyl
      have hyE : (edgesOf l).length = l.length := by rw [edgesOf, List.length_map]
      have hgm : ys ∈ List.map Prod.snd gs := List.mem_map.2 ⟨_, List.mem_of_getElem? hg, rfl⟩
      refine CX.rowSome 1 rfl (by rw [List.length_map]; omega) (fun hAo => ?_)
      refine CX.packOut (e := .row A5 c5 3 1 (List.map iR ys)) (L' := [.row Ao co 36 1 (List.map gpC gs), kmap (fun x : Int => Value.int .i64 x) (fun x : Int => Value.int .i64 x) gcl kv]) ((perm_pick 0 rfl).trans (List.Perm.cons _ (List.Perm.refl _))) (gpE_out hg) ?_
      refine CX.skip (XX.next (V' := [(6, _), (28, _), (29, _), (30, _)]) ⟨rfl, rfl, rfl, rfl, trivial⟩ ?_)
      refine CX.seq ?_
      refine CX.block ?_
      refine CX.seq ?_
      refine CX.region ?_
      refine RX.cons rfl rfl (op_w (yw_index (k := j) rfl slt_109 rfl rfl (by omega) (by omega) hAo) rfl rfl ?_)
      refine RX.cons rfl rfl (op_yld (y_rowElem1 (i := 2) rfl rfl one_36 rfl (map_get hg)) rfl rfl ?_)
      refine RX.cons rfl rfl (op_w (yw_assign rfl rfl) rfl rfl ?_)
      refine RX.nil (XX.next (V' := [(6, _), (8, _), (28, _), (29, _), (30, _)]) ⟨rfl, rfl, rfl, rfl, rfl, trivial⟩ ?_)
      refine CX.seq ?_
      refine CX.region ?_
      refine RX.cons rfl rfl (op_w (yw_move rfl rfl) rfl rfl ?_)
      refine RX.cons rfl rfl (op_w (yw_lenS rfl Try.underlying36 rfl) rfl rfl ?_)
      refine RX.cons rfl rfl (op_w (yw_move rfl rfl) rfl rfl ?_)
      refine RX.nil (XX.next (V' := [(6, _), (8, _), (28, _), (29, _), (30, _), (34, _), (35, _), (36, _)]) ⟨rfl, rfl, rfl, rfl, rfl, rfl, rfl, rfl, trivial⟩ ?_)
      refine CX.block ?_
      refine CX.loop (σ := Nat × List (Int × Int)) (fun z => [(6, .map (some gcl)), (8, .slice A5 (List.length (ys : List Int)) c5), (28, .slice Ao (List.length (gs : List Gp)) co), (29, .int .i64 ((List.length (gs : List Gp) : Nat) : Int)), (30, .int .i64 ((j : Nat) : Int)), (34, .slice A5 (List.length (ys : List Int)) c5), (35, .int .i64 ((List.length (ys : List Int) : Nat) : Int)), (36, .int .i64 ((z.1 : Nat) : Int))]) (fun z => [.row A5 c5 3 1 (List.map iR ys), pack (List.map gpE (gs.eraseIdx j)), .row Ao co 36 1 (List.map gpC gs), kmap (fun x : Int => Value.int .i64 x) (fun x : Int => Value.int .i64 x) gcl z.2]) (fun z => z.1 ≤ ys.length ∧ HeadOk (List.map Prod.snd gs) ((List.flatMap id (List.take j (List.map Prod.snd gs))) ++ List.take z.1 ys) z.2) (fun z => ys.length - z.1) (0, kv) ⟨Nat.zero_le _, by simpa using hH⟩ ⟨rfl, rfl, rfl, rfl, rfl, rfl, rfl, rfl, trivial⟩ rfl (fun z hI => ?_)
      clear hH
      obtain ⟨k, kv⟩ := z
      dsimp only at hI ⊢
      obtain ⟨hk, hH⟩ := hI
      refine CX.seq ?_
      refine CX.region ?_
      refine RX.cons rfl rfl (op_w (yw_lss rfl rfl rfl) rfl rfl ?_)
      refine RX.nil (XX.next (V' := [(6, _), (8, _), (28, _), (29, _), (30, _), (34, _), (35, _), (36, _), (37, _)]) ⟨rfl, rfl, rfl, rfl, rfl, rfl, rfl, rfl, rfl, trivial⟩ ?_)
      refine CX.seq ?_
      refine CX.condD (p := ((k : Nat) : Int) < ((List.length (ys : List Int) : Nat) : Int)) rfl (fun c37 => ?_) (fun c37 => ?_)
      · obtain ⟨x0, hx0⟩ := get_some (l := ys) (k := k) (by omega)
        have hx0m := List.mem_of_getElem? hx0
        obtain ⟨h0, hh0⟩ := get_some (l := ys) (k := 0) (by omega)
        refine CX.rowSome 0 rfl (by rw [List.length_map]; omega) (fun hA5 => ?_)
        refine CX.skip (XX.next (V' := [(6, _), (8, _), (28, _), (29, _), (30, _), (34, _), (35, _), (36, _)]) ⟨rfl, rfl, rfl, rfl, rfl, rfl, rfl, rfl, trivial⟩ ?_)
        refine CX.seq ?_
        refine CX.block ?_
        refine CX.seq ?_
        refine CX.region ?_
        refine RX.cons rfl rfl (op_w (yw_index (k := k) rfl slt_36 rfl rfl (by omega) (by omega) hA5) rfl rfl ?_)
        refine RX.cons rfl rfl (op_yld (y_rowElem1 (i := 0) rfl rfl one_3 rfl (map_get hx0)) rfl rfl ?_)
        refine RX.cons rfl rfl (op_w (yw_assign rfl rfl) rfl rfl ?_)
        refine RX.nil (XX.next (V' := [(6, _), (8, _), (10, _), (28, _), (29, _), (30, _), (34, _), (35, _), (36, _)]) ⟨rfl, rfl, rfl, rfl, rfl, rfl, rfl, rfl, rfl, trivial⟩ ?_)
        refine CX.region ?_
        refine RX.cons rfl rfl (op_w (yw_move rfl rfl) rfl rfl ?_)
        refine RX.cons rfl rfl (op_w (yw_move rfl rfl) rfl rfl ?_)
        refine RX.cons rfl rfl (op_w (yw_move rfl rfl) rfl rfl ?_)
        refine RX.cons rfl rfl (op_w (yw_index (k := 0) rfl slt_36 rfl rfl rfl (by omega) hA5) rfl rfl ?_)
        refine RX.cons rfl rfl (op_yld (y_rowElem1 (i := 0) rfl rfl one_3 rfl (map_get hh0)) rfl rfl ?_)
        refine RX.cons rfl rfl (op_kupdate (i := 3) (k := x0) (u := h0) (kv := kv) (encK := (fun x : Int => Value.int .i64 x)) (encV := (fun x : Int => Value.int .i64 x)) (.inl rfl) rfl rfl rfl rfl kmapt_86 rfl ?_)
        refine RX.nil (XX.inBlock (V' := [(6, _), (8, _), (28, _), (29, _), (30, _), (34, _), (35, _), (36, _)]) ⟨rfl, rfl, rfl, rfl, rfl, rfl, rfl, rfl, trivial⟩ ?_)
        refine XX.next (V' := [(6, _), (8, _), (28, _), (29, _), (30, _), (34, _), (35, _), (36, _)]) ⟨rfl, rfl, rfl, rfl, rfl, rfl, rfl, rfl, trivial⟩ ?_
        refine CX.region ?_
        refine RX.cons rfl rfl (op_w (yw_add rfl rfl rfl (by omega) (by omega)) rfl rfl ?_)
        refine RX.cons rfl rfl (op_w (yw_move rfl rfl) rfl rfl ?_)
        refine RX.nil (XX.againP ([]) (k + 1, kset x0 h0 kv) (by dsimp only; omega) ⟨by dsimp only; omega, by dsimp only; rw [take_succ hx0, ← List.append_assoc]; exact hH.set hgm hx0m hh0⟩ ⟨rfl, rfl, rfl, rfl, rfl, rfl, rfl, rfl, trivial⟩ ((perm_pick 0 rfl).trans (List.Perm.cons _ ((perm_pick 0 rfl).trans (List.Perm.cons _ ((perm_pick 0 rfl).trans (List.Perm.cons _ ((perm_pick 0 rfl).trans (List.Perm.cons _ (List.Perm.refl _))))))))))
      · rw [List.take_of_length_le (l := ys) (by omega)] at hH
        refine CX.exit ?_
        refine XX.then_exit ?_
        refine XX.then_exit ?_
        refine XX.block_exit ?_
        refine XX.inBlock (V' := [(6, _), (28, _), (29, _), (30, _)]) ⟨rfl, rfl, rfl, rfl, trivial⟩ ?_
        refine XX.next (V' := [(6, _), (28, _), (29, _), (30, _)]) ⟨rfl, rfl, rfl, rfl, trivial⟩ ?_
        refine CX.packIn (es := List.map gpE gs) (L' := [.row Ao co 36 1 (List.map gpC gs), kmap (fun x : Int => Value.int .i64 x) (fun x : Int => Value.int .i64 x) gcl kv]) ((perm_pick 0 rfl).trans (List.Perm.cons _ ((perm_pick 0 rfl).trans (List.Perm.cons _ (List.Perm.refl _))))) (gpE_out hg) ?_
        refine CX.region ?_
        refine RX.cons rfl rfl (op_w (yw_add rfl rfl rfl (by omega) (by omega)) rfl rfl ?_)
        refine RX.cons rfl rfl (op_w (yw_move rfl rfl) rfl rfl ?_)
        refine RX.nil (XX.againP ([]) (j + 1, kv) (by dsimp only; omega) ⟨by dsimp only; omega, by dsimp only; rw [flat_snoc _ (map_get (f := Prod.snd) hg)]; exact hH⟩ ⟨rfl, rfl, rfl, rfl, trivial⟩ ((perm_pick 0 rfl).trans (List.Perm.cons _ ((perm_pick 0 rfl).trans (List.Perm.cons _ ((perm_pick 0 rfl).trans (List.Perm.cons _ (List.Perm.refl _))))))))
    · rw [List.take_of_length_le (by rw [List.length_map]; omega)] at hH
      refine CX.exit ?_
      refine XX.then_exit ?_
      refine XX.then_exit ?_
      refine XX.block_exit ?_
      refine XX.next (V' := [(6, _)]) ⟨rfl, trivial⟩ ?_
      refine CX.seq ?_
      refine CX.region ?_
      refine RX.cons rfl rfl (op_w (yw_move rfl rfl) rfl rfl ?_)
      refine RX.cons rfl rfl (op_w (yw_assign rfl rfl) rfl rfl ?_)
      refine RX.nil (XX.next (V' := [(2, .map (some gcl))]) ⟨rfl, trivial⟩ ?_)
      refine CX.ret ?_
      exact ret_tmp rfl rfl fun w1 hw => ⟨(gcl, kv), (HeadOk.done hGr hH).of_mem (fun x => by rw [mem_uniq, fst_edges]), rfl, hw.pick ((perm_pick 2 rfl).trans (List.Perm.cons _ (List.Perm.refl _)))⟩

end Go.Proofs.Ytpcfgoadkfajfaa
namespace Go.Proofs.Ytpcfgoadkfajfaa
set_option linter.all false
open Go Go.RowKit
section
variable {κ α : Type} [DecidableEq κ] {P : Program} {encK : κ → Value} {encV : α → Value}
theorem kset_kset (x : κ) (u v : α) : ∀ l : List (κ × α), kset x u (kset x v l) = kset x u l
  | [] => by simp [kset]
  | p :: r => by
    by_cases h : x = p.1
    · simp [kset, h]
    · simp [kset, h, kset_kset x u v r]
theorem kset_get {x : κ} {v : α} : ∀ {l : List (κ × α)}, kget x l = some v → kset x v l = l
  | [], h => by cases h
  | p :: r, h => by
    unfold kget at h
    unfold kset
    by_cases hx : x = p.1
    · rw [if_pos hx] at h ⊢
      rw [← Option.some.inj h, hx]
    · rw [if_neg hx] at h ⊢
      rw [kset_get h]
/-- The entry of the key x has the stamp b. -/
def KAtB (encK : κ → Value) (encV : α → Value) (w : World) (g : Nat) (kv : List (κ × α)) (x : κ) (b : Nat) : Prop :=
  ∃ es clock, w.heap[g]? = some (.map es clock) ∧ Ents encK encV es.toList kv ∧ Births es.toList clock ∧ ∃ (j : Nat) (e : MapEntry), es[j]? = some e ∧ e.born = b ∧ e.key = encK x ∧ ∀ u, kset x u kv = kv.modify j fun _ => (x, u)
def kmapB (encK : κ → Value) (encV : α → Value) (g : Nat) (kv : List (κ × α)) (x : κ) (b : Nat) : Ent :=
  .gen [g] (fun w => KAtB encK encV w g kv x b) (fun w ⟨_, _, h, _⟩ b hb => by obtain rfl := List.mem_singleton.1 hb; exact (Array.getElem?_eq_some_iff.1 h).1) (fun w w' ⟨es, c, h, h2⟩ hk => ⟨es, c, by rw [hk g (List.mem_singleton.2 rfl)]; exact h, h2⟩)
theorem kset_end (x : κ) (u v : α) : ∀ l : List (κ × α), kget x l = none → kset x u (l ++ [(x, v)]) = (l ++ [(x, v)]).modify l.length fun _ => (x, u)
  | [], _ => by simp [kset]
  | p :: r, h => by
    unfold kget at h
    by_cases hx : x = p.1
    · rw [if_pos hx] at h; cases h
    · rw [if_neg hx] at h
      rw [List.cons_append]
      unfold kset
      rw [if_neg hx, kset_end x u v r h]; rfl
theorem run_kentry {w : World} {t : TypeId} {z : α} {g : Nat} {kv : List (κ × α)} (ht : KMapT P encK t (encV z)) (h : KAt encK encV w g kv) (x : κ) :
    ∃ es' clock' b, (Instr.mapEntry t (.map (some g)) (encK x)).run P w = .ok (.tuple #[encV ((kget x kv).getD z), .int .i64 ((b : Nat) : Int)]) { w with heap := w.heap.setIfInBounds g (.map es' clock') } ∧
      KAtB encK encV { w with heap := w.heap.setIfInBounds g (.map es' clock') } g (kset x ((kget x kv).getD z) kv) x b := by
  obtain ⟨kt, et, i, h1, h2, h3, h4⟩ := ht
  obtain ⟨es, clock, hg, hk, hbi⟩ := h
  have hz : (zeroValue et).run P w = .ok (encV z) w := by simp [zeroValue, typeInfo, h3, h4]
  rcases kfind_spec encV x kv 0 with ⟨h5, h6⟩ | ⟨j, v, h5, h6, h7, h8⟩
  · refine ⟨es.push { key := encK x, val := encV z, born := clock }, clock + 1, clock, ?_, ?_⟩
    · simp [Instr.mapEntry, run_underlying h1, MapKept.run_getObj_map hg, h2.chk, findKey_is h2 x w hk, h5, h6, hz, MapKept.run_setObj_map _ hg, Result.andThen, goInt]
    · have hl : es.size = kv.length := by have := ents_len hk; simpa using this
      refine ⟨_, _, (MapKept.heap_set hg).1, ?_, by rw [Array.toList_push]; exact hbi.push rfl, es.size, _, by rw [Array.getElem?_push, if_pos rfl], rfl, rfl, fun u => ?_⟩
      · rw [Ents, Array.toList_push, List.map_append, hk, kset_none h6, List.map_append, h6]; rfl
      · rw [h6, Option.getD_none, kset_none h6, hl]; exact kset_end x u z kv h6
  · have hj : ∃ e, es[j]? = some e ∧ e.key = encK x := by
      have h9 := congrArg (·[j]?) hk
      simp only [List.getElem?_map, h7, Option.map_some] at h9
      cases he : es.toList[j]? with
      | none => rw [he] at h9; cases h9
      | some e =>
        rw [he, Option.map_some, Option.some.injEq, Prod.mk.injEq] at h9
        exact ⟨e, by simpa using he, h9.1⟩
    obtain ⟨e, he, hek⟩ := hj
    simp only [Nat.zero_add] at h5
    refine ⟨es.modify j fun e => { e with key := encK x }, clock, e.born, ?_, ?_⟩
    · simp [Instr.mapEntry, run_underlying h1, MapKept.run_getObj_map hg, h2.chk, findKey_is h2 x w hk, h5, h6, he, hek, h2.stays, MapKept.run_setObj_map _ hg, Result.andThen, goInt]
    · refine ⟨_, _, (MapKept.heap_set hg).1, ?_, by rw [Array.toList_modify]; exact hbi.modify (f := fun e => { e with key := encK x }) (fun _ => rfl) j, j, { e with key := encK x }, by rw [Array.getElem?_modify, if_pos rfl, he]; rfl, rfl, rfl, fun u => ?_⟩
      · rw [h6, Option.getD_some, kset_get h6, Ents, Array.toList_modify]
        refine Eq.trans ?_ hk
        apply List.ext_getElem?
        intro m
        simp only [List.getElem?_map, List.getElem?_modify]
        have he' : es.toList[j]? = some e := by simpa using he
        by_cases hm : j = m
        · subst hm
          simp [he', hek]
        · simp [hm]
      · rw [h6, Option.getD_some, kset_get h6]; exact h8 u
theorem findIdx_born {es : List MapEntry} {clock : Nat} (h : Births es clock) : ∀ {j : Nat} {e : MapEntry}, es[j]? = some e → es.findIdx? (fun x => ((x.born : Nat) : Int) == ((e.born : Nat) : Int)) = some j := by
  have H : ∀ (es : List MapEntry), (es.map (·.born)).Nodup → ∀ {j : Nat} {e : MapEntry}, es[j]? = some e → es.findIdx? (fun x => ((x.born : Nat) : Int) == ((e.born : Nat) : Int)) = some j := by
    intro es
    induction es with
    | nil => intro _ j e h; simp at h
    | cons a es ih =>
      intro hn j e h
      rw [List.map_cons, List.nodup_cons] at hn
      rw [List.findIdx?_cons]
      cases j with
      | zero =>
        have : a = e := by simpa using h
        subst this; simp
      | succ j =>
        have he : es[j]? = some e := by simpa using h
        have hne : a.born ≠ e.born := fun e2 => hn.1 (by rw [e2]; exact List.mem_map.2 ⟨e, List.mem_of_getElem? he, rfl⟩)
        have : (((a.born : Nat) : Int) == ((e.born : Nat) : Int)) = false := by simp; omega
        rw [this, ih hn.2 he]; rfl
  exact fun {_ _} he => H es h.1 he
theorem run_kstore {w : World} {t : TypeId} {g b : Nat} {kv : List (κ × α)} {x : κ} (h : KAtB encK encV w g kv x b) (u : α) :
    ∃ es' clock', (Instr.entryStore t (.map (some g)) (.int .i64 ((b : Nat) : Int)) (encV u)).run P w = .ok () { w with heap := w.heap.setIfInBounds g (.map es' clock') } ∧ KAt encK encV { w with heap := w.heap.setIfInBounds g (.map es' clock') } g (kset x u kv) := by
  obtain ⟨es, clock, hg, hk, hbi, j, e, he, hb, hek, hset⟩ := h
  have he' : es.toList[j]? = some e := by simpa using he
  have hf : es.findIdx? (fun x => ((x.born : Nat) : Int) == ((b : Nat) : Int)) = some j := by
    have := findIdx_born hbi he'
    rw [hb] at this
    rw [← List.findIdx?_toArray] at this; exact this
  refine ⟨es.modify j fun e => { e with val := encV u }, clock, ?_, _, _, (MapKept.heap_set hg).1, ?_, by rw [Array.toList_modify]; exact hbi.modify (f := fun e => { e with val := encV u }) (fun _ => rfl) j⟩
  · simp [Instr.entryStore, MapKept.run_getObj_map hg, asInt, asIntOf, hf, MapKept.run_setObj_map _ hg, Result.andThen]
  · rw [Ents, Array.toList_modify, hset]
    apply List.ext_getElem?
    intro m
    have h9 := congrArg (·[m]?) hk
    simp only [List.getElem?_map] at h9
    simp only [List.getElem?_map, List.getElem?_modify]
    by_cases hm : j = m
    · subst hm
      rw [he'] at h9 ⊢
      cases hq2 : kv[j]? <;> simp_all
    · simp only [if_neg hm, Option.map_id', id_eq]
      simpa using h9
end
section
variable {P : Program} {w0 : World} {O : List Nat} {n : Nat} {D : List Deferred} {o : Oper} {V : List (Nat × Value)} {L : List Ent} {T : List (Nat × Value) → List Ent → Prop} {κ α : Type} [DecidableEq κ] {encK : κ → Value} {encV : α → Value}
theorem op_kentry {t : TypeId} {m x : Operand} {g i d : Nat} {kv : List (κ × α)} {k : κ} {z : α} (ho : o.op = .mapEntry t m x) (hd : o.dst = some d) (hdn : Nat.blt d n = true) (hm : ev V m = some (.map (some g))) (hx : ev V x = some (encK k))
    (ht : KMapT P encK t (encV z)) (hL : L[i]? = some (kmap encK encV g kv)) (hT : ∀ b : Nat, T ((d, .tuple #[encV ((kget k kv).getD z), .int .i64 ((b : Nat) : Int)]) :: V) (L.set i (kmapB encK encV g (kset k ((kget k kv).getD z) kv) k b))) : OpS P w0 O n D o V L T := by
  intro a w ha hw
  obtain ⟨es, clock, hg, _⟩ : KAt encK encV w g kv := hw.ents _ (List.mem_of_getElem? hL)
  obtain ⟨es', clock', b, h1, h2⟩ := run_kentry (P := P) ht (hw.ents _ (List.mem_of_getElem? hL)) k
  have hr : (execOp a.eval o).run P w = .ok (.value (.tuple #[encV ((kget k kv).getD z), .int .i64 ((b : Nat) : Int)])) { w with heap := w.heap.setIfInBounds g (.map es' clock') } := by
    simp [execOp, ho, ha.eval hm, ha.eval hx, h1]
  unfold Does
  rw [hr, hd]
  exact ⟨_, _, hT b, ha.put hdn _, hw.setI hL rfl rfl rfl (by simp) h2 (by simp [Ent.blocks, kmapB]) (fun b hb => .inl (by simpa [Ent.blocks, kmap, kmapB] using hb)) (fun k _ hkb => (MapKept.heap_set hg).2 k (by simpa [Ent.blocks, kmap] using hkb))⟩
theorem op_kstore {t : TypeId} {m x y : Operand} {g i b : Nat} {kv : List (κ × α)} {k : κ} {u : α} (ho : o.op = .entryStore t m x y) (hd : o.dst = none) (hm : ev V m = some (.map (some g))) (hx : ev V x = some (.int .i64 ((b : Nat) : Int))) (hy : ev V y = some (encV u))
    (hL : L[i]? = some (kmapB encK encV g kv k b)) (hT : T V (L.set i (kmap encK encV g (kset k u kv)))) : OpS P w0 O n D o V L T := by
  intro a w ha hw
  obtain ⟨es, clock, hg, _⟩ : KAtB encK encV w g kv k b := hw.ents _ (List.mem_of_getElem? hL)
  obtain ⟨es', clock', h1, h2⟩ := run_kstore (P := P) (t := t) (hw.ents _ (List.mem_of_getElem? hL) : KAtB encK encV w g kv k b) u
  have hr : (execOp a.eval o).run P w = .ok .skip { w with heap := w.heap.setIfInBounds g (.map es' clock') } := by
    simp [execOp, ho, ha.eval hm, ha.eval hx, ha.eval hy, h1]
  unfold Does
  rw [hr, hd]
  exact ⟨_, _, hT, ha, hw.setI hL rfl rfl rfl (by simp) h2 (by simp [Ent.blocks, kmap]) (fun b hb => .inl (by simpa [Ent.blocks, kmap, kmapB] using hb)) (fun k _ hkb => (MapKept.heap_set hg).2 k (by simpa [Ent.blocks, kmapB] using hkb))⟩
end
end Go.Proofs.Ytpcfgoadkfajfaa
namespace Go.Proofs.Ytpcfgoadkfajfaa
set_option linter.all false
open Go Go.RowKit
abbrev Sg := (Option Addr × Nat) × List Sm
abbrev sgV (v : Sg) : Value := .slice v.1.1 v.2.length v.1.2
def sgE (p : (Int × Int) × Sg) : Ent := .row p.2.1.1 p.2.1.2 24 9 (List.map smC p.2.2)
def grpOf (x : Int × Int) (kv : List ((Int × Int) × Sg)) : List Sm := ((kget x kv).map Prod.snd).getD []
theorem kset_at {κ α : Type} [DecidableEq κ] {x : κ} {v : α} {kv : List (κ × α)} (h : kget x kv = some v) : ∃ j, kv[j]? = some (x, v) ∧ ∀ u, kset x u kv = kv.set j (x, u) := by
  rcases kfind_spec (fun _ : α => Value.bool true) x kv 0 with ⟨_, h2⟩ | ⟨j, u, _, h2, h3, h4⟩
  · rw [h2] at h; cases h
  · rw [h2] at h
    obtain rfl := Option.some.inj h
    refine ⟨j, h3, fun u' => ?_⟩
    rw [h4]
    apply List.ext_getElem?
    intro m
    rw [List.getElem?_modify, List.getElem?_set]
    have hj := (List.getElem?_eq_some_iff.1 h3).1
    by_cases e : j = m
    · subst e; simp [h3, hj]
    · simp [e]
theorem grpOf_kset (x y : Int × Int) (z : Option Addr × Nat) (l : List Sm) (kv : List ((Int × Int) × Sg)) : grpOf y (kset x (z, l) kv) = if y = x then l else grpOf y kv := by
  unfold grpOf; rw [kget_kset]; split <;> rfl
/-- The subjects of a stream. -/
def subs (kvc : List (Int × Int)) (s : Sm) : List (Int × Int) := (1, s.acc) :: (2, s.dev) :: ((kget s.acc kvc).map fun c => ((3 : Int), c)).toList
theorem sgE_out {kv : List ((Int × Int) × Sg)} {j : Nat} {p : (Int × Int) × Sg} (h : kv[j]? = some p) : (kv.map sgE).Perm (sgE p :: (kv.eraseIdx j).map sgE) := (perm_pick j h).map sgE
end Go.Proofs.Ytpcfgoadkfajfaa
namespace Go.Proofs.Ytpcfgoadkfajfaa
set_option linter.all false
open Go Go.RowKit
set_option maxRecDepth 100000
theorem agg_93 : AggT Try.prog 93 2 := ⟨_, _, Try.underlying93, rfl, (by kernel_rfl : Try.prog.info? 93 = some (Try.prog.info? 93).get!), by kernel_rfl⟩
theorem slb_22 : SlB Try.prog 22 24 9 72 (.agg (#[.int .i64 0, .int .i64 0, .int .i64 0, .int .i64 0, .int .i64 0, .int .i64 0, .int .i64 0, .int .i64 0, .int .i64 0])) := ⟨Try.underlying22, ⟨(Try.prog.info? 24).get!, by kernel_rfl, by kernel_rfl, by kernel_rfl, by kernel_rfl⟩, by decide, by decide⟩
theorem kmapt_85 : KMapT Try.prog key2 85 (.slice none 0 0) := ⟨_, _, (Try.prog.info? 22).get!, Try.underlying85, (keyOk_two Try.underlying93 (by kernel_rfl) (by decide) (by decide) Try.underlying3 Try.underlying3 rfl rfl), by kernel_rfl, by kernel_rfl⟩
set_option maxRecDepth 100000 in
theorem w_put {w : World} {gg : Nat} (kv : List ((Int × Int) × Sg)) (x : Int × Int) (s : Sm) (hb : (grpOf x kv).length ≤ 1000000) (hs : SL w (List.flatMap Ent.blocks [kmap key2 sgV gg kv, pack (List.map sgE kv)]) w [kmap key2 sgV gg kv, pack (List.map sgE kv)]) :
    Calls Try.prog 46 #[.map (some gg), .agg (#[Value.int .i64 (Prod.fst x), Value.int .i64 (Prod.snd x)]), .agg (smC s)] w (fun e w' => ∃ z : Option Addr × Nat, True ∧ e = .returned (.tuple #[]) ∧ SL w (List.flatMap Ent.blocks [kmap key2 sgV gg kv, pack (List.map sgE kv)]) w' [kmap key2 sgV gg (kset x (z, grpOf x kv ++ [s]) kv), pack (List.map sgE (kset x (z, grpOf x kv ++ [s]) kv))]) := by
  refine calls_of_CX (O := (List.flatMap Ent.blocks [kmap key2 sgV gg kv, pack (List.map sgE kv)])) (L := [kmap key2 sgV gg kv, pack (List.map sgE kv)]) (args := [.map (some gg), .agg (#[Value.int .i64 (Prod.fst x), Value.int .i64 (Prod.snd x)]), .agg (smC s)]) Try.func46 rfl (by simp [Try.ntmps46]) hs ?_
  refine CX.sub (V' := [(0, .map (some gg)), (1, .agg (#[Value.int .i64 (Prod.fst x), Value.int .i64 (Prod.snd x)])), (2, .agg (smC s))]) ⟨rfl, rfl, rfl, trivial⟩ ?_
  refine CX.seq ?_
  refine CX.region ?_
  refine RX.cons rfl rfl (op_box rfl rfl rfl rfl fun g4 => ?_)
  refine RX.cons rfl rfl (op_box rfl rfl rfl rfl fun g5 => ?_)
  refine RX.nil (XX.next (V' := [(0, _), (4, _), (5, _)]) ⟨rfl, rfl, rfl, trivial⟩ ?_)
  rcases hk : kget x kv with _ | ⟨⟨A5, c5⟩, ys⟩
  · have hgo : grpOf x kv = [] := by unfold grpOf; rw [hk]; rfl
    refine CX.rowNil 24 9 ?_
    refine CX.region ?_
    refine RX.cons rfl rfl (op_w (yw_move rfl rfl) rfl rfl ?_)
    refine RX.cons rfl rfl (op_yld (y_loadA (i := 2) rfl rfl agg_93 rfl rfl) rfl rfl ?_)
    refine RX.cons rfl rfl (op_yld (y_loadA (i := 1) rfl rfl agg_24 rfl rfl) rfl rfl ?_)
    refine RX.cons rfl rfl (op_buildSlice rfl rfl rfl slb_22 rfl rfl (by intro v hv; simp only [List.mem_cons, List.not_mem_nil, or_false] at hv; subst hv; exact ⟨rfl, (plain_of rfl)⟩) (by decide) fun g7 => ?_)
    refine RX.cons rfl rfl (op_kentry (i := 4) (k := x) (z := (((none, 0), []) : Sg)) (kv := kv) (encK := key2) (encV := sgV) rfl rfl rfl rfl rfl kmapt_85 rfl fun b => ?_)
    refine RX.know (t := 11) (u := .tuple #[.slice none (List.length (([] : List Sm) : List Sm)) 0, .int .i64 ((b : Nat) : Int)]) rfl (by rw [hk]; rfl) ?_
    refine RX.cons rfl rfl (op_w (yw_extract rfl rfl rfl) rfl rfl ?_)
    refine RX.cons rfl rfl (op_appendM smC (i := 1) (j := 0) (xs := ([] : List Sm)) ([s]) rfl rfl rfl slb_22 rfl rfl rfl rfl rfl rfl (by simp <;> omega) (by simp <;> omega) fun A6 c6 => ?_)
    refine RX.cons rfl rfl (op_w (yw_extract rfl rfl rfl) rfl rfl ?_)
    refine RX.cons rfl rfl (op_kstore (i := 4) (b := b) (kv := (kset x (Option.getD (kget x kv) (((none, 0), []) : Sg)) kv)) (k := x) (u := ((A6, c6), [] ++ [s])) (encK := key2) (encV := sgV) rfl rfl rfl rfl rfl rfl ?_)
    refine RX.nil ?_
    exact end_none rfl fun w1 hw => ⟨(A6, c6), trivial, rfl, by rw [hgo]; have hw := hw.pick (L' := [.row A6 c6 24 9 (List.map smC (([] : List Sm) ++ [s])), pack (List.map sgE kv), kmap key2 sgV gg (kset x ((A6, c6), [] ++ [s]) (kset x (Option.getD (kget x kv) (((none, 0), []) : Sg)) kv))]) ((perm_pick 1 rfl).trans (List.Perm.cons _ ((perm_pick 4 rfl).trans (List.Perm.cons _ ((perm_pick 3 rfl).trans (List.Perm.cons _ (List.Perm.refl _))))))); rw [kset_kset] at hw; exact (SL.packIn (es := List.map sgE (kset x ((A6, c6), [] ++ [s]) kv)) hw (by rw [kset_none hk, List.map_append]; exact List.perm_append_comm)).perm (List.Perm.swap _ _ _)⟩
  · have hgo : grpOf x kv = ys := by unfold grpOf; rw [hk]; rfl
    rw [hgo] at hb
    obtain ⟨j, hj, hset⟩ := kset_at hk
    refine CX.packOut (e := .row A5 c5 24 9 (List.map smC ys)) (L' := [.blk g5 (.cells (smC s) 24 (0, 0)), .blk g4 (.cells (#[Value.int .i64 (Prod.fst x), Value.int .i64 (Prod.snd x)]) 93 (0, 0)), kmap key2 sgV gg kv]) ((perm_pick 3 rfl).trans (List.Perm.cons _ (List.Perm.refl _))) (sgE_out hj) ?_
    refine CX.region ?_
    refine RX.cons rfl rfl (op_w (yw_move rfl rfl) rfl rfl ?_)
    refine RX.cons rfl rfl (op_yld (y_loadA (i := 3) rfl rfl agg_93 rfl rfl) rfl rfl ?_)
    refine RX.cons rfl rfl (op_yld (y_loadA (i := 2) rfl rfl agg_24 rfl rfl) rfl rfl ?_)
    refine RX.cons rfl rfl (op_buildSlice rfl rfl rfl slb_22 rfl rfl (by intro v hv; simp only [List.mem_cons, List.not_mem_nil, or_false] at hv; subst hv; exact ⟨rfl, (plain_of rfl)⟩) (by decide) fun g7 => ?_)
    refine RX.cons rfl rfl (op_kentry (i := 5) (k := x) (z := (((none, 0), []) : Sg)) (kv := kv) (encK := key2) (encV := sgV) rfl rfl rfl rfl rfl kmapt_85 rfl fun b => ?_)
    refine RX.know (t := 11) (u := .tuple #[.slice A5 (List.length (ys : List Sm)) c5, .int .i64 ((b : Nat) : Int)]) rfl (by rw [hk]; rfl) ?_
    refine RX.cons rfl rfl (op_w (yw_extract rfl rfl rfl) rfl rfl ?_)
    refine RX.cons rfl rfl (op_appendM smC (i := 1) (j := 0) (xs := ys) ([s]) rfl rfl rfl slb_22 rfl rfl rfl rfl rfl rfl (by simp <;> omega) (by simp <;> omega) fun A6 c6 => ?_)
    refine RX.cons rfl rfl (op_w (yw_extract rfl rfl rfl) rfl rfl ?_)
    refine RX.cons rfl rfl (op_kstore (i := 5) (b := b) (kv := (kset x (Option.getD (kget x kv) (((none, 0), []) : Sg)) kv)) (k := x) (u := ((A6, c6), ys ++ [s])) (encK := key2) (encV := sgV) rfl rfl rfl rfl rfl rfl ?_)
    refine RX.nil ?_
    exact end_none rfl fun w1 hw => ⟨(A6, c6), trivial, rfl, by rw [hgo]; have hw := hw.pick (L' := [.row A6 c6 24 9 (List.map smC (ys ++ [s])), pack (List.map sgE (kv.eraseIdx j)), kmap key2 sgV gg (kset x ((A6, c6), ys ++ [s]) (kset x (Option.getD (kget x kv) (((none, 0), []) : Sg)) kv))]) ((perm_pick 1 rfl).trans (List.Perm.cons _ ((perm_pick 1 rfl).trans (List.Perm.cons _ ((perm_pick 3 rfl).trans (List.Perm.cons _ (List.Perm.refl _))))))); rw [kset_kset] at hw; exact (SL.packIn (es := List.map sgE (kset x ((A6, c6), ys ++ [s]) kv)) hw (by rw [hset]; exact (set_perm _ hj).map sgE)).perm (List.Perm.swap _ _ _)⟩

set_option maxRecDepth 100000 in
theorem w_fsubjects {w : World} (gF : Nat) (s : Sm) :
    Calls Try.prog 45 #[.pointer (some ⟨gF, 0, none⟩), .agg (smC s)] w (fun e w' => ∃ z : Nat × Nat, True ∧ e = .returned (.func (.func 62) #[] #[.pointer (some ⟨z.1, 0, none⟩), .pointer (some ⟨z.2, 0, none⟩)]) ∧ SL w [] w' [.blk z.1 (.cells (smC s) 24 (0, 0)), .blk z.2 (.cells #[.pointer (some ⟨gF, 0, none⟩)] 59 (0, 0))]) := by
  refine calls_of_CX (O := []) (L := []) (args := [.pointer (some ⟨gF, 0, none⟩), .agg (smC s)]) Try.func45 rfl (by simp [Try.ntmps45]) (SL.refl w) ?_
  refine CX.sub (V' := [(0, .pointer (some ⟨gF, 0, none⟩)), (1, .agg (smC s))]) ⟨rfl, rfl, trivial⟩ ?_
  refine CX.seq ?_
  refine CX.region ?_
  refine RX.cons rfl rfl (op_box rfl rfl rfl rfl fun gf => ?_)
  refine RX.cons rfl rfl (op_box rfl rfl rfl rfl fun gs => ?_)
  refine RX.cons rfl rfl (op_w (yw_assign rfl rfl) rfl rfl ?_)
  refine RX.nil (XX.next (V' := [(2, _), (3, _)]) ⟨rfl, rfl, trivial⟩ ?_)
  refine CX.seq ?_
  refine CX.region ?_
  refine RX.cons rfl rfl (op_w (yw_makeFunc rfl rfl rfl) rfl rfl ?_)
  refine RX.cons rfl rfl (op_w (yw_assign rfl rfl) rfl rfl ?_)
  refine RX.nil (XX.next (V' := [(4, .func (.func 62) #[] #[.pointer (some ⟨gs, 0, none⟩), .pointer (some ⟨gf, 0, none⟩)])]) ⟨rfl, trivial⟩ ?_)
  refine CX.ret ?_
  exact ret_tmp rfl rfl fun w1 hw => ⟨(gs, gf), trivial, rfl, hw.pick ((perm_pick 0 rfl).trans (List.Perm.cons _ ((perm_pick 0 rfl).trans (List.Perm.cons _ (List.Perm.refl _)))))⟩

end Go.Proofs.Ytpcfgoadkfajfaa
namespace Go.Proofs.Ytpcfgoadkfajfaa
set_option linter.all false
open Go Go.RowKit
set_option maxRecDepth 100000
theorem slb_112 : SlB Try.prog 112 93 2 16 (.agg (#[.int .i64 0, .int .i64 0])) := ⟨Try.underlying112, ⟨(Try.prog.info? 93).get!, by kernel_rfl, by kernel_rfl, by kernel_rfl, by kernel_rfl⟩, by decide, by decide⟩
theorem one_59 : One Try.prog 59 := ⟨_, Try.underlying59, rfl⟩
theorem fld_89_1 : Fld Try.prog 89 1 1 := ⟨_, _, (Try.prog.info? 86).get!, Try.underlying89, rfl, rfl, by kernel_rfl, by decide +kernel⟩
theorem one_86 : One Try.prog 86 := ⟨_, Try.underlying86, rfl⟩
theorem slt_112 : SlT Try.prog 112 93 2 := ⟨(Try.prog.info? 93).get!, Try.underlying112, by kernel_rfl, by kernel_rfl⟩
theorem zero_93 : Zero Try.prog 93 (.agg (#[.int .i64 0, .int .i64 0])) := ⟨(Try.prog.info? 93).get!, by kernel_rfl, by kernel_rfl⟩
theorem szt_93 : SzT Try.prog 93 2 := ⟨(Try.prog.info? 93).get!, by kernel_rfl, by kernel_rfl⟩
/-- A subject in memory. -/
abbrev sjC (x : Int × Int) : Array Value := #[.int .i64 x.1, .int .i64 x.2]
theorem take_map_get {α β : Type} {f : α → β} {l : List α} {i : Nat} {x : α} (h : l[i]? = some x) : (l.map f).take (i + 1) = (l.map f).take i ++ [f x] := take_succ (map_get h)
set_option maxRecDepth 100000 in
theorem w_subjects1 {w : World} {l gs gf gF gcl : Nat} {O : List Nat} {σ : Type} {St : σ → List Ent} {pre : σ → Prop} {Rl : σ → Value → σ → Bool → Prop} {ok : Value → Prop} (s0 : σ) (s : Sm) (kvc : List (Int × Int)) (hy : YieldB Try.prog w O l St pre Rl ok) (hpre : ∀ (i : Nat) (st : σ), i < (subs kvc s).length → Upto Rl s0 (((subs kvc s).map key2).take i) st → pre st) (hok : ∀ x ∈ (subs kvc s), ok (key2 x)) (hgF : ∀ w', SL w O w' ([.blk gs (.cells (smC s) 24 (0, 0)), .blk gf (.cells (#[.pointer (some ⟨gF, 0, none⟩)]) 59 (0, 0)), kmap (fun x : Int => Value.int .i64 x) (fun x : Int => Value.int .i64 x) gcl kvc] ++ St s0) → w'.cell? ⟨gF, 1, none⟩ = some (.map (some gcl))) (hs : SL w O w ([.blk gs (.cells (smC s) 24 (0, 0)), .blk gf (.cells (#[.pointer (some ⟨gF, 0, none⟩)]) 59 (0, 0)), kmap (fun x : Int => Value.int .i64 x) (fun x : Int => Value.int .i64 x) gcl kvc] ++ St s0)) :
    Calls Try.prog 62 #[.func (.yield l) #[] #[], .pointer (some ⟨gs, 0, none⟩), .pointer (some ⟨gf, 0, none⟩)] w (fun e w' => ∃ s' : σ, Went Rl s0 ((subs kvc s).map key2) s' ∧ e = .returned (.tuple #[]) ∧ SL w O w' ([.blk gs (.cells (smC s) 24 (0, 0)), .blk gf (.cells (#[.pointer (some ⟨gF, 0, none⟩)]) 59 (0, 0)), kmap (fun x : Int => Value.int .i64 x) (fun x : Int => Value.int .i64 x) gcl kvc] ++ St s')) := by
  refine calls_of_CX (O := O) (L := ([.blk gs (.cells (smC s) 24 (0, 0)), .blk gf (.cells (#[.pointer (some ⟨gF, 0, none⟩)]) 59 (0, 0)), kmap (fun x : Int => Value.int .i64 x) (fun x : Int => Value.int .i64 x) gcl kvc] ++ (St s0))) (args := [.func (.yield l) #[] #[], .pointer (some ⟨gs, 0, none⟩), .pointer (some ⟨gf, 0, none⟩)]) Try.func62 rfl (by simp [Try.ntmps62]) hs ?_
  refine CX.sub (V' := [(0, .func (.yield l) #[] #[]), (1, .pointer (some ⟨gs, 0, none⟩)), (2, .pointer (some ⟨gf, 0, none⟩))]) ⟨rfl, rfl, rfl, trivial⟩ ?_
  refine CX.scope ?_
  refine CX.seq ?_
  refine CX.region ?_
  refine RX.cons rfl rfl (op_w (yw_fieldAddr rfl fld_24_2 rfl) rfl rfl ?_)
  refine RX.cons rfl rfl (op_yld (y_load (i := 0) rfl rfl one_3 rfl rfl) rfl rfl ?_)
  refine RX.cons rfl rfl (op_w (yw_build (v := .agg (#[.int .i64 1, .int .i64 (Sm.acc s)])) rfl rfl (fun _ => by kernel_rfl)) rfl rfl ?_)
  refine RX.cons rfl rfl (op_w (yw_field0 rfl fld_24_0 rfl) rfl rfl ?_)
  refine RX.cons rfl rfl (op_yld (y_load (i := 0) rfl rfl one_3 rfl rfl) rfl rfl ?_)
  refine RX.cons rfl rfl (op_w (yw_build (v := .agg (#[.int .i64 2, .int .i64 (Sm.dev s)])) rfl rfl (fun _ => by kernel_rfl)) rfl rfl ?_)
  refine RX.cons rfl rfl (op_buildSlice rfl rfl rfl slb_112 rfl rfl (by intro v hv; simp only [List.mem_cons, List.not_mem_nil, or_false] at hv; rcases hv with rfl | rfl <;> exact ⟨rfl, (plain_of rfl)⟩) (by decide) fun qr => ?_)
  refine RX.cons rfl rfl (op_w (yw_assign rfl rfl) rfl rfl ?_)
  refine RX.nil (XX.next (V' := [(0, _), (1, _), (2, _), (4, _)]) ⟨rfl, rfl, rfl, rfl, trivial⟩ ?_)
  refine CX.seq ?_
  refine CX.seq ?_
  rcases hk : kget (Sm.acc s) kvc with _ | c
  · refine CX.draw 12 [(0, 4, 131072), (1, 131072, 262144), (2, 262144, 524288), (4, 524288, 1048576), (0, 2, 2097152), (16, 2097152, 4194304), (40, 5242880, 8388608), (64, 8388608, 65536), (128, 65536, 16777216), (128, 65536, 33554432), (511, 16777216, 32), (2047, 33554432, 64)] (by kernel_rfl) (by kernel_rfl) (by kernel_rfl) ?_
    refine DX.take 0 1 (by kernel_rfl) rfl rfl rfl rfl rfl (List.Sublist.refl _) (y_load (i := 2) rfl rfl one_59 rfl rfl) ?_
    refine DX.takeW 1 3 (by kernel_rfl) rfl rfl rfl rfl rfl (yw_nilCheck rfl rfl) ?_
    refine DX.takeW 2 7 (by kernel_rfl) rfl rfl rfl rfl rfl (yw_fieldAddr rfl fld_89_1 rfl) ?_
    refine DX.take 3 15 (by kernel_rfl) rfl rfl rfl rfl rfl (List.Sublist.refl _) (y_loadH (v := .map (some gcl)) rfl rfl one_86 (fun w' hw' => hgF w' (hw'.sub (List.Sublist.cons _ (List.Sublist.refl _))))) ?_
    refine DX.takeW 4 31 (by kernel_rfl) rfl rfl rfl rfl rfl (yw_fieldAddr rfl fld_24_2 rfl) ?_
    refine DX.take 5 63 (by kernel_rfl) rfl rfl rfl rfl rfl (List.Sublist.refl _) (y_load (i := 1) rfl rfl one_3 rfl rfl) ?_
    refine DX.take 6 127 (by kernel_rfl) rfl rfl rfl rfl rfl (List.Sublist.refl _) (y_klookupOk (i := 3) (k := Sm.acc s) (kv := kvc) (encK := (fun x : Int => Value.int .i64 x)) (encV := (fun x : Int => Value.int .i64 x)) rfl rfl rfl kmapt_86 rfl) ?_
    refine DX.know (t := 23) (u := .tuple #[.int .i64 0, .bool false]) rfl (by rw [hk]; rfl) ?_
    refine DX.takeW 7 255 (by kernel_rfl) rfl rfl rfl rfl rfl (yw_move rfl rfl) ?_
    refine DX.takeW 8 511 (by kernel_rfl) rfl rfl rfl rfl rfl (yw_extract rfl rfl rfl) ?_
    refine DX.takeW 9 1023 (by kernel_rfl) rfl rfl rfl rfl rfl (yw_extract rfl rfl rfl) ?_
    refine DX.takeW 10 2047 (by kernel_rfl) rfl rfl rfl rfl rfl (yw_assign rfl rfl) ?_
    refine DX.takeW 11 4095 (by kernel_rfl) rfl rfl rfl rfl rfl (yw_assign rfl rfl) ?_
    refine DX.done (by kernel_rfl) (XX.next (V' := [(0, _), (4, _), (5, _), (6, _)]) ⟨rfl, rfl, rfl, rfl, trivial⟩ ?_)
    refine CX.seq ?_
    refine CX.region ?_
    refine RX.cons rfl rfl (op_w (yw_move rfl rfl) rfl rfl ?_)
    refine RX.nil (XX.next (V' := [(0, _), (4, _), (5, _), (26, _)]) ⟨rfl, rfl, rfl, rfl, trivial⟩ ?_)
    refine CX.condF rfl ?_
    refine CX.skip (XX.next (V' := [(0, _), (4, _)]) ⟨rfl, rfl, trivial⟩ ?_)
    refine CX.seq ?_
    refine CX.label (XX.next (V' := [(0, _), (4, _)]) ⟨rfl, rfl, trivial⟩ ?_)
    refine CX.seq ?_
    have hsb : subs kvc s = [((1 : Int), Sm.acc s), ((2 : Int), Sm.dev s)] := by unfold subs; rw [hk]; rfl
    have hsl : (subs kvc s).length ≤ 3 := by rw [hsb]; simp
    refine CX.drop (L' := ([.row (some ⟨qr, 0, none⟩) 2 93 2 (List.map sjC ([((1 : Int), Sm.acc s), ((2 : Int), Sm.dev s)])), .blk gs (.cells (smC s) 24 (0, 0)), .blk gf (.cells (#[.pointer (some ⟨gF, 0, none⟩)]) 59 (0, 0)), kmap (fun x : Int => Value.int .i64 x) (fun x : Int => Value.int .i64 x) gcl kvc] ++ (St s0))) (List.Sublist.refl _) ?_
    refine CX.ents (L' := ([.row (some ⟨qr, 0, none⟩) 2 93 2 (List.map sjC (subs kvc s)), .blk gs (.cells (smC s) 24 (0, 0)), .blk gf (.cells (#[.pointer (some ⟨gF, 0, none⟩)]) 59 (0, 0)), kmap (fun x : Int => Value.int .i64 x) (fun x : Int => Value.int .i64 x) gcl kvc] ++ (St s0))) (by rw [hsb]) ?_
    refine CX.know (t := 4) (u := .slice (some ⟨qr, 0, none⟩) (List.length ((subs kvc s) : List (Int × Int))) 2) rfl (by rw [hsb] <;> rfl) ?_
    refine CX.region ?_
    refine RX.cons rfl rfl (op_w (yw_move rfl rfl) rfl rfl ?_)
    refine RX.cons rfl rfl (op_w (yw_lenS rfl Try.underlying112 rfl) rfl rfl ?_)
    refine RX.cons rfl rfl (op_w (yw_move rfl rfl) rfl rfl ?_)
    refine RX.nil (XX.next (V' := [(0, _), (32, _), (33, _), (34, _)]) ⟨rfl, rfl, rfl, rfl, trivial⟩ ?_)
    refine CX.block ?_
    refine CX.loop (σ := Nat × σ) (fun z => [(0, .func (.yield l) #[] #[]), (32, .slice (some ⟨qr, 0, none⟩) (List.length ((subs kvc s) : List (Int × Int))) 2), (33, .int .i64 ((List.length ((subs kvc s) : List (Int × Int)) : Nat) : Int)), (34, .int .i64 ((z.1 : Nat) : Int))]) (fun z => ([.row (some ⟨qr, 0, none⟩) 2 93 2 (List.map sjC (subs kvc s)), .blk gs (.cells (smC s) 24 (0, 0)), .blk gf (.cells (#[.pointer (some ⟨gF, 0, none⟩)]) 59 (0, 0)), kmap (fun x : Int => Value.int .i64 x) (fun x : Int => Value.int .i64 x) gcl kvc] ++ (St z.2))) (fun z => z.1 ≤ (subs kvc s).length ∧ Upto Rl s0 (((subs kvc s).map key2).take z.1) z.2) (fun z => (subs kvc s).length - z.1) (0, s0) ⟨Nat.zero_le _, .nil s0⟩ ⟨rfl, rfl, rfl, rfl, trivial⟩ rfl (fun z hI => ?_)
    obtain ⟨i, st⟩ := z
    dsimp only at hI ⊢
    obtain ⟨hi, hup⟩ := hI
    refine CX.seq ?_
    refine CX.region ?_
    refine RX.cons rfl rfl (op_w (yw_lss rfl rfl rfl) rfl rfl ?_)
    refine RX.nil (XX.next (V' := [(0, _), (32, _), (33, _), (34, _), (35, _)]) ⟨rfl, rfl, rfl, rfl, rfl, trivial⟩ ?_)
    refine CX.seq ?_
    refine CX.condD (p := ((i : Nat) : Int) < ((List.length ((subs kvc s) : List (Int × Int)) : Nat) : Int)) rfl (fun c35 => ?_) (fun c35 => ?_)
    · obtain ⟨x0, hx0⟩ := get_some (l := (subs kvc s)) (k := i) (by omega)
      have hx0m := List.mem_of_getElem? hx0
      refine CX.rowSome 0 rfl (by rw [List.length_map]; omega) (fun hA => ?_)
      refine CX.skip (XX.next (V' := [(0, _), (32, _), (33, _), (34, _)]) ⟨rfl, rfl, rfl, rfl, trivial⟩ ?_)
      refine CX.seq ?_
      refine CX.block ?_
      refine CX.seq ?_
      refine CX.region ?_
      refine RX.cons rfl rfl (op_w (yw_index (k := i) rfl slt_112 rfl rfl (by omega) (by omega) hA) rfl rfl ?_)
      refine RX.cons rfl rfl (op_yld (y_rowElem (i := 0) rfl rfl agg_93 rfl (map_get hx0)) rfl rfl ?_)
      refine RX.cons rfl rfl (op_alloc rfl rfl rfl zero_93 fun gx => ?_)
      refine RX.cons rfl rfl (op_storeAll (i := 0) rfl rfl rfl rfl szt_93 rfl (plain_of rfl) rfl rfl ?_)
      refine RX.nil (XX.next (V' := [(0, _), (8, _), (32, _), (33, _), (34, _)]) ⟨rfl, rfl, rfl, rfl, rfl, trivial⟩ ?_)
      refine CX.seq ?_
      refine CX.region ?_
      refine RX.cons rfl rfl (op_w (yw_move rfl rfl) rfl rfl ?_)
      refine RX.cons rfl rfl (op_yld (y_loadA (i := 0) rfl rfl agg_93 rfl rfl) rfl rfl ?_)
      refine RX.cons rfl rfl (op_yieldB st [.blk gx (.cells (sjC x0) 93 (0, 0)), .row (some ⟨qr, 0, none⟩) 2 93 2 (List.map sjC (subs kvc s)), .blk gs (.cells (smC s) 24 (0, 0)), .blk gf (.cells (#[.pointer (some ⟨gF, 0, none⟩)]) 59 (0, 0)), kmap (fun x : Int => Value.int .i64 x) (fun x : Int => Value.int .i64 x) gcl kvc] hy (hpre i st (by omega) hup) rfl rfl rfl rfl rfl (hok x0 hx0m) rfl (fun s' b hs' => ?_))
      refine RX.cons rfl rfl (op_w (yw_not rfl rfl) rfl rfl ?_)
      refine RX.nil (XX.next (V' := [(0, _), (32, _), (33, _), (34, _), (41, _)]) ⟨rfl, rfl, rfl, rfl, rfl, trivial⟩ ?_)
      refine CX.cond (b := !b) rfl (fun c41 => ?_) (fun c41 => ?_)
      · refine CX.exit ?_
        refine XX.block_pass rfl ?_
        refine XX.then_exit ?_
        refine XX.then_exit ?_
        refine XX.block_exit ?_
        refine XX.scope_normal ?_
        exact end_none rfl fun w1 hw => ⟨s', .inr ⟨i, key2 x0, st, map_get hx0, hup, by rw [show b = false from by simpa using c41] at hs'; exact hs'⟩, rfl, hw.sub (List.Sublist.cons _ (List.Sublist.cons _ (List.Sublist.refl _)))⟩
      · refine CX.skip (XX.inBlock (V' := [(0, _), (32, _), (33, _), (34, _)]) ⟨rfl, rfl, rfl, rfl, trivial⟩ ?_)
        refine XX.next (V' := [(0, _), (32, _), (33, _), (34, _)]) ⟨rfl, rfl, rfl, rfl, trivial⟩ ?_
        refine CX.drop (L' := ([.row (some ⟨qr, 0, none⟩) 2 93 2 (List.map sjC (subs kvc s)), .blk gs (.cells (smC s) 24 (0, 0)), .blk gf (.cells (#[.pointer (some ⟨gF, 0, none⟩)]) 59 (0, 0)), kmap (fun x : Int => Value.int .i64 x) (fun x : Int => Value.int .i64 x) gcl kvc] ++ (St s'))) (List.Sublist.cons _ (List.Sublist.refl _)) ?_
        refine CX.region ?_
        refine RX.cons rfl rfl (op_w (yw_add rfl rfl rfl (by omega) (by omega)) rfl rfl ?_)
        refine RX.cons rfl rfl (op_w (yw_move rfl rfl) rfl rfl ?_)
        refine RX.nil (XX.againP ([]) (i + 1, s') (by dsimp only; omega) ⟨by dsimp only; omega, by dsimp only; rw [take_map_get hx0]; rw [show b = true from by simpa using c41] at hs'; exact .snoc hup hs'⟩ ⟨rfl, rfl, rfl, rfl, trivial⟩ (perm_nil _))
    · refine CX.exit ?_
      refine XX.then_exit ?_
      refine XX.then_exit ?_
      refine XX.block_exit ?_
      refine XX.scope_normal ?_
      exact end_none rfl fun w1 hw => ⟨st, .inl (by rw [List.take_of_length_le (by rw [List.length_map]; omega)] at hup; exact hup), rfl, hw.sub (List.Sublist.cons _ (List.Sublist.refl _))⟩
  · refine CX.draw 12 [(0, 4, 131072), (1, 131072, 262144), (2, 262144, 524288), (4, 524288, 1048576), (0, 2, 2097152), (16, 2097152, 4194304), (40, 5242880, 8388608), (64, 8388608, 65536), (128, 65536, 16777216), (128, 65536, 33554432), (511, 16777216, 32), (2047, 33554432, 64)] (by kernel_rfl) (by kernel_rfl) (by kernel_rfl) ?_
    refine DX.take 0 1 (by kernel_rfl) rfl rfl rfl rfl rfl (List.Sublist.refl _) (y_load (i := 2) rfl rfl one_59 rfl rfl) ?_
    refine DX.takeW 1 3 (by kernel_rfl) rfl rfl rfl rfl rfl (yw_nilCheck rfl rfl) ?_
    refine DX.takeW 2 7 (by kernel_rfl) rfl rfl rfl rfl rfl (yw_fieldAddr rfl fld_89_1 rfl) ?_
    refine DX.take 3 15 (by kernel_rfl) rfl rfl rfl rfl rfl (List.Sublist.refl _) (y_loadH (v := .map (some gcl)) rfl rfl one_86 (fun w' hw' => hgF w' (hw'.sub (List.Sublist.cons _ (List.Sublist.refl _))))) ?_
    refine DX.takeW 4 31 (by kernel_rfl) rfl rfl rfl rfl rfl (yw_fieldAddr rfl fld_24_2 rfl) ?_
    refine DX.take 5 63 (by kernel_rfl) rfl rfl rfl rfl rfl (List.Sublist.refl _) (y_load (i := 1) rfl rfl one_3 rfl rfl) ?_
    refine DX.take 6 127 (by kernel_rfl) rfl rfl rfl rfl rfl (List.Sublist.refl _) (y_klookupOk (i := 3) (k := Sm.acc s) (kv := kvc) (encK := (fun x : Int => Value.int .i64 x)) (encV := (fun x : Int => Value.int .i64 x)) rfl rfl rfl kmapt_86 rfl) ?_
    refine DX.know (t := 23) (u := .tuple #[.int .i64 c, .bool true]) rfl (by rw [hk]; rfl) ?_
    refine DX.takeW 7 255 (by kernel_rfl) rfl rfl rfl rfl rfl (yw_move rfl rfl) ?_
    refine DX.takeW 8 511 (by kernel_rfl) rfl rfl rfl rfl rfl (yw_extract rfl rfl rfl) ?_
    refine DX.takeW 9 1023 (by kernel_rfl) rfl rfl rfl rfl rfl (yw_extract rfl rfl rfl) ?_
    refine DX.takeW 10 2047 (by kernel_rfl) rfl rfl rfl rfl rfl (yw_assign rfl rfl) ?_
    refine DX.takeW 11 4095 (by kernel_rfl) rfl rfl rfl rfl rfl (yw_assign rfl rfl) ?_
    refine DX.done (by kernel_rfl) (XX.next (V' := [(0, _), (4, _), (5, _), (6, _)]) ⟨rfl, rfl, rfl, rfl, trivial⟩ ?_)
    refine CX.seq ?_
    refine CX.region ?_
    refine RX.cons rfl rfl (op_w (yw_move rfl rfl) rfl rfl ?_)
    refine RX.nil (XX.next (V' := [(0, _), (4, _), (5, _), (26, _)]) ⟨rfl, rfl, rfl, rfl, trivial⟩ ?_)
    refine CX.condT rfl ?_
    refine CX.region ?_
    refine RX.cons rfl rfl (op_w (yw_move rfl rfl) rfl rfl ?_)
    refine RX.cons rfl rfl (op_w (yw_move rfl rfl) rfl rfl ?_)
    refine RX.cons rfl rfl (op_w (yw_build (v := .agg (#[.int .i64 3, .int .i64 c])) rfl rfl (fun _ => by kernel_rfl)) rfl rfl ?_)
    refine RX.cons rfl rfl (op_buildSlice rfl rfl rfl slb_112 rfl rfl (by intro v hv; simp only [List.mem_cons, List.not_mem_nil, or_false] at hv; subst hv; exact ⟨rfl, (plain_of rfl)⟩) (by decide) fun g8 => ?_)
    refine RX.cons rfl rfl (op_appendM sjC (i := 1) (j := 0) (xs := [((1 : Int), Sm.acc s), ((2 : Int), Sm.dev s)]) ([((3 : Int), c)]) rfl rfl rfl slb_112 rfl rfl rfl rfl rfl rfl (by simp <;> omega) (by simp <;> omega) fun A1 c1 => ?_)
    refine RX.cons rfl rfl (op_w (yw_assign rfl rfl) rfl rfl ?_)
    refine RX.nil (XX.next (V' := [(0, _), (4, _)]) ⟨rfl, rfl, trivial⟩ ?_)
    refine CX.seq ?_
    refine CX.label (XX.next (V' := [(0, _), (4, _)]) ⟨rfl, rfl, trivial⟩ ?_)
    refine CX.seq ?_
    have hsb : subs kvc s = [((1 : Int), Sm.acc s), ((2 : Int), Sm.dev s)] ++ [((3 : Int), c)] := by unfold subs; rw [hk]; rfl
    have hsl : (subs kvc s).length ≤ 3 := by rw [hsb]; simp
    refine CX.drop (L' := ([.row A1 c1 93 2 (List.map sjC ([((1 : Int), Sm.acc s), ((2 : Int), Sm.dev s)] ++ [((3 : Int), c)])), .blk gs (.cells (smC s) 24 (0, 0)), .blk gf (.cells (#[.pointer (some ⟨gF, 0, none⟩)]) 59 (0, 0)), kmap (fun x : Int => Value.int .i64 x) (fun x : Int => Value.int .i64 x) gcl kvc] ++ (St s0))) (List.Sublist.cons _ (List.Sublist.refl _)) ?_
    refine CX.ents (L' := ([.row A1 c1 93 2 (List.map sjC (subs kvc s)), .blk gs (.cells (smC s) 24 (0, 0)), .blk gf (.cells (#[.pointer (some ⟨gF, 0, none⟩)]) 59 (0, 0)), kmap (fun x : Int => Value.int .i64 x) (fun x : Int => Value.int .i64 x) gcl kvc] ++ (St s0))) (by rw [hsb]) ?_
    refine CX.know (t := 4) (u := .slice A1 (List.length ((subs kvc s) : List (Int × Int))) c1) rfl (by rw [hsb] <;> rfl) ?_
    refine CX.region ?_
    refine RX.cons rfl rfl (op_w (yw_move rfl rfl) rfl rfl ?_)
    refine RX.cons rfl rfl (op_w (yw_lenS rfl Try.underlying112 rfl) rfl rfl ?_)
    refine RX.cons rfl rfl (op_w (yw_move rfl rfl) rfl rfl ?_)
    refine RX.nil (XX.next (V' := [(0, _), (32, _), (33, _), (34, _)]) ⟨rfl, rfl, rfl, rfl, trivial⟩ ?_)
    refine CX.block ?_
    refine CX.loop (σ := Nat × σ) (fun z => [(0, .func (.yield l) #[] #[]), (32, .slice A1 (List.length ((subs kvc s) : List (Int × Int))) c1), (33, .int .i64 ((List.length ((subs kvc s) : List (Int × Int)) : Nat) : Int)), (34, .int .i64 ((z.1 : Nat) : Int))]) (fun z => ([.row A1 c1 93 2 (List.map sjC (subs kvc s)), .blk gs (.cells (smC s) 24 (0, 0)), .blk gf (.cells (#[.pointer (some ⟨gF, 0, none⟩)]) 59 (0, 0)), kmap (fun x : Int => Value.int .i64 x) (fun x : Int => Value.int .i64 x) gcl kvc] ++ (St z.2))) (fun z => z.1 ≤ (subs kvc s).length ∧ Upto Rl s0 (((subs kvc s).map key2).take z.1) z.2) (fun z => (subs kvc s).length - z.1) (0, s0) ⟨Nat.zero_le _, .nil s0⟩ ⟨rfl, rfl, rfl, rfl, trivial⟩ rfl (fun z hI => ?_)
    obtain ⟨i, st⟩ := z
    dsimp only at hI ⊢
    obtain ⟨hi, hup⟩ := hI
    refine CX.seq ?_
    refine CX.region ?_
    refine RX.cons rfl rfl (op_w (yw_lss rfl rfl rfl) rfl rfl ?_)
    refine RX.nil (XX.next (V' := [(0, _), (32, _), (33, _), (34, _), (35, _)]) ⟨rfl, rfl, rfl, rfl, rfl, trivial⟩ ?_)
    refine CX.seq ?_
    refine CX.condD (p := ((i : Nat) : Int) < ((List.length ((subs kvc s) : List (Int × Int)) : Nat) : Int)) rfl (fun c35 => ?_) (fun c35 => ?_)
    · obtain ⟨x0, hx0⟩ := get_some (l := (subs kvc s)) (k := i) (by omega)
      have hx0m := List.mem_of_getElem? hx0
      refine CX.rowSome 0 rfl (by rw [List.length_map]; omega) (fun hA => ?_)
      refine CX.skip (XX.next (V' := [(0, _), (32, _), (33, _), (34, _)]) ⟨rfl, rfl, rfl, rfl, trivial⟩ ?_)
      refine CX.seq ?_
      refine CX.block ?_
      refine CX.seq ?_
      refine CX.region ?_
      refine RX.cons rfl rfl (op_w (yw_index (k := i) rfl slt_112 rfl rfl (by omega) (by omega) hA) rfl rfl ?_)
      refine RX.cons rfl rfl (op_yld (y_rowElem (i := 0) rfl rfl agg_93 rfl (map_get hx0)) rfl rfl ?_)
      refine RX.cons rfl rfl (op_alloc rfl rfl rfl zero_93 fun gx => ?_)
      refine RX.cons rfl rfl (op_storeAll (i := 0) rfl rfl rfl rfl szt_93 rfl (plain_of rfl) rfl rfl ?_)
      refine RX.nil (XX.next (V' := [(0, _), (8, _), (32, _), (33, _), (34, _)]) ⟨rfl, rfl, rfl, rfl, rfl, trivial⟩ ?_)
      refine CX.seq ?_
      refine CX.region ?_
      refine RX.cons rfl rfl (op_w (yw_move rfl rfl) rfl rfl ?_)
      refine RX.cons rfl rfl (op_yld (y_loadA (i := 0) rfl rfl agg_93 rfl rfl) rfl rfl ?_)
      refine RX.cons rfl rfl (op_yieldB st [.blk gx (.cells (sjC x0) 93 (0, 0)), .row A1 c1 93 2 (List.map sjC (subs kvc s)), .blk gs (.cells (smC s) 24 (0, 0)), .blk gf (.cells (#[.pointer (some ⟨gF, 0, none⟩)]) 59 (0, 0)), kmap (fun x : Int => Value.int .i64 x) (fun x : Int => Value.int .i64 x) gcl kvc] hy (hpre i st (by omega) hup) rfl rfl rfl rfl rfl (hok x0 hx0m) rfl (fun s' b hs' => ?_))
      refine RX.cons rfl rfl (op_w (yw_not rfl rfl) rfl rfl ?_)
      refine RX.nil (XX.next (V' := [(0, _), (32, _), (33, _), (34, _), (41, _)]) ⟨rfl, rfl, rfl, rfl, rfl, trivial⟩ ?_)
      refine CX.cond (b := !b) rfl (fun c41 => ?_) (fun c41 => ?_)
      · refine CX.exit ?_
        refine XX.block_pass rfl ?_
        refine XX.then_exit ?_
        refine XX.then_exit ?_
        refine XX.block_exit ?_
        refine XX.scope_normal ?_
        exact end_none rfl fun w1 hw => ⟨s', .inr ⟨i, key2 x0, st, map_get hx0, hup, by rw [show b = false from by simpa using c41] at hs'; exact hs'⟩, rfl, hw.sub (List.Sublist.cons _ (List.Sublist.cons _ (List.Sublist.refl _)))⟩
      · refine CX.skip (XX.inBlock (V' := [(0, _), (32, _), (33, _), (34, _)]) ⟨rfl, rfl, rfl, rfl, trivial⟩ ?_)
        refine XX.next (V' := [(0, _), (32, _), (33, _), (34, _)]) ⟨rfl, rfl, rfl, rfl, trivial⟩ ?_
        refine CX.drop (L' := ([.row A1 c1 93 2 (List.map sjC (subs kvc s)), .blk gs (.cells (smC s) 24 (0, 0)), .blk gf (.cells (#[.pointer (some ⟨gF, 0, none⟩)]) 59 (0, 0)), kmap (fun x : Int => Value.int .i64 x) (fun x : Int => Value.int .i64 x) gcl kvc] ++ (St s'))) (List.Sublist.cons _ (List.Sublist.refl _)) ?_
        refine CX.region ?_
        refine RX.cons rfl rfl (op_w (yw_add rfl rfl rfl (by omega) (by omega)) rfl rfl ?_)
        refine RX.cons rfl rfl (op_w (yw_move rfl rfl) rfl rfl ?_)
        refine RX.nil (XX.againP ([]) (i + 1, s') (by dsimp only; omega) ⟨by dsimp only; omega, by dsimp only; rw [take_map_get hx0]; rw [show b = true from by simpa using c41] at hs'; exact .snoc hup hs'⟩ ⟨rfl, rfl, rfl, rfl, trivial⟩ (perm_nil _))
    · refine CX.exit ?_
      refine XX.then_exit ?_
      refine XX.then_exit ?_
      refine XX.block_exit ?_
      refine XX.scope_normal ?_
      exact end_none rfl fun w1 hw => ⟨st, .inl (by rw [List.take_of_length_le (by rw [List.length_map]; omega)] at hup; exact hup), rfl, hw.sub (List.Sublist.cons _ (List.Sublist.refl _))⟩

end Go.Proofs.Ytpcfgoadkfajfaa
namespace Go.Proofs.Ytpcfgoadkfajfaa
set_option linter.all false
open Go Go.RowKit
theorem key2_inj {a b : Int × Int} (h : key2 a = key2 b) : a = b := by
  simp only [key2, Value.agg.injEq] at h
  have h1 := congrArg Array.toList h
  simp at h1
  exact Prod.ext h1.1 h1.2
/-- A round puts the stream into a group. -/
def RLp (s : Sm) (h : List ((Int × Int) × Sg)) (x : Value) (h' : List ((Int × Int) × Sg)) (b : Bool) : Prop := b = true ∧ ∀ y, x = key2 y → ∃ z, h' = kset y (z, grpOf y h ++ [s]) h
theorem upto_put {s : Sm} {kv h : List ((Int × Int) × Sg)} {xs : List Value} (hu : Upto (RLp s) kv xs h) : ∀ ys : List (Int × Int), xs = ys.map key2 → ∀ y : Int × Int, grpOf y h = grpOf y kv ++ List.replicate (ys.count y) s := by
  induction hu with
  | nil => intro ys hys y; rw [List.map_eq_nil_iff.1 hys.symm]; simp
  | @snoc k1 k2 xs x _ hr ih =>
    intro ys hys y
    obtain ⟨l1, l2, rfl, h1, h2⟩ := List.map_eq_append_iff.1 hys.symm
    obtain ⟨y0, l3, rfl, h3, h4⟩ := List.map_eq_cons_iff.1 h2
    rw [List.map_eq_nil_iff] at h4
    subst h4
    obtain ⟨z, rfl⟩ := hr.2 y0 h3.symm
    have ih' := ih l1 h1.symm
    rw [grpOf_kset, List.count_append, ← List.replicate_append_replicate, ← List.append_assoc]
    split
    · rename_i e; subst e
      rw [← ih' y]; simp
    · rename_i e
      rw [← ih' y, List.count_eq_zero.2 (by simpa using e)]; simp
theorem subs_nodup (kvc : List (Int × Int)) (s : Sm) : (subs kvc s).Nodup := by
  unfold subs
  cases kget s.acc kvc <;> simp
theorem subs_len (kvc : List (Int × Int)) (s : Sm) : (subs kvc s).length ≤ 3 := by
  unfold subs
  cases kget s.acc kvc <;> simp
theorem upto_len {s : Sm} {kv h : List ((Int × Int) × Sg)} {kvc : List (Int × Int)} {i : Nat} (hu : Upto (RLp s) kv (((subs kvc s).map key2).take i) h) {n : Nat} (hn : ∀ y, (grpOf y kv).length ≤ n) : ∀ y, (grpOf y h).length ≤ n + 3 := by
  intro y
  rw [upto_put hu ((subs kvc s).take i) (List.map_take ..).symm y, List.length_append, List.length_replicate]
  have h1 := List.count_le_length (a := y) (l := (subs kvc s).take i)
  have h2 : ((subs kvc s).take i).length ≤ (subs kvc s).length := by rw [List.length_take]; omega
  have h3 := subs_len kvc s
  have := hn y
  omega
theorem went_put {s : Sm} {kv h : List ((Int × Int) × Sg)} {kvc : List (Int × Int)} (hw : Went (RLp s) kv ((subs kvc s).map key2) h) (y : Int × Int) : grpOf y h = if y ∈ subs kvc s then grpOf y kv ++ [s] else grpOf y kv := by
  rcases hw with hu | ⟨i, x, st, _, _, hr⟩
  · rw [upto_put hu _ rfl y, (subs_nodup kvc s).count]
    split <;> simp
  · exact absurd hr.1 (by decide)
/-- The groups of the first streams of a list. -/
def GsOk (l : List Sm) (kvc : List (Int × Int)) (kv : List ((Int × Int) × Sg)) : Prop := ∀ y, grpOf y kv = l.filter fun t => decide (y ∈ subs kvc t)
theorem GsOk.nil (kvc : List (Int × Int)) : GsOk [] kvc [] := fun _ => rfl
theorem GsOk.snoc {l : List Sm} {s : Sm} {kvc : List (Int × Int)} {kv h : List ((Int × Int) × Sg)} (hg : GsOk l kvc kv) (hw : ∀ y, grpOf y h = if y ∈ subs kvc s then grpOf y kv ++ [s] else grpOf y kv) : GsOk (l ++ [s]) kvc h := fun y => by
  rw [hw, hg y, List.filter_append]
  by_cases e : y ∈ subs kvc s <;> simp [e]
theorem GsOk.len {l : List Sm} {kvc : List (Int × Int)} {kv : List ((Int × Int) × Sg)} (hg : GsOk l kvc kv) (y : Int × Int) : (grpOf y kv).length ≤ l.length := by
  rw [hg y]; exact List.length_filter_le _ _
/-- A measure, as the filter finds it. -/
def fmeas (kvc : List (Int × Int)) (kv : List ((Int × Int) × Sg)) (s : Sm) (k m : Int) : Nat := ((subs kvc s).find? fun y => decide (y.1 = k)).elim 0 fun y => cnt (grpOf y kv) m
theorem fmeas_eq {l : List Sm} {kvc : List (Int × Int)} {kv : List ((Int × Int) × Sg)} (hc : ClOk (rep (edgesOf l)) (accs l) kvc) (hg : GsOk l kvc kv) (s : Sm) (k m : Int) : fmeas kvc kv s k m = meas l s k m := by
  have h0 : cnt [] m = 0 := by unfold cnt; repeat' split
                               all_goals rfl
  have e1 : ∀ (n : Int) (t : Sm), ((1 : Int), n) ∈ subs kvc t ↔ t.acc = n := fun n t => by unfold subs; cases kget t.acc kvc <;> simp [eq_comm]
  have e2 : ∀ (n : Int) (t : Sm), ((2 : Int), n) ∈ subs kvc t ↔ t.dev = n := fun n t => by unfold subs; cases kget t.acc kvc <;> simp [eq_comm]
  have e3 : ∀ (n : Int) (t : Sm), ((3 : Int), n) ∈ subs kvc t ↔ kget t.acc kvc = some n := fun n t => by unfold subs; cases kget t.acc kvc <;> simp [eq_comm]
  unfold fmeas meas grp
  by_cases k1 : k = 1
  · subst k1
    have : (subs kvc s).find? (fun y => decide (y.1 = 1)) = some (1, s.acc) := by simp [subs]
    rw [this]
    show cnt (grpOf (1, s.acc) kv) m = _
    rw [hg]; congr 1
    refine List.filter_congr fun t _ => ?_
    rw [Bool.eq_iff_iff, decide_eq_true_eq, e1]; simp [inGrp]
  by_cases k2 : k = 2
  · subst k2
    have : (subs kvc s).find? (fun y => decide (y.1 = 2)) = some (2, s.dev) := by simp [subs]
    rw [this]
    show cnt (grpOf (2, s.dev) kv) m = _
    rw [hg]; congr 1
    refine List.filter_congr fun t _ => ?_
    rw [Bool.eq_iff_iff, decide_eq_true_eq, e2]; simp [inGrp]
  by_cases k3 : k = 3
  · subst k3
    by_cases hs : s.acc ∈ accs l
    · obtain ⟨c, hcs⟩ := hc.some_ _ hs
      have : (subs kvc s).find? (fun y => decide (y.1 = 3)) = some (3, c) := by simp [subs, hcs]
      rw [this]
      show cnt (grpOf (3, c) kv) m = _
      rw [hg]; congr 1
      refine List.filter_congr fun t ht => ?_
      obtain ⟨d, hd⟩ := hc.some_ t.acc (List.mem_map.2 ⟨t, ht, rfl⟩)
      rw [Bool.eq_iff_iff, decide_eq_true_eq, e3, hd]
      have := hc.same _ _ _ _ hd hcs
      simp [inGrp, hs, joinA, this]
    · have hn := hc.none_ _ hs
      have : (subs kvc s).find? (fun y => decide (y.1 = 3)) = none := by simp [subs, hn]
      rw [this]
      have : l.filter (inGrp l s 3) = [] := List.filter_eq_nil_iff.2 fun t _ => by simp [inGrp, hs]
      rw [this, h0]; rfl
  · have : (subs kvc s).find? (fun y => decide (y.1 = k)) = none := by
      unfold subs; cases kget s.acc kvc <;> simp <;> omega
    rw [this]
    have : l.filter (inGrp l s k) = [] := List.filter_eq_nil_iff.2 fun t _ => by simp [inGrp, k1, k2, k3]
    rw [this, h0]; rfl
/-- A round of measuring. -/
def RLm (kv : List ((Int × Int) × Sg)) (k m : Int) (h : Option Nat) (x : Value) (h' : Option Nat) (b : Bool) : Prop := ∀ y, x = key2 y → (y.1 = k ∧ b = false ∧ h' = some (cnt (grpOf y kv) m)) ∨ (y.1 ≠ k ∧ b = true ∧ h' = h)
theorem upto_meas {kv : List ((Int × Int) × Sg)} {k m : Int} {h h' : Option Nat} {xs : List Value} (hu : Upto (RLm kv k m) h xs h') : ∀ ys : List (Int × Int), xs = ys.map key2 → h' = h ∧ ∀ y ∈ ys, y.1 ≠ k := by
  induction hu with
  | nil => intro ys hys; rw [List.map_eq_nil_iff.1 hys.symm]; exact ⟨rfl, fun y h => (by cases h)⟩
  | @snoc b c xs x _ hr ih =>
    intro ys hys
    obtain ⟨l1, l2, rfl, h1, h2⟩ := List.map_eq_append_iff.1 hys.symm
    obtain ⟨y0, l3, rfl, h3, h4⟩ := List.map_eq_cons_iff.1 h2
    rw [List.map_eq_nil_iff] at h4
    subst h4
    obtain ⟨i1, i2⟩ := ih l1 h1.symm
    rcases hr y0 h3.symm with ⟨_, hb, _⟩ | ⟨hne, _, he⟩
    · cases hb
    · refine ⟨he.trans i1, fun y hy => ?_⟩
      rcases List.mem_append.1 hy with hy | hy
      · exact i2 y hy
      · rw [List.mem_singleton.1 hy]; exact hne
theorem went_meas {kv : List ((Int × Int) × Sg)} {kvc : List (Int × Int)} {s : Sm} {k m : Int} {h : Option Nat} (hw : Went (RLm kv k m) none ((subs kvc s).map key2) h) : h.getD 0 = fmeas kvc kv s k m := by
  unfold fmeas
  rcases hw with hu | ⟨i, x, st, hx, hu, hr⟩
  · obtain ⟨rfl, h2⟩ := upto_meas hu _ rfl
    rw [List.find?_eq_none.2 (fun y hy => by simpa using h2 y hy)]; rfl
  · rw [List.getElem?_map, Option.map_eq_some_iff] at hx
    obtain ⟨y, hy, rfl⟩ := hx
    obtain ⟨_, h2⟩ := upto_meas hu ((subs kvc s).take i) (List.map_take ..).symm
    rcases hr y rfl with ⟨hk, _, he⟩ | ⟨_, hb, _⟩
    · have hi := (List.getElem?_eq_some_iff.1 hy).1
      have hsplit : subs kvc s = (subs kvc s).take i ++ y :: (subs kvc s).drop (i + 1) := by
        conv => lhs; rw [← List.take_append_drop i (subs kvc s)]
        rw [List.drop_eq_getElem_cons hi, (List.getElem?_eq_some_iff.1 hy).2]
      rw [hsplit, List.find?_append, List.find?_eq_none.2 (fun y hy => by simpa using h2 y hy), he]
      simp [hk]
    · cases hb
/-- What is found of a group in the map. -/
def sgOf (y : Int × Int) (kv : List ((Int × Int) × Sg)) : Sg := (kget y kv).getD ((none, 0), [])
theorem sgOf_snd (y : Int × Int) (kv : List ((Int × Int) × Sg)) : (sgOf y kv).2 = grpOf y kv := by unfold sgOf grpOf; cases kget y kv <;> rfl
theorem sgV_of (y : Int × Int) (kv : List ((Int × Int) × Sg)) : Option.getD (Option.map sgV (kget y kv)) (.slice none 0 0) = .slice (sgOf y kv).1.1 (sgOf y kv).2.length (sgOf y kv).1.2 := by unfold sgOf; cases kget y kv <;> rfl
theorem sg_rd {w0 w : World} {O : List Nat} {L : List Ent} (h : SL w0 O w L) {i : Nat} {kv : List ((Int × Int) × Sg)} (hL : L[i]? = some (pack (kv.map sgE))) (y : Int × Int) : Rd w (sgOf y kv).1.1 9 (List.map smC (sgOf y kv).2) := by
  unfold sgOf
  cases hk : kget y kv with
  | none => exact Rd.nil _ _ _
  | some v => exact h.packRd hL (A := v.1.1) (cap := v.1.2) (e := 24) (List.mem_map.2 ⟨(y, v), kget_some_mem hk, rfl⟩)
end Go.Proofs.Ytpcfgoadkfajfaa
namespace Go.Proofs.Ytpcfgoadkfajfaa
set_option linter.all false
open Go Go.RowKit
set_option maxRecDepth 100000
theorem ent_44 : ∀ args w, (callFunc 44 args).run Try.prog w = .ok (.enter 44 args) w := enters_of Try.func44 (by kernel_rfl) rfl
theorem zero_59 : Zero Try.prog 59 (.pointer none) := ⟨(Try.prog.info? 59).get!, by kernel_rfl, by kernel_rfl⟩
theorem szt_59 : SzT Try.prog 59 1 := ⟨(Try.prog.info? 59).get!, by kernel_rfl, by kernel_rfl⟩
theorem ent_45 : ∀ args w, (callFunc 45 args).run Try.prog w = .ok (.enter 45 args) w := enters_of Try.func45 (by kernel_rfl) rfl
theorem ent_62 : ∀ args w, (callFunc 62 args).run Try.prog w = .ok (.enter 62 args) w := enters_of Try.func62 (by kernel_rfl) rfl
theorem fld_89_0 : Fld Try.prog 89 0 0 := ⟨_, _, (Try.prog.info? 85).get!, Try.underlying89, rfl, rfl, by kernel_rfl, by decide +kernel⟩
theorem one_85 : One Try.prog 85 := ⟨_, Try.underlying85, rfl⟩
theorem ent_46 : ∀ args w, (callFunc 46 args).run Try.prog w = .ok (.enter 46 args) w := enters_of Try.func46 (by kernel_rfl) rfl
set_option maxRecDepth 100000 in
set_option maxHeartbeats 1000000 in
theorem w_newFilter {w : World} {A : Option Addr} {cap : Nat} (ls : List Sm) (hr : Rd w A 9 (ls.map smC)) (hl : ls.length ≤ 100000) :
    Calls Try.prog 28 #[.slice A ls.length cap] w (fun e w' => ∃ z : (Nat × Nat × Nat) × List ((Int × Int) × Sg) × List (Int × Int), (ClOk (rep (edgesOf ls)) (accs ls) z.2.2 ∧ GsOk ls z.2.2 z.2.1) ∧ e = .returned (.pointer (some ⟨z.1.1, 0, none⟩)) ∧ SL w [] w' [kmap key2 sgV z.1.2.1 z.2.1, pack (List.map sgE z.2.1), .blk z.1.1 (.cells #[.map (some z.1.2.1), .map (some z.1.2.2)] 89 (0, 0)), kmap (fun x : Int => Value.int .i64 x) (fun x : Int => Value.int .i64 x) z.1.2.2 z.2.2]) := by
  refine calls_of_CXM (O := []) (L := []) (args := [.slice A ls.length cap]) Try.func28 rfl (by simp [Try.ntmps28]) (SL.refl w) ?_
  refine CX.sub (V' := [(0, .slice A ls.length cap)]) ⟨rfl, trivial⟩ ?_
  refine CX.seq ?_
  refine CX.region ?_
  refine RX.cons rfl rfl (op_w (yw_assign rfl rfl) rfl rfl ?_)
  refine RX.nil (XX.next (V' := [(0, _), (2, .pointer none)]) ⟨rfl, rfl, trivial⟩ ?_)
  refine CX.seq ?_
  refine CX.region ?_
  refine RX.cons rfl rfl (op_kmake key2 sgV rfl rfl rfl fun gg => ?_)
  refine RX.cons rfl rfl (op_w (yw_move rfl rfl) rfl rfl ?_)
  refine RX.cons rfl rfl (op_callE rfl rfl rfl rfl rfl ent_44 (fun w hw => w_fclusters ls (hw.rd hr (by simp)) hl) (fun ⟨gcl, kvc⟩ hcl => ?_))
  refine RX.cons rfl rfl (op_w (yw_build (v := .agg (#[.map (some gg), .map (some gcl)])) rfl rfl (fun _ => by kernel_rfl)) rfl rfl ?_)
  refine RX.cons rfl rfl (op_box rfl rfl rfl rfl fun gF => ?_)
  refine RX.cons rfl rfl (op_alloc rfl rfl rfl zero_59 fun g3 => ?_)
  refine RX.cons rfl rfl (op_storeAll (i := 0) rfl rfl rfl rfl szt_59 rfl (plain_of rfl) rfl rfl ?_)
  refine RX.nil (XX.next (V' := [(0, _), (2, .pointer none), (3, _), (7, _), (8, _), (9, _), (10, _), (11, _)]) ⟨rfl, rfl, rfl, rfl, rfl, rfl, rfl, rfl, trivial⟩ ?_)
  refine CX.seq ?_
  refine CX.seq ?_
  refine CX.packNil ?_
  refine CX.openNil ?_
  refine CX.perm (L' := [openB [], kmap key2 sgV gg ([] : List ((Int × Int) × Sg)), pack (List.map sgE ([])), .blk gF (.cells (#[.map (some gg), .map (some gcl)]) 89 (0, 0)), .blk g3 (.cells (#[.pointer (some ⟨gF, 0, none⟩)]) 59 (0, 0)), kmap (fun x : Int => Value.int .i64 x) (fun x : Int => Value.int .i64 x) gcl kvc]) ((perm_pick 0 rfl).trans (List.Perm.cons _ ((perm_pick 4 rfl).trans (List.Perm.cons _ ((perm_pick 0 rfl).trans (List.Perm.cons _ ((perm_pick 1 rfl).trans (List.Perm.cons _ ((perm_pick 0 rfl).trans (List.Perm.cons _ ((perm_pick 0 rfl).trans (List.Perm.cons _ (List.Perm.refl _))))))))))))) ?_
  refine CX.region ?_
  refine RX.cons rfl rfl (op_w (yw_move rfl rfl) rfl rfl ?_)
  refine RX.cons rfl rfl (op_w (yw_lenS rfl Try.underlying22 rfl) rfl rfl ?_)
  refine RX.cons rfl rfl (op_w (yw_move rfl rfl) rfl rfl ?_)
  refine RX.nil (XX.next (V' := [(0, _), (2, .pointer none), (3, _), (7, _), (8, _), (9, _), (10, _), (11, _), (12, _), (13, _), (14, _)]) ⟨rfl, rfl, rfl, rfl, rfl, rfl, rfl, rfl, rfl, rfl, rfl, trivial⟩ ?_)
  refine CX.block ?_
  refine CX.loopD (σ := Nat × List Nat × List ((Int × Int) × Sg)) (fun z => [(0, .slice A ls.length cap), (2, .pointer none), (3, .pointer (some ⟨g3, 0, none⟩)), (7, .map (some gg)), (8, .slice A ls.length cap), (9, .map (some gcl)), (10, .agg (#[.map (some gg), .map (some gcl)])), (11, .pointer (some ⟨gF, 0, none⟩)), (12, .slice A ls.length cap), (13, .int .i64 ((ls.length : Nat) : Int)), (14, .int .i64 ((z.1 : Nat) : Int))]) (fun z => [openB z.2.1, kmap key2 sgV gg z.2.2, pack (List.map sgE z.2.2), .blk gF (.cells (#[.map (some gg), .map (some gcl)]) 89 (0, 0)), .blk g3 (.cells (#[.pointer (some ⟨gF, 0, none⟩)]) 59 (0, 0)), kmap (fun x : Int => Value.int .i64 x) (fun x : Int => Value.int .i64 x) gcl kvc]) (fun z => List.map markD z.2.1) (fun z => z.1 ≤ ls.length ∧ GsOk (List.take z.1 ls) kvc z.2.2) (fun z => ls.length - z.1) (0, [], []) ⟨Nat.zero_le _, GsOk.nil _⟩ rfl ⟨rfl, rfl, rfl, rfl, rfl, rfl, rfl, rfl, rfl, rfl, rfl, trivial⟩ rfl (fun z hI => ?_)
  obtain ⟨i, ks, kv⟩ := z
  dsimp only at hI ⊢
  obtain ⟨hi, hG⟩ := hI
  refine CX.seq ?_
  refine CX.region ?_
  refine RX.cons rfl rfl (op_w (yw_lss rfl rfl rfl) rfl rfl ?_)
  refine RX.nil (XX.next (V' := [(0, _), (2, .pointer none), (3, _), (7, _), (8, _), (9, _), (10, _), (11, _), (12, _), (13, _), (14, _), (15, _)]) ⟨rfl, rfl, rfl, rfl, rfl, rfl, rfl, rfl, rfl, rfl, rfl, rfl, trivial⟩ ?_)
  refine CX.seq ?_
  refine CX.condD (p := ((i : Nat) : Int) < ((ls.length : Nat) : Int)) rfl (fun c15 => ?_) (fun c15 => ?_)
  · obtain ⟨x0, hx0⟩ := get_some (l := ls) (k := i) (by omega)
    have hx0m := List.mem_of_getElem? hx0
    have hA : ∃ b j, A = some ⟨b, j, none⟩ := hr.some (k := 0) (by simp; omega)
    refine CX.skip (XX.next (V' := [(0, _), (2, .pointer none), (3, _), (7, _), (8, _), (9, _), (10, _), (11, _), (12, _), (13, _), (14, _), (15, _)]) ⟨rfl, rfl, rfl, rfl, rfl, rfl, rfl, rfl, rfl, rfl, rfl, rfl, trivial⟩ ?_)
    refine CX.seq ?_
    refine CX.block ?_
    refine CX.seq ?_
    refine CX.region ?_
    refine RX.cons rfl rfl (op_w (yw_index (k := i) rfl slt_22 rfl rfl (by omega) (by omega) hA) rfl rfl ?_)
    refine RX.cons rfl rfl (op_yld (y_elem rfl rfl agg_24 hr (by simp) (map_get hx0)) rfl rfl ?_)
    refine RX.cons rfl rfl (op_alloc rfl rfl rfl zero_24 fun g5 => ?_)
    refine RX.cons rfl rfl (op_storeAll (i := 0) rfl rfl rfl rfl szt_24 rfl (plain_of rfl) rfl rfl ?_)
    refine RX.nil (XX.next (V' := [(0, _), (2, .pointer none), (3, _), (5, _), (7, _), (8, _), (9, _), (10, _), (11, _), (12, _), (13, _), (14, _), (15, _), (16, _), (17, _)]) ⟨rfl, rfl, rfl, rfl, rfl, rfl, rfl, rfl, rfl, rfl, rfl, rfl, rfl, rfl, rfl, trivial⟩ ?_)
    refine CX.seq ?_
    refine CX.region ?_
    refine RX.cons rfl rfl (op_yld (y_load (i := 5) rfl rfl one_59 rfl rfl) rfl rfl ?_)
    refine RX.cons rfl rfl (op_yld (y_loadA (i := 0) rfl rfl agg_24 rfl rfl) rfl rfl ?_)
    refine RX.cons rfl rfl (op_callE rfl rfl rfl rfl rfl ent_45 (fun w hw => w_fsubjects gF x0) (fun ⟨gs, gf⟩ _ => ?_))
    refine RX.nil (XX.next (V' := [(0, _), (2, .pointer none), (3, _), (5, _), (7, _), (8, _), (9, _), (10, _), (11, _), (12, _), (13, _), (14, _), (15, _), (16, _), (17, _), (18, _), (19, _), (20, _)]) ⟨rfl, rfl, rfl, rfl, rfl, rfl, rfl, rfl, rfl, rfl, rfl, rfl, rfl, rfl, rfl, rfl, rfl, rfl, trivial⟩ ?_)
    refine CX.block ?_
    refine CX.rangeFuncJ (σ := List ((Int × Int) × Sg)) (LL := fun h => [.blk gs (.cells (smC x0) 24 (0, 0)), .blk gf (.cells (#[.pointer (some ⟨gF, 0, none⟩)]) 59 (0, 0)), kmap (fun x : Int => Value.int .i64 x) (fun x : Int => Value.int .i64 x) gcl kvc, kmap key2 sgV gg h, pack (List.map sgE h), .blk gF (.cells (#[.map (some gg), .map (some gcl)]) 89 (0, 0)), .blk g3 (.cells (#[.pointer (some ⟨gF, 0, none⟩)]) 59 (0, 0)), .blk g5 (.cells (smC x0) 24 (0, 0))]) (post := fun h => ∀ y, grpOf y h = if y ∈ subs kvc x0 then grpOf y kv ++ [x0] else grpOf y kv) (pend := fun _ => none) [.blk gs (.cells (smC x0) 24 (0, 0)), .blk gf (.cells (#[.pointer (some ⟨gF, 0, none⟩)]) 59 (0, 0)), kmap (fun x : Int => Value.int .i64 x) (fun x : Int => Value.int .i64 x) gcl kvc, kmap key2 sgV gg kv, pack (List.map sgE kv), .blk gF (.cells (#[.map (some gg), .map (some gcl)]) 89 (0, 0)), .blk g3 (.cells (#[.pointer (some ⟨gF, 0, none⟩)]) 59 (0, 0)), .blk g5 (.cells (smC x0) 24 (0, 0))] [openB ks] ((perm_pick 0 rfl).trans (List.Perm.cons _ ((perm_pick 0 rfl).trans (List.Perm.cons _ ((perm_pick 6 rfl).trans (List.Perm.cons _ ((perm_pick 2 rfl).trans (List.Perm.cons _ ((perm_pick 2 rfl).trans (List.Perm.cons _ ((perm_pick 2 rfl).trans (List.Perm.cons _ ((perm_pick 2 rfl).trans (List.Perm.cons _ ((perm_pick 0 rfl).trans (List.Perm.cons _ (List.Perm.refl _))))))))))))))))) rfl ent_62 ?_ ?_ ?_
    · intro l Dk fn a w1 ha hw hs
      refine (w_subjects1 (l := l) (gF := gF) (St := (fun h : List ((Int × Int) × Sg) => [.blk l (.loop (mkRec fn a.tmps _ _ _ Dk)), .blk Dk (.deferred (some [])), kmap key2 sgV gg h, pack (List.map sgE h), .blk gF (.cells (#[.map (some gg), .map (some gcl)]) 89 (0, 0)), .blk g3 (.cells (#[.pointer (some ⟨gF, 0, none⟩)]) 59 (0, 0)), .blk g5 (.cells (smC x0) 24 (0, 0))])) (pre := fun h => ∀ y, (grpOf y h).length ≤ 1000000) (Rl := RLp x0) (ok := fun x => ∃ y, x = key2 y) kv x0 kvc ?_ ?_ ?_ ?_ (hs.perm ((perm_pick 2 rfl).trans (List.Perm.cons _ ((perm_pick 2 rfl).trans (List.Perm.cons _ ((perm_pick 2 rfl).trans (List.Perm.cons _ ((perm_pick 0 rfl).trans (List.Perm.cons _ ((perm_pick 0 rfl).trans (List.Perm.cons _ ((perm_pick 0 rfl).trans (List.Perm.cons _ ((perm_pick 0 rfl).trans (List.Perm.cons _ ((perm_pick 0 rfl).trans (List.Perm.cons _ ((perm_pick 0 rfl).trans (List.Perm.cons _ ((perm_pick 0 rfl).trans (List.Perm.cons _ (List.Perm.refl _))))))))))))))))))))))).mono ?_
      · rintro h x w2 hpre ⟨y, rfl⟩ hag hs2
        refine (round_of_CXJ (n := Try.f28.ntmps) (V0 := [(21, key2 y), (3, .pointer (some ⟨g3, 0, none⟩)), (5, .pointer (some ⟨g5, 0, none⟩))]) (σ := Nat) (τ := List ((Int × Int) × Sg)) (M := [kmap key2 sgV gg h, pack (List.map sgE h), .blk gF (.cells (#[.map (some gg), .map (some gcl)]) 89 (0, 0)), .blk g3 (.cells (#[.pointer (some ⟨gF, 0, none⟩)]) 59 (0, 0)), .blk g5 (.cells (smC x0) 24 (0, 0))]) (fun g6 => [(3, .pointer (some ⟨g3, 0, none⟩)), (5, .pointer (some ⟨g5, 0, none⟩)), (6, .pointer (some ⟨g6, 0, none⟩))]) (fun g6 => [kmap key2 sgV gg h, pack (List.map sgE h), .blk gF (.cells (#[.map (some gg), .map (some gcl)]) 89 (0, 0)), .blk g3 (.cells (#[.pointer (some ⟨gF, 0, none⟩)]) 59 (0, 0)), .blk g5 (.cells (smC x0) 24 (0, 0)), .blk g6 (.cells (#[.int .i64 y.1, .int .i64 y.2]) 93 (0, 0))]) (fun _ => True) (LL := fun h' => [kmap key2 sgV gg h', pack (List.map sgE h'), .blk gF (.cells (#[.map (some gg), .map (some gcl)]) 89 (0, 0)), .blk g3 (.cells (#[.pointer (some ⟨gF, 0, none⟩)]) 59 (0, 0)), .blk g5 (.cells (smC x0) 24 (0, 0))]) (post := fun h' => ∃ z, h' = kset y (z, grpOf y h ++ [x0]) h) (pend := fun _ => none) rfl rfl rfl ?_ ?_ ?_ hs2).imp fun f h1 => h1.imp fun tm h2 => h2.imp fun as1 h3 => h3.imp fun bd h4 => ⟨h4.1, h4.2.mono fun e w' ⟨h', hp, he, hz⟩ => ⟨(h', true), ⟨rfl, fun y' e' => by rw [← key2_inj e']; exact hp⟩, he, hz⟩⟩
        · exact (ha.sub (V' := [(3, .pointer (some ⟨g3, 0, none⟩)), (5, .pointer (some ⟨g5, 0, none⟩))]) ⟨rfl, rfl, trivial⟩).round 21 rfl _
        · refine CX.region ?_
          refine RX.cons rfl rfl (op_alloc rfl rfl rfl zero_93 fun g6 => ?_)
          refine RX.cons rfl rfl (op_storeAll (i := 0) rfl rfl rfl rfl szt_93 rfl (plain_of rfl) rfl rfl ?_)
          refine RX.nil (XX.meetP ([]) g6 trivial ⟨rfl, rfl, rfl, trivial⟩ ((perm_pick 1 rfl).trans (List.Perm.cons _ ((perm_pick 1 rfl).trans (List.Perm.cons _ ((perm_pick 1 rfl).trans (List.Perm.cons _ ((perm_pick 1 rfl).trans (List.Perm.cons _ ((perm_pick 1 rfl).trans (List.Perm.cons _ ((perm_pick 1 rfl).trans (List.Perm.cons _ ((perm_pick 1 rfl).trans (List.Perm.cons _ ((perm_pick 0 rfl).trans (List.Perm.cons _ (List.Perm.refl _))))))))))))))))))
        · intro g6 _
          refine CX.block ?_
          refine CX.draw 6 [(0, 8, 4194304), (1, 4194304, 8388608), (2, 8388608, 16777216), (4, 16777216, 33554432), (0, 64, 67108864), (0, 32, 134217728), (56, 234881024, 268435456)] (by kernel_rfl) (by kernel_rfl) (by kernel_rfl) ?_
          refine DX.take 0 1 (by kernel_rfl) rfl rfl rfl rfl rfl (List.Sublist.refl _) (y_load (i := 5) rfl rfl one_59 rfl rfl) ?_
          refine DX.takeW 1 3 (by kernel_rfl) rfl rfl rfl rfl rfl (yw_nilCheck rfl rfl) ?_
          refine DX.takeW 2 7 (by kernel_rfl) rfl rfl rfl rfl rfl (yw_field0 rfl fld_89_0 rfl) ?_
          refine DX.take 3 15 (by kernel_rfl) rfl rfl rfl rfl rfl (List.Sublist.refl _) (y_load (i := 4) rfl rfl one_85 rfl rfl) ?_
          refine DX.take 4 31 (by kernel_rfl) rfl rfl rfl rfl rfl (List.Sublist.refl _) (y_loadA (i := 7) rfl rfl agg_93 rfl rfl) ?_
          refine DX.take 5 63 (by kernel_rfl) rfl rfl rfl rfl rfl (List.Sublist.refl _) (y_loadA (i := 6) rfl rfl agg_24 rfl rfl) ?_
          refine DX.stepT 6 127 (by kernel_rfl) rfl rfl rfl rfl (op_callP [kmap key2 sgV gg h, pack (List.map sgE h)] [.blk l (.loop _), .blk Dk (.deferred (some [])), .blk gF (.cells (#[.map (some gg), .map (some gcl)]) 89 (0, 0)), .blk g3 (.cells (#[.pointer (some ⟨gF, 0, none⟩)]) 59 (0, 0)), .blk g5 (.cells (smC x0) 24 (0, 0)), .blk g6 (.cells (#[.int .i64 y.1, .int .i64 y.2]) 93 (0, 0))] rfl rfl rfl rfl rfl ent_46 ((perm_pick 2 rfl).trans (List.Perm.cons _ ((perm_pick 2 rfl).trans (List.Perm.cons _ (List.Perm.refl _))))) (σ := Option Addr × Nat) (val := fun _ => .tuple #[]) (LL := fun z => [kmap key2 sgV gg (kset y (z, grpOf y h ++ [x0]) h), pack (List.map sgE (kset y (z, grpOf y h ++ [x0]) h))]) (post := fun _ => True) (fun w hw hs => w_put h y x0 (hpre y) hs) (fun z _ => ?_))
          refine DX.done (by kernel_rfl) (XX.inBlock (V' := []) trivial ?_)
          exact XX.metJ ([.blk g6 (.cells (#[.int .i64 y.1, .int .i64 y.2]) 93 (0, 0))]) (kset y (z, grpOf y h ++ [x0]) h) ⟨z, rfl⟩ rfl ((perm_pick 2 rfl).trans (List.Perm.cons _ ((perm_pick 2 rfl).trans (List.Perm.cons _ ((perm_pick 0 rfl).trans (List.Perm.cons _ ((perm_pick 0 rfl).trans (List.Perm.cons _ ((perm_pick 0 rfl).trans (List.Perm.cons _ ((perm_pick 0 rfl).trans (List.Perm.cons _ ((perm_pick 0 rfl).trans (List.Perm.cons _ (List.Perm.refl _)))))))))))))))
      · exact fun i st _ hu y => Nat.le_trans (upto_len hu (n := ls.length) (fun y => Nat.le_trans (hG.len y) (by rw [List.length_take]; omega)) y) (by omega)
      · exact fun y _ => ⟨y, rfl⟩
      · exact fun w' hw' => hw'.cellOf (i := 7) rfl rfl
      · exact fun e w' ⟨h, hwt, he, hz⟩ => ⟨h, went_put hwt, ⟨_, he⟩, hz.perm ((perm_pick 3 rfl).trans (List.Perm.cons _ ((perm_pick 3 rfl).trans (List.Perm.cons _ ((perm_pick 0 rfl).trans (List.Perm.cons _ ((perm_pick 0 rfl).trans (List.Perm.cons _ ((perm_pick 0 rfl).trans (List.Perm.cons _ ((perm_pick 0 rfl).trans (List.Perm.cons _ ((perm_pick 0 rfl).trans (List.Perm.cons _ ((perm_pick 0 rfl).trans (List.Perm.cons _ ((perm_pick 0 rfl).trans (List.Perm.cons _ ((perm_pick 0 rfl).trans (List.Perm.cons _ (List.Perm.refl _)))))))))))))))))))))⟩
    · intro h l Dk ob hh _
      refine XX.openMore (k := Dk) (ks := ks) (L' := [.blk l ob, .blk gs (.cells (smC x0) 24 (0, 0)), .blk gf (.cells (#[.pointer (some ⟨gF, 0, none⟩)]) 59 (0, 0)), kmap (fun x : Int => Value.int .i64 x) (fun x : Int => Value.int .i64 x) gcl kvc, kmap key2 sgV gg h, pack (List.map sgE h), .blk gF (.cells (#[.map (some gg), .map (some gcl)]) 89 (0, 0)), .blk g3 (.cells (#[.pointer (some ⟨gF, 0, none⟩)]) 59 (0, 0)), .blk g5 (.cells (smC x0) 24 (0, 0))]) ((perm_pick 1 rfl).trans (List.Perm.cons _ ((perm_pick 9 rfl).trans (List.Perm.cons _ (List.Perm.refl _))))) ?_
      refine XX.inBlock (V' := [(0, _), (2, .pointer none), (3, _), (7, _), (8, _), (9, _), (10, _), (11, _), (12, _), (13, _), (14, _)]) ⟨rfl, rfl, rfl, rfl, rfl, rfl, rfl, rfl, rfl, rfl, rfl, trivial⟩ ?_
      refine XX.inBlock (V' := [(0, _), (2, .pointer none), (3, _), (7, _), (8, _), (9, _), (10, _), (11, _), (12, _), (13, _), (14, _)]) ⟨rfl, rfl, rfl, rfl, rfl, rfl, rfl, rfl, rfl, rfl, rfl, trivial⟩ ?_
      refine XX.next (V' := [(0, _), (2, .pointer none), (3, _), (7, _), (8, _), (9, _), (10, _), (11, _), (12, _), (13, _), (14, _)]) ⟨rfl, rfl, rfl, rfl, rfl, rfl, rfl, rfl, rfl, rfl, rfl, trivial⟩ ?_
      refine CX.region ?_
      refine RX.cons rfl rfl (op_w (yw_add rfl rfl rfl (by omega) (by omega)) rfl rfl ?_)
      refine RX.cons rfl rfl (op_w (yw_move rfl rfl) rfl rfl ?_)
      refine RX.nil (XX.againD ([.blk l ob, .blk gs (.cells (smC x0) 24 (0, 0)), .blk gf (.cells (#[.pointer (some ⟨gF, 0, none⟩)]) 59 (0, 0)), .blk g5 (.cells (smC x0) 24 (0, 0))]) (i + 1, Dk :: ks, h) (by dsimp only; omega) ⟨by dsimp only; omega, by dsimp only; rw [take_succ hx0]; exact hG.snoc hh⟩ rfl ⟨rfl, rfl, rfl, rfl, rfl, rfl, rfl, rfl, rfl, rfl, rfl, trivial⟩ ((perm_pick 0 rfl).trans (List.Perm.cons _ ((perm_pick 4 rfl).trans (List.Perm.cons _ ((perm_pick 4 rfl).trans (List.Perm.cons _ ((perm_pick 4 rfl).trans (List.Perm.cons _ ((perm_pick 4 rfl).trans (List.Perm.cons _ ((perm_pick 3 rfl).trans (List.Perm.cons _ (List.Perm.refl _))))))))))))))
    · exact fun _ _ _ _ _ _ h => by cases h
  · rw [List.take_of_length_le (by omega)] at hG
    refine CX.exit ?_
    refine XX.then_exit ?_
    refine XX.then_exit ?_
    refine XX.block_exit ?_
    refine XX.next (V' := [(3, _)]) ⟨rfl, trivial⟩ ?_
    refine CX.seq ?_
    refine CX.region ?_
    refine RX.cons rfl rfl (op_yld (y_load (i := 4) rfl rfl one_59 rfl rfl) rfl rfl ?_)
    refine RX.cons rfl rfl (op_w (yw_assign rfl rfl) rfl rfl ?_)
    refine RX.nil (XX.next (V' := [(2, .pointer (some ⟨gF, 0, none⟩))]) ⟨rfl, trivial⟩ ?_)
    refine CX.ret ?_
    exact ret_tmpMs rfl rfl (L' := [kmap key2 sgV gg kv, pack (List.map sgE kv), .blk gF (.cells (#[.map (some gg), .map (some gcl)]) 89 (0, 0)), .blk g3 (.cells (#[.pointer (some ⟨gF, 0, none⟩)]) 59 (0, 0)), kmap (fun x : Int => Value.int .i64 x) (fun x : Int => Value.int .i64 x) gcl kvc]) ((perm_pick 0 rfl).trans (List.Perm.cons _ (List.Perm.refl _))) fun w1 hw => ⟨((gF, gg, gcl), kv, kvc), ⟨hcl, hG⟩, rfl, hw.pick ((perm_pick 0 rfl).trans (List.Perm.cons _ ((perm_pick 0 rfl).trans (List.Perm.cons _ ((perm_pick 0 rfl).trans (List.Perm.cons _ ((perm_pick 1 rfl).trans (List.Perm.cons _ (List.Perm.refl _)))))))))⟩

end Go.Proofs.Ytpcfgoadkfajfaa
