/- Plain Lean: proofs and extensions of trees of digests; collisions. Plain Lean: the digest of a string, step by step as the program computes it; no program. Plain aids for the walks of law24. Walks, printed by a program. Arrays of words and bytes as cells; aids for the walks of the digest. Walks, printed by a program. Walks, printed by a program. Ranges over functions, and scopes, in the calculus. Ranges over functions whose rounds go on to the end: what an iterator hands over, one item a round. -/
import Derived.Test.YtnadipjlhlbfoaaGreatDoorK2
import Derived.Test.YtnadipjlhlbfoaaGreatDoorChecked
import Derived.RangeFuncLeaves
import Derived.RangeFuncRecord
import Derived.Scope
namespace Go.Proofs.YtnadipjlhlbfoaaGreatDoor
set_option linter.all false
section
variable (h : B → B)

/-! ### Proofs -/
/-- The proof of entry i, from the top. -/
def pathF : Nat → List B → Nat → List B
  | 0, _, _ => []
  | k + 1, l, i => if l.length ≤ 1 then [] else if i < lft l.length then root h (l.drop (lft l.length)) :: pathF k (l.take (lft l.length)) i else root h (l.take (lft l.length)) :: pathF k (l.drop (lft l.length)) (i - lft l.length)
/-- The value of a proof, from the top. -/
def value (s : B) : List B → Nat → Nat → Option B
  | [], n, _ => if n ≤ 1 then some (leafH h s) else none
  | x :: r, n, i => if n ≤ 1 then none else if i < lft n then (value s r (lft n) i).map (fun v => nodeH h v x) else (value s r (n - lft n) (i - lft n)).map (fun v => nodeH h x v)
theorem value_path : ∀ (k : Nat) (l : List B) (i : Nat) (s : B), l.length ≤ k → l[i]? = some s → value h s (pathF h k l i) l.length i = some (root h l)
  | 0, l, i, s, h1, h2 => by
    have : l = [] := List.length_eq_zero_iff.1 (by omega)
    subst this; simp at h2
  | k + 1, l, i, s, h1, h2 => by
    have hi := (List.getElem?_eq_some_iff.1 h2).1
    unfold pathF
    by_cases hl : l.length ≤ 1
    · rw [if_pos hl]
      obtain ⟨x, rfl⟩ := List.length_eq_one_iff.1 (show l.length = 1 by omega)
      obtain rfl : i = 0 := by simpa using hi
      obtain rfl : x = s := by simpa using h2
      simp [value, root_one]
    · rw [if_neg hl]
      have hp := lft_pos l.length
      have hq := lft_lt (n := l.length) (by omega)
      have er := root_two h (l := l) (by omega)
      split
      · rename_i hik
        have e : (l.take (lft l.length)).length = lft l.length := by simp; omega
        have := value_path k (l.take (lft l.length)) i s (by omega) (by rw [List.getElem?_take_of_lt hik]; exact h2)
        rw [e] at this
        rw [value, if_neg (by omega), if_pos hik, this, er]
        rfl
      · rename_i hik
        have e : (l.drop (lft l.length)).length = l.length - lft l.length := by simp
        have := value_path k (l.drop (lft l.length)) (i - lft l.length) s (by omega) (by rw [List.getElem?_drop, show lft l.length + (i - lft l.length) = i by omega]; exact h2)
        rw [e] at this
        rw [value, if_neg (by omega), if_neg hik, this, er]
        rfl
/-- How long a proof is. -/
def depth : Nat → Nat → Nat → Nat
  | 0, _, _ => 0
  | k + 1, n, i => if n ≤ 1 then 0 else if i < lft n then depth k (lft n) i + 1 else depth k (n - lft n) (i - lft n) + 1
theorem path_length : ∀ (k : Nat) (l : List B) (i : Nat), (pathF h k l i).length = depth k l.length i
  | 0, _, _ => rfl
  | k + 1, l, i => by
    unfold pathF depth
    by_cases hl : l.length ≤ 1
    · simp [hl]
    · have hq := lft_lt (n := l.length) (by omega)
      simp only [hl, if_false]
      split
      · rw [List.length_cons, path_length k]; congr 2; simp; omega
      · rw [List.length_cons, path_length k]; congr 2; simp
theorem depth_le : ∀ (k n i : Nat), depth k n i ≤ k
  | 0, _, _ => Nat.le_refl _
  | k + 1, n, i => by
    unfold depth
    have h1 := depth_le k (lft n) i
    have h2 := depth_le k (n - lft n) (i - lft n)
    repeat' split
    all_goals omega
theorem root_size (hs : ∀ s, (h s).size = 32) (l : List B) : (root h l).size = 32 := by
  by_cases hl : 2 ≤ l.length
  · rw [root_two h hl]; exact hs _
  · match l, hl with
    | [], _ => exact hs _
    | [s], _ => exact hs _
    | a :: b :: r, hl => simp at hl
theorem path_sizes (hs : ∀ s, (h s).size = 32) : ∀ (k : Nat) (l : List B) (i : Nat), ∀ x ∈ pathF h k l i, x.size = 32
  | 0, _, _, x, hx => by simp [pathF] at hx
  | k + 1, l, i, x, hx => by
    unfold pathF at hx
    repeat' split at hx
    · simp at hx
    · rcases List.mem_cons.1 hx with rfl | hx
      · exact root_size h hs _
      · exact path_sizes hs k _ _ x hx
    · rcases List.mem_cons.1 hx with rfl | hx
      · exact root_size h hs _
      · exact path_sizes hs k _ _ x hx

/-! ### Extensions -/
/-- The proof that the first m entries are as they were, from the top. -/
def extF : Nat → List B → Nat → Bool → List B
  | 0, _, _, _ => []
  | k + 1, l, m, w => if l.length ≤ m then (if w then [] else [root h l]) else
      if m ≤ lft l.length then root h (l.drop (lft l.length)) :: extF k (l.take (lft l.length)) m w else root h (l.take (lft l.length)) :: extF k (l.drop (lft l.length)) (m - lft l.length) false
/-- The two values of such a proof, from the top. -/
def both (old : B) : List B → Nat → Nat → Bool → Option (B × B)
  | [], m, n, w => if n ≤ m then (if w then some (old, old) else none) else none
  | x :: r, m, n, w => if n ≤ m then (if w then none else if r.isEmpty then some (x, x) else none) else
      if m ≤ lft n then (both old r m (lft n) w).map (fun v => (v.1, nodeH h v.2 x)) else (both old r (m - lft n) (n - lft n) false).map (fun v => (nodeH h x v.1, nodeH h x v.2))
theorem both_ext (old : B) : ∀ (k : Nat) (l : List B) (m : Nat) (w : Bool), l.length ≤ k → 1 ≤ m → m ≤ l.length → (w = true → old = root h (l.take m)) → both h old (extF h k l m w) m l.length w = some (root h (l.take m), root h l)
  | 0, l, m, w, h1, h2, h3, _ => by omega
  | k + 1, l, m, w, h1, h2, h3, h4 => by
    unfold extF
    by_cases hm : l.length ≤ m
    · have e : l.take m = l := List.take_of_length_le hm
      rw [if_pos hm]
      cases w with
      | true => simp [both, hm, h4 rfl, e]
      | false => simp [both, hm, e]
    · rw [if_neg hm]
      have hp := lft_pos l.length
      have hq := lft_lt (n := l.length) (by omega)
      have hg := lft_ge (n := l.length) (by omega)
      have er := root_two h (l := l) (by omega)
      split
      · rename_i hk
        have e : (l.take (lft l.length)).length = lft l.length := by simp; omega
        have e2 : (l.take (lft l.length)).take m = l.take m := by rw [List.take_take, Nat.min_eq_left hk]
        have := both_ext old k (l.take (lft l.length)) m w (by omega) h2 (by omega) (by rw [e2]; exact h4)
        rw [e, e2] at this
        rw [both, if_neg hm, if_pos hk, this, er]
        rfl
      · rename_i hk
        have e : (l.drop (lft l.length)).length = l.length - lft l.length := by simp
        have := both_ext old k (l.drop (lft l.length)) (m - lft l.length) false (by omega) (by omega) (by omega) (by intro h; cases h)
        rw [e] at this
        rw [both, if_neg hm, if_neg hk, this]
        have e3 : root h (l.take m) = nodeH h (root h (l.take (lft l.length))) (root h ((l.drop (lft l.length)).take (m - lft l.length))) := by
          have hlm : (l.take m).length = m := by simp; omega
          have hlft : lft m = lft l.length := lft_eq (n := m) (k := Nat.log2 (l.length - 1)) (show lft l.length < m by omega) (show m ≤ 2 * lft l.length by omega)
          rw [root_two h (show 2 ≤ (l.take m).length by omega), hlm, hlft, List.take_take, Nat.min_eq_left (by omega), List.drop_take]
        rw [e3, er]
        rfl

/-! ### Collisions -/
def Collides (X Y : List B) : Prop := ∃ x ∈ X, ∃ y ∈ Y, x ≠ y ∧ h x = h y
theorem mark_ne {a b : UInt8} (hab : a ≠ b) (s t : B) : mark a s ≠ mark b t := by
  intro e
  have := congrArg (fun z : B => z.data.toList.head?) e
  simp [mark] at this
  exact hab this
theorem mark_inj {a : UInt8} {s t : B} (e : mark a s = mark a t) : s = t := by
  have := congrArg (fun z : B => z.data.toList) e
  simp [mark] at this
  exact ByteArray.ext this
theorem mark_ne_nil (a : UInt8) (s : B) : mark a s ≠ .empty := by
  intro e
  have := congrArg (fun z : B => z.data.toList) e
  simp [mark] at this
theorem append_inj {a b c d : B} (e : a ++ b = c ++ d) (hs : a.size = c.size) : a = c ∧ b = d := by
  have := congrArg (fun z : B => z.data.toList) e
  simp only [ByteArray.data_append, Array.toList_append] at this
  have := List.append_inj this (by rw [Array.length_toList, Array.length_toList]; exact hs)
  exact ⟨ByteArray.ext (Array.toList_inj.1 this.1), ByteArray.ext (Array.toList_inj.1 this.2)⟩
/-- What is digested for the root. -/
def hashedF : Nat → List B → List B
  | 0, _ => [.empty]
  | k + 1, l => if l.length = 0 then [.empty] else if l.length = 1 then [mark 0 (l.headD .empty)] else
      (hashedF k (l.take (lft l.length)) ++ hashedF k (l.drop (lft l.length))) ++ [mark 1 (root h (l.take (lft l.length)) ++ root h (l.drop (lft l.length)))]
theorem Collides.mono {X Y X' Y' : List B} (hc : Collides h X Y) (h1 : X ⊆ X') (h2 : Y ⊆ Y') : Collides h X' Y' := by
  obtain ⟨x, hx, y, hy, hxy⟩ := hc
  exact ⟨x, h1 hx, y, h2 hy, hxy⟩
/-- The last string digested: the root's. -/
theorem hashed_last (k : Nat) (l : List B) (hl : l.length ≤ k) : ∃ x ∈ hashedF h k l, h x = root h l ∧ (l = [] → x = .empty) ∧ (∀ s, l = [s] → x = mark 0 s) ∧ (2 ≤ l.length → x = mark 1 (root h (l.take (lft l.length)) ++ root h (l.drop (lft l.length)))) := by
  match k, l, hl with
  | 0, [], _ => exact ⟨.empty, by simp [hashedF], rfl, fun _ => rfl, by simp, by simp⟩
  | k + 1, [], _ => exact ⟨.empty, by simp [hashedF], rfl, fun _ => rfl, by simp, by simp⟩
  | k + 1, [s], _ => exact ⟨mark 0 s, by simp [hashedF], rfl, by simp, by simp, by simp⟩
  | k + 1, a :: b :: r, hl =>
    refine ⟨mark 1 (root h ((a :: b :: r).take (lft (a :: b :: r).length)) ++ root h ((a :: b :: r).drop (lft (a :: b :: r).length))), ?_, ?_, by simp, by simp, fun _ => rfl⟩
    · rw [hashedF, if_neg (by simp), if_neg (by simp)]; simp
    · rw [root_two h (l := a :: b :: r) (by simp)]; rfl
theorem equal_or (hs : ∀ s, (h s).size = 32) : ∀ (k : Nat) (l m : List B), l.length ≤ k → m.length ≤ k → root h l = root h m → l = m ∨ Collides h (hashedF h k l) (hashedF h k m)
  | k, l, m, h1, h2, e => by
    obtain ⟨x, hx, hxr, x0, x1, x2⟩ := hashed_last h k l h1
    obtain ⟨y, hy, hyr, y0, y1, y2⟩ := hashed_last h k m h2
    by_cases hxy : x = y
    · match l, m with
      | [], [] => exact .inl rfl
      | [], [t] => rw [x0 rfl, y1 t rfl] at hxy; exact absurd hxy.symm (mark_ne_nil _ _)
      | [], a :: b :: r => rw [x0 rfl, y2 (by simp)] at hxy; exact absurd hxy.symm (mark_ne_nil _ _)
      | [s], [] => rw [x1 s rfl, y0 rfl] at hxy; exact absurd hxy (mark_ne_nil _ _)
      | [s], [t] => rw [x1 s rfl, y1 t rfl] at hxy; exact .inl (by rw [mark_inj hxy])
      | [s], a :: b :: r => rw [x1 s rfl, y2 (by simp)] at hxy; exact absurd hxy (mark_ne (by decide) _ _)
      | a :: b :: r, [] => rw [x2 (by simp), y0 rfl] at hxy; exact absurd hxy (mark_ne_nil _ _)
      | a :: b :: r, [t] => rw [x2 (by simp), y1 t rfl] at hxy; exact absurd hxy.symm (mark_ne (by decide) _ _)
      | a :: b :: r, a' :: b' :: r' =>
        rw [x2 (by simp), y2 (by simp)] at hxy
        obtain ⟨e1, e2⟩ := append_inj (mark_inj hxy) (by rw [root_size h hs, root_size h hs])
        generalize hl : a :: b :: r = l at *
        generalize hm : a' :: b' :: r' = m at *
        have ll : 2 ≤ l.length := by rw [← hl]; simp
        have lm : 2 ≤ m.length := by rw [← hm]; simp
        have p1 := lft_pos l.length
        have p2 := lft_pos m.length
        have q1 := lft_lt ll
        have q2 := lft_lt lm
        match k, h1, h2 with
        | 0, h1, _ => omega
        | k + 1, h1, h2 =>
          have s1 : hashedF h k (l.take (lft l.length)) ⊆ hashedF h (k + 1) l := by
            intro z hz
            rw [hashedF, if_neg (by omega), if_neg (by omega)]; simp [hz]
          have s2 : hashedF h k (l.drop (lft l.length)) ⊆ hashedF h (k + 1) l := by
            intro z hz
            rw [hashedF, if_neg (by omega), if_neg (by omega)]; simp [hz]
          have t1 : hashedF h k (m.take (lft m.length)) ⊆ hashedF h (k + 1) m := by
            intro z hz
            rw [hashedF, if_neg (by omega), if_neg (by omega)]; simp [hz]
          have t2 : hashedF h k (m.drop (lft m.length)) ⊆ hashedF h (k + 1) m := by
            intro z hz
            rw [hashedF, if_neg (by omega), if_neg (by omega)]; simp [hz]
          rcases equal_or hs k (l.take (lft l.length)) (m.take (lft m.length)) (by simp; omega) (by simp; omega) e1 with a1 | a1
          · rcases equal_or hs k (l.drop (lft l.length)) (m.drop (lft m.length)) (by simp; omega) (by simp; omega) e2 with a2 | a2
            · left
              rw [← List.take_append_drop (lft l.length) l, a1, a2, List.take_append_drop]
            · exact .inr (a2.mono h s2 t2)
          · exact .inr (a1.mono h s1 t1)
    · exact .inr ⟨x, hx, y, hy, hxy, by rw [hxr, hyr, e]⟩
/-- What is digested on the way from an entry to the root; from the top. -/
def preF (s : B) : List B → Nat → Nat → List B
  | [], _, _ => [mark 0 s]
  | x :: r, n, i => if n ≤ 1 then [mark 0 s] else if i < lft n then preF s r (lft n) i ++ [mark 1 (h ((preF s r (lft n) i).getLastD .empty) ++ x)] else preF s r (n - lft n) (i - lft n) ++ [mark 1 (x ++ h ((preF s r (n - lft n) (i - lft n)).getLastD .empty))]
theorem pre_last (s : B) : ∀ (p : List B) (n i : Nat) (v : B), value h s p n i = some v → (preF h s p n i).getLastD .empty ∈ preF h s p n i ∧ h ((preF h s p n i).getLastD .empty) = v
  | [], n, i, v, e => by
    simp only [value] at e
    split at e
    · simp at e; subst e; exact ⟨by simp [preF], rfl⟩
    · cases e
  | x :: r, n, i, v, e => by
    simp only [value] at e
    split at e
    · cases e
    · rename_i hn
      unfold preF
      rw [if_neg hn]
      split at e
      · rename_i hi
        rw [if_pos hi]
        obtain ⟨u, hu, rfl⟩ := Option.map_eq_some_iff.1 e
        have := pre_last s r _ _ u hu
        refine ⟨by simp, ?_⟩
        rw [List.getLastD_concat, this.2]; rfl
      · rename_i hi
        rw [if_neg hi]
        obtain ⟨u, hu, rfl⟩ := Option.map_eq_some_iff.1 e
        have := pre_last s r _ _ u hu
        refine ⟨by simp, ?_⟩
        rw [List.getLastD_concat, this.2]; rfl
theorem bind_or (hs : ∀ s, (h s).size = 32) (s t : B) : ∀ (p q : List B) (n i : Nat) (v : B), (∀ x ∈ p, x.size = 32) → (∀ x ∈ q, x.size = 32) → value h s p n i = some v → value h t q n i = some v → s = t ∨ Collides h (preF h s p n i) (preF h t q n i)
  | [], [], n, i, v, _, _, e1, e2 => by
    simp only [value] at e1 e2
    split at e1
    · rename_i hn
      rw [if_pos hn] at e2
      have e : h (mark 0 s) = h (mark 0 t) := by
        have := e1.trans e2.symm
        simpa [leafH] using this
      by_cases hm : mark 0 s = mark 0 t
      · exact .inl (mark_inj hm)
      · exact .inr ⟨mark 0 s, by simp [preF], mark 0 t, by simp [preF], hm, e⟩
    · cases e1
  | [], y :: q, n, i, v, _, _, e1, e2 => by
    simp only [value] at e1 e2
    split at e1
    · rename_i hn; rw [if_pos hn] at e2; cases e2
    · cases e1
  | x :: p, [], n, i, v, _, _, e1, e2 => by
    simp only [value] at e1 e2
    split at e2
    · rename_i hn; rw [if_pos hn] at e1; cases e1
    · cases e2
  | x :: p, y :: q, n, i, v, hp, hq, e1, e2 => by
    simp only [value] at e1 e2
    unfold preF
    split at e1
    · cases e1
    · rename_i hn
      rw [if_neg hn] at e2
      rw [if_neg hn, if_neg hn]
      split at e1
      · rename_i hi
        rw [if_pos hi] at e2
        rw [if_pos hi, if_pos hi]
        obtain ⟨u, hu, hv⟩ := Option.map_eq_some_iff.1 e1
        obtain ⟨u', hu', hv'⟩ := Option.map_eq_some_iff.1 e2
        have l1 := pre_last h s p _ _ u hu
        have l2 := pre_last h t q _ _ u' hu'
        rw [l1.2, l2.2]
        by_cases hm : mark 1 (u ++ x) = mark 1 (u' ++ y)
        · obtain ⟨ea, _⟩ := append_inj (mark_inj hm) (by rw [← l1.2, ← l2.2, hs, hs])
          subst ea
          rcases bind_or hs s t p q _ _ u (fun z hz => hp z (List.mem_cons_of_mem _ hz)) (fun z hz => hq z (List.mem_cons_of_mem _ hz)) hu hu' with hh | hh
          · exact .inl hh
          · exact .inr (hh.mono h (by simp) (by simp))
        · exact .inr ⟨_, by simp, _, by simp, hm, hv.trans hv'.symm⟩
      · rename_i hi
        rw [if_neg hi] at e2
        rw [if_neg hi, if_neg hi]
        obtain ⟨u, hu, hv⟩ := Option.map_eq_some_iff.1 e1
        obtain ⟨u', hu', hv'⟩ := Option.map_eq_some_iff.1 e2
        have l1 := pre_last h s p _ _ u hu
        have l2 := pre_last h t q _ _ u' hu'
        rw [l1.2, l2.2]
        by_cases hm : mark 1 (x ++ u) = mark 1 (y ++ u')
        · obtain ⟨_, ea⟩ := append_inj (mark_inj hm) (by rw [hp x List.mem_cons_self, hq y List.mem_cons_self])
          subst ea
          rcases bind_or hs s t p q _ _ u (fun z hz => hp z (List.mem_cons_of_mem _ hz)) (fun z hz => hq z (List.mem_cons_of_mem _ hz)) hu hu' with hh | hh
          · exact .inl hh
          · exact .inr (hh.mono h (by simp) (by simp))
        · exact .inr ⟨_, by simp, _, by simp, hm, hv.trans hv'.symm⟩
end
end Go.Proofs.YtnadipjlhlbfoaaGreatDoor
namespace Go.Proofs.YtnadipjlhlbfoaaGreatDoor
set_option linter.all false
abbrev W := BitVec 32
/-- A word turned left, as math/bits does it. -/
def rotK (x : W) (k : Int) : W := x <<< (BitVec.ofInt 64 k &&& 31#64).toNat ||| x >>> (32#64 - (BitVec.ofInt 64 k &&& 31#64)).toNat
def mixW (x : W) (l : List Int) : W := l.foldl (fun out n => out ^^^ rotK x (-n)) 0#32
def byteW (b : UInt8) : W := BitVec.setWidth 32 b.toBitVec
def wordAt (b : List UInt8) (i : Nat) : W := byteW (b.getD (4 * i) 0) <<< 24 ||| byteW (b.getD (4 * i + 1) 0) <<< 16 ||| byteW (b.getD (4 * i + 2) 0) <<< 8 ||| byteW (b.getD (4 * i + 3) 0)
/-- Word i of a block, out of the earlier ones. -/
def nextW (w : List W) (i : Nat) : W := w.getD (i - 16) 0 + (mixW (w.getD (i - 15) 0) [7, 18] ^^^ w.getD (i - 15) 0 >>> 3) + w.getD (i - 7) 0 + (mixW (w.getD (i - 2) 0) [17, 19] ^^^ w.getD (i - 2) 0 >>> 10)
def firstW (b : List UInt8) (k : Nat) : List W := (List.range k).map (wordAt b)
def moreW (w : List W) : Nat → List W
  | 0 => w
  | k + 1 => moreW w k ++ [nextW (moreW w k) (16 + k)]
def schedW (b : List UInt8) : List W := moreW (firstW b 16) 48
def roundsK : List W := [0x428a2f98, 0x71374491, 0xb5c0fbcf, 0xe9b5dba5, 0x3956c25b, 0x59f111f1, 0x923f82a4, 0xab1c5ed5,
  0xd807aa98, 0x12835b01, 0x243185be, 0x550c7dc3, 0x72be5d74, 0x80deb1fe, 0x9bdc06a7, 0xc19bf174,
  0xe49b69c1, 0xefbe4786, 0x0fc19dc6, 0x240ca1cc, 0x2de92c6f, 0x4a7484aa, 0x5cb0a9dc, 0x76f988da,
  0x983e5152, 0xa831c66d, 0xb00327c8, 0xbf597fc7, 0xc6e00bf3, 0xd5a79147, 0x06ca6351, 0x14292967,
  0x27b70a85, 0x2e1b2138, 0x4d2c6dfc, 0x53380d13, 0x650a7354, 0x766a0abb, 0x81c2c92e, 0x92722c85,
  0xa2bfe8a1, 0xa81a664b, 0xc24b8b70, 0xc76c51a3, 0xd192e819, 0xd6990624, 0xf40e3585, 0x106aa070,
  0x19a4c116, 0x1e376c08, 0x2748774c, 0x34b0bcb5, 0x391c0cb3, 0x4ed8aa4a, 0x5b9cca4f, 0x682e6ff3,
  0x748f82ee, 0x78a5636f, 0x84c87814, 0x8cc70208, 0x90befffa, 0xa4506ceb, 0xbef9a3f7, 0xc67178f2]
/-- The eight words of a computation. -/
structure Oct where
  (a b c d e f g h : W)
def Oct.list (v : Oct) : List W := [v.a, v.b, v.c, v.d, v.e, v.f, v.g, v.h]
def Oct.t (v : Oct) (k w : W) : W := v.h + mixW v.e [6, 11, 25] + (v.e &&& v.f ^^^ ~~~v.e &&& v.g) + k + w
def Oct.u (v : Oct) : W := mixW v.a [2, 13, 22] + (v.a &&& v.b ^^^ v.a &&& v.c ^^^ v.b &&& v.c)
def Oct.round (v : Oct) (k w : W) : Oct := ⟨v.t k w + v.u, v.a, v.b, v.c, v.d + v.t k w, v.e, v.f, v.g⟩
def Oct.add (x y : Oct) : Oct := ⟨x.a + y.a, x.b + y.b, x.c + y.c, x.d + y.d, x.e + y.e, x.f + y.f, x.g + y.g, x.h + y.h⟩
def Oct.rounds (v : Oct) : List (W × W) → Oct
  | [] => v
  | (k, w) :: r => (v.round k w).rounds r
def Oct.block (h : Oct) (b : List UInt8) : Oct := h.add (h.rounds (roundsK.zip (schedW b)))
def Oct.start : Oct := ⟨0x6a09e667, 0xbb67ae85, 0x3c6ef372, 0xa54ff53a, 0x510e527f, 0x9b05688c, 0x1f83d9ab, 0x5be0cd19⟩
/-- The bytes of a word. -/
def byteOf (x : W) (k : Nat) : UInt8 := UInt8.ofBitVec (BitVec.setWidth 8 (x >>> (24 - 8 * k)))
def bytesW (x : W) : List UInt8 := [byteOf x 0, byteOf x 1, byteOf x 2, byteOf x 3]
def Oct.bytes (v : Oct) : List UInt8 := v.list.flatMap bytesW
def zerosTo : Nat → List UInt8 → List UInt8
  | 0, b => b
  | k + 1, b => if b.length % 64 = 56 then b else zerosTo k (b ++ [0])
def lenByte (n k : Nat) : UInt8 := UInt8.ofBitVec (BitVec.ofInt 8 ((8 * (n : Int)) / 2 ^ (8 * (7 - k))))
def paddedL (l : List UInt8) : List UInt8 := zerosTo 64 (l ++ [128]) ++ (List.range 8).map (lenByte l.length)
def chunkL (b : List UInt8) (k : Nat) : List UInt8 := (b.drop (64 * k)).take 64
def blocksL (b : List UInt8) (N : Nat) : Oct := (List.range N).foldl (fun h k => h.block (chunkL b k)) Oct.start
def sumL (l : List UInt8) : List UInt8 := (blocksL (paddedL l) ((paddedL l).length / 64)).bytes
/-- The digest of a string. -/
def sum (s : B) : B := ⟨(sumL s.data.toList).toArray⟩
theorem sum_size (s : B) : (sum s).size = 32 := by
  have : ∀ v : Oct, v.bytes.length = 32 := fun v => rfl
  simp [sum, ByteArray.size, sumL, this]
end Go.Proofs.YtnadipjlhlbfoaaGreatDoor
namespace Go.Proofs.YtnadipjlhlbfoaaGreatDoor
set_option linter.all false
theorem get_some {α : Type} {l : List α} {k : Nat} (h : k < l.length) : ∃ x, l[k]? = some x := ⟨l[k], List.getElem?_eq_getElem h⟩
theorem map_get {α β : Type} {f : α → β} {l : List α} {k : Nat} {x : α} (h : l[k]? = some x) : (l.map f)[k]? = some (f x) := by rw [List.getElem?_map, h]; rfl
theorem take_succ {α : Type} {l : List α} {i : Nat} {x : α} (h : l[i]? = some x) : l.take (i + 1) = l.take i ++ [x] := by
  rw [List.take_add_one, h]; rfl
theorem drop_get {α : Type} {l : List α} {k : Nat} {x : α} (h : l[k]? = some x) : l.drop k = x :: l.drop (k + 1) := by
  obtain ⟨hk, h⟩ := List.getElem?_eq_some_iff.1 h
  subst h; exact List.drop_eq_getElem_cons hk
theorem mix_succ {x : W} {ns : List Int} {i : Nat} {n : Int} (h : ns[i]? = some n) : mixW x (ns.take (i + 1)) = mixW x (ns.take i) ^^^ rotK x (-n) := by
  unfold mixW
  rw [take_succ h, List.foldl_append]; rfl
end Go.Proofs.YtnadipjlhlbfoaaGreatDoor
namespace Go.Proofs.YtnadipjlhlbfoaaGreatDoor
set_option linter.all false
open Go Go.RowKit
set_option maxRecDepth 100000
theorem slt_43 : SlT Tryz.prog 43 3 1 := ⟨(Tryz.prog.info? 3).get!, Tryz.underlying43, by kernel_rfl, by kernel_rfl⟩
theorem one_3 : One Tryz.prog 3 := ⟨_, Tryz.underlying3, rfl⟩
theorem ent_100 : ∀ args w, (callFunc 100 args).run Tryz.prog w = .ok (.enter 100 args) w := enters_of Tryz.func100 (by kernel_rfl) rfl
set_option maxRecDepth 100000 in
theorem w_rot {w : World} (x : W) (k : Int) :
    Calls Tryz.prog 100 #[.int .u32 (wi x), .int .i64 k] w (fun e w' => e = .returned (.int .u32 (wi (rotK x k))) ∧ SL w [] w' []) := by
 refine calls_of_CX (O := []) (L := []) (args := [.int .u32 (wi x), .int .i64 k]) Tryz.func100 rfl (by simp [Tryz.ntmps100]) (SL.refl w) ?_
 refine CX.sub (V' := [(0, .int .u32 (wi x)), (1, .int .i64 k)]) ⟨rfl, rfl, trivial⟩ ?_
 refine CX.seq ?_
 refine CX.region ?_
 refine RX.cons rfl rfl (op_w (yw_assign rfl rfl) rfl rfl ?_)
 refine RX.nil (XX.next (V' := [(0, _), (1, _)]) ⟨rfl, rfl, trivial⟩ ?_)
 refine CX.seq ?_
 refine CX.region ?_
 refine RX.cons rfl rfl (op_w (yw_move rfl rfl) rfl rfl ?_)
 refine RX.cons rfl rfl (op_w (yw_bvOf UK.u64 rfl rfl Tryz.underlying3 Tryz.underlying116) rfl rfl ?_)
 refine RX.cons rfl rfl (op_w (yw_bvAnd (a := BitVec.ofInt 64 k) (b := 31#64) UK.u64 rfl rfl rfl) rfl rfl ?_)
 refine RX.cons rfl rfl (op_w (yw_assign rfl rfl) rfl rfl ?_)
 refine RX.nil (XX.next (V' := [(0, _), (5, _)]) ⟨rfl, rfl, trivial⟩ ?_)
 refine CX.seq ?_
 refine CX.region ?_
 refine RX.cons rfl rfl (op_w (yw_move rfl rfl) rfl rfl ?_)
 refine RX.cons rfl rfl (op_w (yw_move rfl rfl) rfl rfl ?_)
 refine RX.cons rfl rfl (op_w (yw_bvShl (a := x) (((BitVec.ofInt 64 k) &&& (31#64)).toNat) UK.u32 rfl rfl rfl rfl) rfl rfl ?_)
 refine RX.cons rfl rfl (op_w (yw_move rfl rfl) rfl rfl ?_)
 refine RX.cons rfl rfl (op_w (yw_move rfl rfl) rfl rfl ?_)
 refine RX.cons rfl rfl (op_w (yw_bvSub (a := 32#64) (b := (BitVec.ofInt 64 k) &&& (31#64)) UK.u64 rfl rfl rfl) rfl rfl ?_)
 refine RX.cons rfl rfl (op_w (yw_bvShr (a := x) (((32#64) - ((BitVec.ofInt 64 k) &&& (31#64))).toNat) UK.u32 rfl rfl rfl rfl) rfl rfl ?_)
 refine RX.cons rfl rfl (op_w (yw_bvOr (a := x <<< (((BitVec.ofInt 64 k) &&& (31#64)).toNat)) (b := x >>> (((32#64) - ((BitVec.ofInt 64 k) &&& (31#64))).toNat)) UK.u32 rfl rfl rfl) rfl rfl ?_)
 refine RX.cons rfl rfl (op_w (yw_assign rfl rfl) rfl rfl ?_)
 refine RX.nil (XX.next (V' := [(4, .int .u32 (wi ((x <<< (((BitVec.ofInt 64 k) &&& (31#64)).toNat)) ||| (x >>> (((32#64) - ((BitVec.ofInt 64 k) &&& (31#64))).toNat)))))]) ⟨rfl, trivial⟩ ?_)
 refine CX.ret ?_
 exact ret_tmp rfl rfl fun w1 hw => ⟨rfl, hw.sub (List.nil_sublist _)⟩

set_option maxRecDepth 100000 in
theorem w_mixed {w : World} {A : Option Addr} {cap : Nat} (x : W) (ns : List Int) (hr : Rd w A 1 (List.map (fun n : Int => #[Value.int .i64 n]) ns)) (hn : ns.length ≤ 1000) (hb : ∀ n ∈ ns, 0 ≤ n ∧ n ≤ 64) :
    Calls Tryz.prog 89 #[.int .u32 (wi x), .slice A ns.length cap] w (fun e w' => e = .returned (.int .u32 (wi (mixW x ns))) ∧ SL w [] w' []) := by
 refine calls_of_CX (O := []) (L := []) (args := [.int .u32 (wi x), .slice A ns.length cap]) Tryz.func89 rfl (by simp [Tryz.ntmps89]) (SL.refl w) ?_
 refine CX.sub (V' := [(0, .int .u32 (wi x)), (1, .slice A ns.length cap)]) ⟨rfl, rfl, trivial⟩ ?_
 refine CX.seq ?_
 refine CX.region ?_
 refine RX.cons rfl rfl (op_w (yw_assign rfl rfl) rfl rfl ?_)
 refine RX.nil (XX.next (V' := [(0, _), (1, _)]) ⟨rfl, rfl, trivial⟩ ?_)
 refine CX.seq ?_
 refine CX.region ?_
 refine RX.cons rfl rfl (op_w (yw_assign rfl rfl) rfl rfl ?_)
 refine RX.nil (XX.next (V' := [(0, _), (1, _), (5, _)]) ⟨rfl, rfl, rfl, trivial⟩ ?_)
 refine CX.seq ?_
 refine CX.seq ?_
 refine CX.region ?_
 refine RX.cons rfl rfl (op_w (yw_move rfl rfl) rfl rfl ?_)
 refine RX.cons rfl rfl (op_w (yw_lenS rfl Tryz.underlying43 rfl) rfl rfl ?_)
 refine RX.cons rfl rfl (op_w (yw_move rfl rfl) rfl rfl ?_)
 refine RX.nil (XX.next (V' := [(0, _), (5, _), (8, _), (9, _), (10, _)]) ⟨rfl, rfl, rfl, rfl, rfl, trivial⟩ ?_)
 refine CX.block ?_
 refine CX.loop (σ := Nat × W) (fun z => [(0, .int .u32 (wi x)), (5, .int .u32 (wi z.2)), (8, .slice A ns.length cap), (9, .int .i64 ((ns.length : Nat) : Int)), (10, .int .i64 ((z.1 : Nat) : Int))]) (fun z => []) (fun z => z.1 ≤ ns.length ∧ z.2 = mixW x (ns.take z.1)) (fun z => ns.length - z.1) (0, 0#32) ⟨Nat.zero_le _, rfl⟩ ⟨rfl, rfl, rfl, rfl, rfl, trivial⟩ rfl (fun z hI => ?_)
 obtain ⟨i, v⟩ := z
 dsimp only at hI ⊢
 obtain ⟨hi, hv⟩ := hI
 refine CX.seq ?_
 refine CX.region ?_
 refine RX.cons rfl rfl (op_w (yw_lss rfl rfl rfl) rfl rfl ?_)
 refine RX.nil (XX.next (V' := [(0, _), (5, _), (8, _), (9, _), (10, _), (11, _)]) ⟨rfl, rfl, rfl, rfl, rfl, rfl, trivial⟩ ?_)
 refine CX.seq ?_
 refine CX.condD (p := ((i : Nat) : Int) < ((ns.length : Nat) : Int)) rfl (fun c11 => ?_) (fun c11 => ?_)
 ·obtain ⟨n0, hn0⟩ := get_some (l := ns) (k := i) (by omega)
  obtain ⟨hb1, hb2⟩ := hb n0 (List.mem_of_getElem? hn0)
  refine CX.skip (XX.next (V' := [(0, _), (5, _), (8, _), (9, _), (10, _)]) ⟨rfl, rfl, rfl, rfl, rfl, trivial⟩ ?_)
  refine CX.seq ?_
  refine CX.block ?_
  refine CX.seq ?_
  refine CX.region ?_
  refine RX.cons rfl rfl (op_w (yw_index (k := i) rfl slt_43 rfl rfl (by omega) (by omega) (hr.some (k := i) (by simp; omega))) rfl rfl ?_)
  refine RX.cons rfl rfl (op_yld (y_elem1 rfl rfl one_3 hr (by simp) (map_get hn0)) rfl rfl ?_)
  refine RX.cons rfl rfl (op_w (yw_assign rfl rfl) rfl rfl ?_)
  refine RX.nil (XX.next (V' := [(0, _), (5, _), (7, _), (8, _), (9, _), (10, _)]) ⟨rfl, rfl, rfl, rfl, rfl, rfl, trivial⟩ ?_)
  refine CX.region ?_
  refine RX.cons rfl rfl (op_w (yw_move rfl rfl) rfl rfl ?_)
  refine RX.cons rfl rfl (op_w (yw_move rfl rfl) rfl rfl ?_)
  refine RX.cons rfl rfl (op_w (yw_move rfl rfl) rfl rfl ?_)
  refine RX.cons rfl rfl (op_w (yw_neg rfl rfl (by omega) (by omega)) rfl rfl ?_)
  refine RX.cons rfl rfl (op_callV (v := .int .u32 (wi (rotK x (-n0)))) rfl rfl rfl rfl rfl ent_100 (fun w _ => w_rot x (-n0) ) ?_)
  refine RX.cons rfl rfl (op_w (yw_bvXor (a := v) (b := rotK x (-n0)) UK.u32 rfl rfl rfl) rfl rfl ?_)
  refine RX.cons rfl rfl (op_w (yw_assign rfl rfl) rfl rfl ?_)
  refine RX.nil (XX.inBlock (V' := [(0, _), (5, _), (8, _), (9, _), (10, _)]) ⟨rfl, rfl, rfl, rfl, rfl, trivial⟩ ?_)
  refine XX.next (V' := [(0, _), (5, _), (8, _), (9, _), (10, _)]) ⟨rfl, rfl, rfl, rfl, rfl, trivial⟩ ?_
  refine CX.region ?_
  refine RX.cons rfl rfl (op_w (yw_add rfl rfl rfl (by omega) (by omega)) rfl rfl ?_)
  refine RX.cons rfl rfl (op_w (yw_move rfl rfl) rfl rfl ?_)
  refine RX.nil (XX.againP ([]) (i + 1, v ^^^ rotK x (-n0)) (by dsimp only; omega) ⟨by dsimp only; omega, by dsimp only; rw [mix_succ hn0, ← hv]⟩ ⟨rfl, rfl, rfl, rfl, rfl, trivial⟩ (List.Perm.refl _))
 ·rw [List.take_of_length_le (by omega)] at hv
  refine CX.exit ?_
  refine XX.then_exit ?_
  refine XX.then_exit ?_
  refine XX.block_exit ?_
  refine XX.next (V' := [(5, _)]) ⟨rfl, trivial⟩ ?_
  refine CX.seq ?_
  refine CX.region ?_
  refine RX.cons rfl rfl (op_w (yw_move rfl rfl) rfl rfl ?_)
  refine RX.cons rfl rfl (op_w (yw_assign rfl rfl) rfl rfl ?_)
  refine RX.nil (XX.next (V' := [(4, .int .u32 (wi v))]) ⟨rfl, trivial⟩ ?_)
  refine CX.ret ?_
  exact ret_tmp rfl rfl fun w1 hw => ⟨by rw [hv], hw.sub (List.nil_sublist _)⟩

end Go.Proofs.YtnadipjlhlbfoaaGreatDoor
namespace Go.Proofs.YtnadipjlhlbfoaaGreatDoor
set_option linter.all false
open Go Go.RowKit
abbrev wv (x : W) : Value := .int .u32 (wi x)
def arrW (ws : List W) : Array Value := (ws.map wv).toArray
def arrB (bs : List UInt8) : Array Value := (bs.map u8v).toArray
theorem arrW_size (ws : List W) : (arrW ws).size = ws.length := by simp [arrW]
theorem arrB_size (ws : List UInt8) : (arrB ws).size = ws.length := by simp [arrB]
theorem arrW_get {ws : List W} {k : Nat} {x : W} (h : ws[k]? = some x) : (arrW ws)[k * 1]? = some (wv x) := by
  rw [Nat.mul_one]; simp [arrW, h]
theorem arrW_get' {ws : List W} {k : Nat} {x : W} (h : ws[k]? = some x) : (arrW ws)[k]? = some (wv x) := by simp [arrW, h]
theorem arrW_lt {ws : List W} {k : Nat} (h : k < ws.length) : Nat.blt (k * 1) (arrW ws).size = true := by rw [Nat.mul_one, arrW_size]; simpa using h
theorem arrB_lt {ws : List UInt8} {k : Nat} (h : k < ws.length) : Nat.blt (k * 1) (arrB ws).size = true := by rw [Nat.mul_one, arrB_size]; simpa using h
theorem arrW_set {ws : List W} {k : Nat} (x : W) : (arrW ws).setIfInBounds (k * 1) (wv x) = arrW (ws.set k x) := by
  rw [Nat.mul_one]
  apply Array.ext'
  simp [arrW, List.map_set]
theorem arrB_set {ws : List UInt8} {k : Nat} (x : UInt8) : (arrB ws).setIfInBounds (k * 1) (u8v x) = arrB (ws.set k x) := by
  rw [Nat.mul_one]
  apply Array.ext'
  simp [arrB, List.map_set]
theorem arrB_list (bs : List UInt8) : (arrB bs).toList = bs.map u8v := by simp [arrB]
theorem arrW_plain (ws : List W) : ∀ u ∈ (Value.agg (arrW ws)).cells.toList, u.oneCell' = true := by
  intro u hu
  simp only [Value.cells, arrW, List.mem_map] at hu
  obtain ⟨x, _, rfl⟩ := hu
  rfl
theorem arrW_one (ws : List W) : ∀ u ∈ (arrW ws).toList, u.oneCell' = true := arrW_plain ws
theorem take_set_snoc {α : Type} {ws : List α} {k : Nat} {x : α} (h : k < ws.length) : (ws.set k x).take (k + 1) = ws.take k ++ [x] := by
  rw [take_succ (x := x) (by simp [h]), List.take_set_of_le (Nat.le_refl _)]
theorem wordAt_eq {bs : List UInt8} {i : Nat} {b0 b1 b2 b3 : UInt8} (h0 : bs[4 * i]? = some b0) (h1 : bs[4 * i + 1]? = some b1) (h2 : bs[4 * i + 2]? = some b2) (h3 : bs[4 * i + 3]? = some b3) :
    wordAt bs i = ((BitVec.setWidth 32 b0.toBitVec <<< 24 ||| BitVec.setWidth 32 b1.toBitVec <<< 16) ||| BitVec.setWidth 32 b2.toBitVec <<< 8) ||| BitVec.setWidth 32 b3.toBitVec := by
  unfold wordAt byteW
  simp only [List.getD_eq_getElem?_getD, h0, h1, h2, h3, Option.getD_some]
theorem firstW_succ (bs : List UInt8) (k : Nat) : firstW bs (k + 1) = firstW bs k ++ [wordAt bs k] := by
  simp [firstW, List.range_succ]
theorem firstW_length (bs : List UInt8) (k : Nat) : (firstW bs k).length = k := by simp [firstW]
theorem moreW_length (w : List W) : ∀ k, (moreW w k).length = w.length + k
  | 0 => rfl
  | k + 1 => by rw [moreW, List.length_append, moreW_length w k]; simp; omega
theorem nextW_take {ws : List W} {i : Nat} (hi : 16 ≤ i) {x y a b : W} (hx : ws[i - 15]? = some x) (hy : ws[i - 2]? = some y) (ha : ws[i - 16]? = some a) (hb : ws[i - 7]? = some b) :
    nextW (ws.take i) i = ((a + (mixW x [7, 18] ^^^ x >>> 3)) + b) + (mixW y [17, 19] ^^^ y >>> 10) := by
  unfold nextW
  have e : ∀ j, 0 < j → j ≤ 16 → (ws.take i)[i - j]? = ws[i - j]? := fun j h1 h2 => List.getElem?_take_of_lt (by omega)
  simp only [List.getD_eq_getElem?_getD, e 16 (by decide) (by decide), e 15 (by decide) (by decide), e 7 (by decide) (by decide), e 2 (by decide) (by decide), hx, hy, ha, hb, Option.getD_some]
theorem sched_done {bs : List UInt8} {ws : List W} {i : Nat} (hl : ws.length = 64) (hi : ¬ i < 64) (hi2 : i ≤ 64) (h : ws.take i = moreW (firstW bs 16) (i - 16)) : ws = schedW bs := by
  obtain rfl : i = 64 := by omega
  rw [List.take_of_length_le (by omega)] at h
  exact h
theorem more_succ {bs : List UInt8} {ws : List W} {i : Nat} {v : W} (hi : 16 ≤ i) (hl : i < ws.length) (h : ws.take i = moreW (firstW bs 16) (i - 16)) (hv : v = nextW (ws.take i) i) : (ws.set i v).take (i + 1) = moreW (firstW bs 16) (i + 1 - 16) := by
  rw [take_set_snoc hl, show i + 1 - 16 = (i - 16) + 1 from by omega, moreW, ← h, hv, show 16 + (i - 16) = i from by omega]
/-- The rounds' words lie in block 0. -/
def Rounds (w : World) : Prop := ∀ k x, roundsK[k]? = some x → w.cell? ⟨0, k, none⟩ = some (wv x)
theorem Rounds.keep {w0 w : World} {O : List Nat} {L : List Ent} (h : Rounds w0) (hw : SL w0 O w L) (hO : 0 ∉ O) : Rounds w := fun k x hk => by
  have := h k x hk
  rw [hw.cell0 (World.block_lt_of_cell? w0 _ this) hO]; exact this
theorem Rounds.arr {w : World} (h : Rounds w) : (arrW roundsK).size = 64 ∧ 0 < 64 ∧ ∀ i v, (arrW roundsK)[i]? = some v → w.cell? ⟨0, i, none⟩ = some v := by
  refine ⟨rfl, by decide, fun i v hv => ?_⟩
  simp only [arrW, List.getElem?_toArray, List.getElem?_map, Option.map_eq_some_iff] at hv
  obtain ⟨x, hx, rfl⟩ := hv
  exact h i x hx
theorem sched_length (bs : List UInt8) : (schedW bs).length = 64 := by rw [schedW, moreW_length, firstW_length]
theorem zip_get {a b : List W} {i : Nat} {x y : W} (ha : a[i]? = some x) (hb : b[i]? = some y) : (a.zip b)[i]? = some (x, y) := by rw [List.getElem?_zip_eq_some]; exact ⟨ha, hb⟩
theorem rounds_snoc (v : Oct) : ∀ (l : List (W × W)) (p : W × W), v.rounds (l ++ [p]) = (v.rounds l).round p.1 p.2
  | [], p => rfl
  | (k, w) :: l, p => by rw [List.cons_append, Oct.rounds, rounds_snoc (v.round k w) l p]; rfl
/-- The first i words added. -/
def addTo (h v : List W) (i : Nat) : List W := (List.zipWith (· + ·) h v).take i ++ h.drop i
theorem addTo_length {h v : List W} (hl : h.length = v.length) (i : Nat) : (addTo h v i).length = h.length := by simp [addTo]; omega
theorem addTo_get {h v : List W} {i : Nat} {x : W} (hl : h.length = v.length) (hx : h[i]? = some x) : (addTo h v i)[i]? = some x := by
  have hi := (List.getElem?_eq_some_iff.1 hx).1
  unfold addTo
  rw [List.getElem?_append_right (by simp; omega)]
  simp only [List.length_take, List.length_zipWith]
  rw [show i - min i (min h.length v.length) = 0 from by omega, List.getElem?_drop]
  simpa using hx
theorem addTo_succ {h v : List W} {i : Nat} {x y : W} (hl : h.length = v.length) (hx : h[i]? = some x) (hy : v[i]? = some y) : (addTo h v i).set i (x + y) = addTo h v (i + 1) := by
  have hi := (List.getElem?_eq_some_iff.1 hx).1
  have hz : (List.zipWith (· + ·) h v)[i]? = some (x + y) := by simp [List.getElem?_zipWith, hx, hy]
  unfold addTo
  have hlen : ((List.zipWith (· + ·) h v).take i).length = i := by simp; omega
  rw [List.set_append_right _ _ (by omega), hlen, Nat.sub_self, drop_get hx, List.set_cons_zero, take_succ hz]
  simp
theorem addTo_done {x y : Oct} : addTo x.list y.list 8 = (x.add y).list := rfl
theorem bytesW_succ {x : W} : ∀ {k : Nat}, k < 4 → (bytesW x).take (k + 1) = (bytesW x).take k ++ [byteOf x k]
  | 0, _ => rfl | 1, _ => rfl | 2, _ => rfl | 3, _ => rfl
  | k + 4, h => by omega
end Go.Proofs.YtnadipjlhlbfoaaGreatDoor
namespace Go.Proofs.YtnadipjlhlbfoaaGreatDoor
set_option linter.all false
open Go Go.RowKit
set_option maxRecDepth 100000
theorem szt_131 : SzT Tryz.prog 131 64 := ⟨(Tryz.prog.info? 131).get!, by kernel_rfl, by kernel_rfl⟩
theorem zero_131 : Zero Tryz.prog 131 (.agg (#[.int .u32 0, .int .u32 0, .int .u32 0, .int .u32 0, .int .u32 0, .int .u32 0, .int .u32 0, .int .u32 0, .int .u32 0, .int .u32 0, .int .u32 0, .int .u32 0, .int .u32 0, .int .u32 0, .int .u32 0, .int .u32 0, .int .u32 0, .int .u32 0, .int .u32 0, .int .u32 0, .int .u32 0, .int .u32 0, .int .u32 0, .int .u32 0, .int .u32 0, .int .u32 0, .int .u32 0, .int .u32 0, .int .u32 0, .int .u32 0, .int .u32 0, .int .u32 0, .int .u32 0, .int .u32 0, .int .u32 0, .int .u32 0, .int .u32 0, .int .u32 0, .int .u32 0, .int .u32 0, .int .u32 0, .int .u32 0, .int .u32 0, .int .u32 0, .int .u32 0, .int .u32 0, .int .u32 0, .int .u32 0, .int .u32 0, .int .u32 0, .int .u32 0, .int .u32 0, .int .u32 0, .int .u32 0, .int .u32 0, .int .u32 0, .int .u32 0, .int .u32 0, .int .u32 0, .int .u32 0, .int .u32 0, .int .u32 0, .int .u32 0, .int .u32 0])) := ⟨(Tryz.prog.info? 131).get!, by kernel_rfl, by kernel_rfl⟩
theorem slt_54 : SlT Tryz.prog 54 5 1 := ⟨(Tryz.prog.info? 5).get!, Tryz.underlying54, by kernel_rfl, by kernel_rfl⟩
theorem one_5 : One Tryz.prog 5 := ⟨_, Tryz.underlying5, rfl⟩
theorem szt_106 : SzT Tryz.prog 106 1 := ⟨(Tryz.prog.info? 106).get!, by kernel_rfl, by kernel_rfl⟩
theorem one_106 : One Tryz.prog 106 := ⟨_, Tryz.underlying106, rfl⟩
theorem slb_43 : SlB Tryz.prog 43 3 1 8 (.int .i64 0) := ⟨Tryz.underlying43, ⟨(Tryz.prog.info? 3).get!, by kernel_rfl, by kernel_rfl, by kernel_rfl, by kernel_rfl⟩, by decide, by decide⟩
theorem ent_89 : ∀ args w, (callFunc 89 args).run Tryz.prog w = .ok (.enter 89 args) w := enters_of Tryz.func89 (by kernel_rfl) rfl
theorem agg_131 : AggT Tryz.prog 131 64 := ⟨_, _, Tryz.underlying131, rfl, (by kernel_rfl : Tryz.prog.info? 131 = some (Tryz.prog.info? 131).get!), by kernel_rfl⟩
set_option maxRecDepth 100000 in
theorem w_schedule {w : World} {A : Option Addr} {cap : Nat} (bs : List UInt8) (hr : Rd w A 1 (bs.map u8c)) (hbl : bs.length = 64) :
    Calls Tryz.prog 88 #[.slice A 64 cap] w (fun e w' => e = .returned (.agg (arrW (schedW bs))) ∧ SL w [] w' []) := by
 refine calls_of_CX (O := []) (L := []) (args := [.slice A 64 cap]) Tryz.func88 rfl (by simp [Tryz.ntmps88]) (SL.refl w) ?_
 refine CX.sub (V' := [(0, .slice A 64 cap)]) ⟨rfl, trivial⟩ ?_
 refine CX.seq ?_
 refine CX.region ?_
 refine RX.cons rfl rfl (op_alloc rfl rfl rfl zero_131 fun gw => ?_)
 refine RX.know1 0 (q := .blk gw (.cells (arrW (List.replicate 64 0#32)) 131 (0, 0))) rfl rfl ?_
 refine RX.nil (XX.next (V' := [(0, _), (2, .pointer (some ⟨gw, 0, none⟩))]) ⟨rfl, rfl, trivial⟩ ?_)
 refine CX.seq ?_
 refine CX.seq ?_
 refine CX.region ?_
 refine RX.cons rfl rfl (op_w (yw_move rfl rfl) rfl rfl ?_)
 refine RX.nil (XX.next (V' := [(0, _), (2, .pointer (some ⟨gw, 0, none⟩)), (7, _)]) ⟨rfl, rfl, rfl, trivial⟩ ?_)
 refine CX.block ?_
 have hA : ∃ b j, A = some ⟨b, j, none⟩ := hr.some (k := 0) (by simp; omega)
 refine CX.loop (σ := Nat × List W) (fun z => [(0, .slice A 64 cap), (2, .pointer (some ⟨gw, 0, none⟩)), (7, .int .i64 ((z.1 : Nat) : Int))]) (fun z => [.blk gw (.cells (arrW z.2) 131 (0, 0))]) (fun z => z.1 ≤ 16 ∧ z.2.length = 64 ∧ z.2.take z.1 = firstW bs z.1) (fun z => 16 - z.1) (0, List.replicate 64 0#32) ⟨Nat.zero_le _, by simp, rfl⟩ ⟨rfl, rfl, rfl, trivial⟩ rfl (fun z hI => ?_)
 obtain ⟨i, ws⟩ := z
 dsimp only at hI ⊢
 obtain ⟨hi, hl, hws⟩ := hI
 refine CX.seq ?_
 refine CX.region ?_
 refine RX.cons rfl rfl (op_w (yw_lss rfl rfl rfl) rfl rfl ?_)
 refine RX.nil (XX.next (V' := [(0, _), (2, .pointer (some ⟨gw, 0, none⟩)), (7, _), (8, _)]) ⟨rfl, rfl, rfl, rfl, trivial⟩ ?_)
 refine CX.seq ?_
 refine CX.condD (p := ((i : Nat) : Int) < 16) rfl (fun c8 => ?_) (fun c8 => ?_)
 ·obtain ⟨b0, hb0⟩ := get_some (l := bs) (k := 4 * i) (by omega)
  obtain ⟨b1, hb1⟩ := get_some (l := bs) (k := 4 * i + 1) (by omega)
  obtain ⟨b2, hb2⟩ := get_some (l := bs) (k := 4 * i + 2) (by omega)
  obtain ⟨b3, hb3⟩ := get_some (l := bs) (k := 4 * i + 3) (by omega)
  refine CX.skip (XX.next (V' := [(0, _), (2, .pointer (some ⟨gw, 0, none⟩)), (7, _)]) ⟨rfl, rfl, rfl, trivial⟩ ?_)
  refine CX.seq ?_
  refine CX.block ?_
  refine CX.seq ?_
  refine CX.region ?_
  refine RX.cons rfl rfl (op_w (yw_move rfl rfl) rfl rfl ?_)
  refine RX.cons rfl rfl (op_w (yw_assign rfl rfl) rfl rfl ?_)
  refine RX.nil (XX.next (V' := [(0, _), (2, .pointer (some ⟨gw, 0, none⟩)), (3, _), (7, _)]) ⟨rfl, rfl, rfl, rfl, trivial⟩ ?_)
  refine CX.draw 35 [(0, 8, 1024), (0, 1, 2048), (0, 8, 4096), (4, 4096, 8192), (10, 10240, 16384), (16, 16384, 32768), (32, 32768, 65536), (64, 65536, 131072), (0, 1, 262144), (0, 8, 524288), (512, 524288, 1048576), (1024, 1048576, 2097152), (2304, 2359296, 4194304), (4096, 4194304, 8388608), (8192, 8388608, 16777216), (16384, 16777216, 33554432), (32896, 33685504, 67108864), (0, 1, 134217728), (0, 8, 268435456), (262144, 268435456, 536870912), (524288, 536870912, 1073741824), (1179648, 1207959552, 2147483648), (2097152, 2147483648, 4294967296), (4194304, 4294967296, 8589934592), (8388608, 8589934592, 17179869184), (16842752, 17246978048, 34359738368), (0, 1, 68719476736), (0, 8, 137438953472), (134217728, 137438953472, 274877906944), (268435456, 274877906944, 549755813888), (603979776, 618475290624, 1099511627776), (1073741824, 1099511627776, 2199023255552), (2147483648, 2199023255552, 4398046511104), (4328521728, 4432406249472, 8796093022208), (17179869183, 1028, 17592186044416), (34359738367, 26388279066624, 0)] (by kernel_rfl) (by kernel_rfl) (by kernel_rfl) ?_
  refine DX.takeW 0 1 (by kernel_rfl) rfl rfl rfl rfl rfl (yw_move rfl rfl) ?_
  refine DX.takeW 1 3 (by kernel_rfl) rfl rfl rfl rfl rfl (yw_move rfl rfl) ?_
  refine DX.takeW 2 7 (by kernel_rfl) rfl rfl rfl rfl rfl (yw_move rfl rfl) ?_
  refine DX.takeW 3 15 (by kernel_rfl) rfl rfl rfl rfl rfl (yw_mul rfl rfl rfl (by omega) (by omega)) ?_
  refine DX.takeW 4 31 (by kernel_rfl) rfl rfl rfl rfl rfl (yw_index (k := (4 * i)) rfl slt_54 rfl rfl (by omega) (by omega) hA) ?_
  refine DX.take 5 63 (by kernel_rfl) rfl rfl rfl rfl rfl (List.Sublist.refl _) (y_elem1 rfl rfl one_5 hr (by simp) (map_get hb0)) ?_
  refine DX.takeW 6 127 (by kernel_rfl) rfl rfl rfl rfl rfl (yw_bvConv (a := UInt8.toBitVec b0) UK.u32 rfl rfl Tryz.underlying5 Tryz.underlying106) ?_
  refine DX.takeW 7 255 (by kernel_rfl) rfl rfl rfl rfl rfl (yw_bvShl (a := BitVec.setWidth 32 (UInt8.toBitVec b0)) 24 UK.u32 rfl rfl rfl rfl) ?_
  refine DX.takeW 8 511 (by kernel_rfl) rfl rfl rfl rfl rfl (yw_move rfl rfl) ?_
  refine DX.takeW 9 1023 (by kernel_rfl) rfl rfl rfl rfl rfl (yw_move rfl rfl) ?_
  refine DX.takeW 10 2047 (by kernel_rfl) rfl rfl rfl rfl rfl (yw_mul rfl rfl rfl (by omega) (by omega)) ?_
  refine DX.takeW 11 4095 (by kernel_rfl) rfl rfl rfl rfl rfl (yw_add rfl rfl rfl (by omega) (by omega)) ?_
  refine DX.takeW 12 8191 (by kernel_rfl) rfl rfl rfl rfl rfl (yw_index (k := (4 * i + 1)) rfl slt_54 rfl rfl (by omega) (by omega) hA) ?_
  refine DX.take 13 16383 (by kernel_rfl) rfl rfl rfl rfl rfl (List.Sublist.refl _) (y_elem1 rfl rfl one_5 hr (by simp) (map_get hb1)) ?_
  refine DX.takeW 14 32767 (by kernel_rfl) rfl rfl rfl rfl rfl (yw_bvConv (a := UInt8.toBitVec b1) UK.u32 rfl rfl Tryz.underlying5 Tryz.underlying106) ?_
  refine DX.takeW 15 65535 (by kernel_rfl) rfl rfl rfl rfl rfl (yw_bvShl (a := BitVec.setWidth 32 (UInt8.toBitVec b1)) 16 UK.u32 rfl rfl rfl rfl) ?_
  refine DX.takeW 16 131071 (by kernel_rfl) rfl rfl rfl rfl rfl (yw_bvOr (a := (BitVec.setWidth 32 (UInt8.toBitVec b0)) <<< 24) (b := (BitVec.setWidth 32 (UInt8.toBitVec b1)) <<< 16) UK.u32 rfl rfl rfl) ?_
  refine DX.takeW 17 262143 (by kernel_rfl) rfl rfl rfl rfl rfl (yw_move rfl rfl) ?_
  refine DX.takeW 18 524287 (by kernel_rfl) rfl rfl rfl rfl rfl (yw_move rfl rfl) ?_
  refine DX.takeW 19 1048575 (by kernel_rfl) rfl rfl rfl rfl rfl (yw_mul rfl rfl rfl (by omega) (by omega)) ?_
  refine DX.takeW 20 2097151 (by kernel_rfl) rfl rfl rfl rfl rfl (yw_add rfl rfl rfl (by omega) (by omega)) ?_
  refine DX.takeW 21 4194303 (by kernel_rfl) rfl rfl rfl rfl rfl (yw_index (k := (4 * i + 2)) rfl slt_54 rfl rfl (by omega) (by omega) hA) ?_
  refine DX.take 22 8388607 (by kernel_rfl) rfl rfl rfl rfl rfl (List.Sublist.refl _) (y_elem1 rfl rfl one_5 hr (by simp) (map_get hb2)) ?_
  refine DX.takeW 23 16777215 (by kernel_rfl) rfl rfl rfl rfl rfl (yw_bvConv (a := UInt8.toBitVec b2) UK.u32 rfl rfl Tryz.underlying5 Tryz.underlying106) ?_
  refine DX.takeW 24 33554431 (by kernel_rfl) rfl rfl rfl rfl rfl (yw_bvShl (a := BitVec.setWidth 32 (UInt8.toBitVec b2)) 8 UK.u32 rfl rfl rfl rfl) ?_
  refine DX.takeW 25 67108863 (by kernel_rfl) rfl rfl rfl rfl rfl (yw_bvOr (a := ((BitVec.setWidth 32 (UInt8.toBitVec b0)) <<< 24) ||| ((BitVec.setWidth 32 (UInt8.toBitVec b1)) <<< 16)) (b := (BitVec.setWidth 32 (UInt8.toBitVec b2)) <<< 8) UK.u32 rfl rfl rfl) ?_
  refine DX.takeW 26 134217727 (by kernel_rfl) rfl rfl rfl rfl rfl (yw_move rfl rfl) ?_
  refine DX.takeW 27 268435455 (by kernel_rfl) rfl rfl rfl rfl rfl (yw_move rfl rfl) ?_
  refine DX.takeW 28 536870911 (by kernel_rfl) rfl rfl rfl rfl rfl (yw_mul rfl rfl rfl (by omega) (by omega)) ?_
  refine DX.takeW 29 1073741823 (by kernel_rfl) rfl rfl rfl rfl rfl (yw_add rfl rfl rfl (by omega) (by omega)) ?_
  refine DX.takeW 30 2147483647 (by kernel_rfl) rfl rfl rfl rfl rfl (yw_index (k := (4 * i + 3)) rfl slt_54 rfl rfl (by omega) (by omega) hA) ?_
  refine DX.take 31 4294967295 (by kernel_rfl) rfl rfl rfl rfl rfl (List.Sublist.refl _) (y_elem1 rfl rfl one_5 hr (by simp) (map_get hb3)) ?_
  refine DX.takeW 32 8589934591 (by kernel_rfl) rfl rfl rfl rfl rfl (yw_bvConv (a := UInt8.toBitVec b3) UK.u32 rfl rfl Tryz.underlying5 Tryz.underlying106) ?_
  refine DX.takeW 33 17179869183 (by kernel_rfl) rfl rfl rfl rfl rfl (yw_bvOr (a := (((BitVec.setWidth 32 (UInt8.toBitVec b0)) <<< 24) ||| ((BitVec.setWidth 32 (UInt8.toBitVec b1)) <<< 16)) ||| ((BitVec.setWidth 32 (UInt8.toBitVec b2)) <<< 8)) (b := BitVec.setWidth 32 (UInt8.toBitVec b3)) UK.u32 rfl rfl rfl) ?_
  refine DX.takeW 34 34359738367 (by kernel_rfl) rfl rfl rfl rfl rfl (yw_indexArr (k := i) rfl Tryz.underlying131 szt_106 rfl rfl (by omega) (by omega)) ?_
  refine DX.stepT 35 68719476735 (by kernel_rfl) rfl rfl rfl rfl (op_store1 (i := 0) (cs' := arrW (ws.set i (((((BitVec.setWidth 32 (UInt8.toBitVec b0)) <<< 24) ||| ((BitVec.setWidth 32 (UInt8.toBitVec b1)) <<< 16)) ||| ((BitVec.setWidth 32 (UInt8.toBitVec b2)) <<< 8)) ||| (BitVec.setWidth 32 (UInt8.toBitVec b3))))) rfl rfl rfl rfl szt_106 rfl rfl (arrW_lt (by omega)) (arrW_set _) ?_)
  refine DX.done (by kernel_rfl) (XX.inBlock (V' := [(0, _), (2, .pointer (some ⟨gw, 0, none⟩)), (7, _)]) ⟨rfl, rfl, rfl, trivial⟩ ?_)
  refine XX.next (V' := [(0, _), (2, .pointer (some ⟨gw, 0, none⟩)), (7, _)]) ⟨rfl, rfl, rfl, trivial⟩ ?_
  refine CX.region ?_
  refine RX.cons rfl rfl (op_w (yw_add rfl rfl rfl (by omega) (by omega)) rfl rfl ?_)
  refine RX.cons rfl rfl (op_w (yw_move rfl rfl) rfl rfl ?_)
  refine RX.nil (XX.againP ([]) (i + 1, ws.set i (((BitVec.setWidth 32 b0.toBitVec <<< 24 ||| BitVec.setWidth 32 b1.toBitVec <<< 16) ||| BitVec.setWidth 32 b2.toBitVec <<< 8) ||| BitVec.setWidth 32 b3.toBitVec)) (by dsimp only; omega) ⟨by dsimp only; omega, by simp [hl], by dsimp only; rw [take_set_snoc (by omega), hws, firstW_succ, wordAt_eq hb0 hb1 hb2 hb3]⟩ ⟨rfl, rfl, rfl, trivial⟩ ((perm_pick 0 rfl).trans (List.Perm.cons _ (List.Perm.refl _))))
 ·refine CX.exit ?_
  refine XX.then_exit ?_
  refine XX.then_exit ?_
  refine XX.block_exit ?_
  refine XX.next (V' := [(2, .pointer (some ⟨gw, 0, none⟩))]) ⟨rfl, trivial⟩ ?_
  refine CX.seq ?_
  refine CX.seq ?_
  refine CX.region ?_
  refine RX.cons rfl rfl (op_w (yw_assign rfl rfl) rfl rfl ?_)
  refine RX.nil (XX.next (V' := [(2, .pointer (some ⟨gw, 0, none⟩)), (4, _)]) ⟨rfl, rfl, trivial⟩ ?_)
  refine CX.block ?_
  refine CX.loop (σ := Nat × List W) (fun z => [(2, .pointer (some ⟨gw, 0, none⟩)), (4, .int .i64 ((z.1 : Nat) : Int))]) (fun z => [.blk gw (.cells (arrW z.2) 131 (0, 0))]) (fun z => 16 ≤ z.1 ∧ z.1 ≤ 64 ∧ z.2.length = 64 ∧ z.2.take z.1 = moreW (firstW bs 16) (z.1 - 16)) (fun z => 64 - z.1) (16, ws) ⟨Nat.le_refl _, by dsimp only; omega, hl, by rw [show i = 16 from by omega] at hws; exact hws⟩ ⟨rfl, rfl, trivial⟩ rfl (fun z hI => ?_)
  obtain ⟨j, vs⟩ := z
  dsimp only at hI ⊢
  obtain ⟨hj, hj2, hl2, hvs⟩ := hI
  refine CX.seq ?_
  refine CX.seq ?_
  refine CX.region ?_
  refine RX.cons rfl rfl (op_w (yw_move rfl rfl) rfl rfl ?_)
  refine RX.cons rfl rfl (op_w (yw_lss rfl rfl rfl) rfl rfl ?_)
  refine RX.nil (XX.next (V' := [(2, .pointer (some ⟨gw, 0, none⟩)), (4, _), (47, _)]) ⟨rfl, rfl, rfl, trivial⟩ ?_)
  refine CX.condD (p := ((j : Nat) : Int) < 64) rfl (fun c47 => ?_) (fun c47 => ?_)
  ·obtain ⟨x, hx⟩ := get_some (l := vs) (k := j - 15) (by omega)
   obtain ⟨y, hy⟩ := get_some (l := vs) (k := j - 2) (by omega)
   obtain ⟨a, ha⟩ := get_some (l := vs) (k := j - 16) (by omega)
   obtain ⟨b, hb⟩ := get_some (l := vs) (k := j - 7) (by omega)
   refine CX.skip (XX.next (V' := [(2, .pointer (some ⟨gw, 0, none⟩)), (4, _)]) ⟨rfl, rfl, trivial⟩ ?_)
   refine CX.seq ?_
   refine CX.block ?_
   refine CX.seq ?_
   refine CX.draw 10 [(0, 16, 1125899906842624), (1, 1125899906842624, 2251799813685248), (2, 2251799813685252, 4503599627370496), (4, 4503599627370496, 9007199254740992), (0, 16, 18014398509481984), (16, 18014398509481984, 36028797018963968), (32, 36028797018963972, 72057594037927936), (64, 72057594037927936, 144115188075855872), (15, 9007199254740992, 32), (511, 144115188075855872, 64)] (by kernel_rfl) (by kernel_rfl) (by kernel_rfl) ?_
   refine DX.takeW 0 1 (by kernel_rfl) rfl rfl rfl rfl rfl (yw_move rfl rfl) ?_
   refine DX.takeW 1 3 (by kernel_rfl) rfl rfl rfl rfl rfl (yw_sub rfl rfl rfl (by omega) (by omega)) ?_
   refine DX.takeW 2 7 (by kernel_rfl) rfl rfl rfl rfl rfl (yw_indexArr (k := (j - 15)) rfl Tryz.underlying131 szt_106 rfl rfl (by omega) (by omega)) ?_
   refine DX.take 3 15 (by kernel_rfl) rfl rfl rfl rfl rfl (List.Sublist.refl _) (y_load (i := 0) (v := .int .u32 (wi x)) rfl rfl one_106 rfl (arrW_get hx)) ?_
   refine DX.takeW 4 31 (by kernel_rfl) rfl rfl rfl rfl rfl (yw_move rfl rfl) ?_
   refine DX.takeW 5 63 (by kernel_rfl) rfl rfl rfl rfl rfl (yw_sub rfl rfl rfl (by omega) (by omega)) ?_
   refine DX.takeW 6 127 (by kernel_rfl) rfl rfl rfl rfl rfl (yw_indexArr (k := (j - 2)) rfl Tryz.underlying131 szt_106 rfl rfl (by omega) (by omega)) ?_
   refine DX.take 7 255 (by kernel_rfl) rfl rfl rfl rfl rfl (List.Sublist.refl _) (y_load (i := 0) (v := .int .u32 (wi y)) rfl rfl one_106 rfl (arrW_get hy)) ?_
   refine DX.takeW 8 511 (by kernel_rfl) rfl rfl rfl rfl rfl (yw_assign rfl rfl) ?_
   refine DX.takeW 9 1023 (by kernel_rfl) rfl rfl rfl rfl rfl (yw_assign rfl rfl) ?_
   refine DX.done (by kernel_rfl) (XX.next (V' := [(2, .pointer (some ⟨gw, 0, none⟩)), (4, _), (5, _), (6, _)]) ⟨rfl, rfl, rfl, rfl, trivial⟩ ?_)
   refine CX.draw 25 [(0, 16, 288230376151711744), (0, 16, 576460752303423488), (2, 576460752303423488, 1152921504606846976), (4, 1152921504606846980, 2305843009213693952), (8, 2305843009213693952, 4611686018427387904), (0, 32, 9223372036854775808), (0, 0, 18446744073709551616), (96, 27670116110564327424, 36893488147419103232), (0, 32, 73786976294838206464), (256, 73786976294838206464, 147573952589676412928), (640, 184467440737095516160, 295147905179352825856), (1040, 299759591197780213760, 590295810358705651712), (0, 16, 1180591620717411303424), (4096, 1180591620717411303424, 2361183241434822606848), (8192, 2361183241434822606852, 4722366482869645213696), (16384, 4722366482869645213696, 9444732965739290427392), (34816, 10035028776097996079104, 18889465931478580854784), (0, 64, 37778931862957161709568), (0, 0, 75557863725914323419136), (393344, 113336795588871485128704, 151115727451828646838272), (0, 64, 302231454903657293676544), (1048576, 302231454903657293676544, 604462909807314587353088), (2621440, 755578637259143234191360, 1208925819614629174706176), (4259840, 1227815285546107755560960, 2417851639229258349412352), (16777215, 288230376151711748, 4835703278458516698824704), (33554431, 7253554917687775048237056, 0)] (by kernel_rfl) (by kernel_rfl) (by kernel_rfl) ?_
   refine DX.takeW 0 1 (by kernel_rfl) rfl rfl rfl rfl rfl (yw_move rfl rfl) ?_
   refine DX.takeW 1 3 (by kernel_rfl) rfl rfl rfl rfl rfl (yw_move rfl rfl) ?_
   refine DX.takeW 2 7 (by kernel_rfl) rfl rfl rfl rfl rfl (yw_sub rfl rfl rfl (by omega) (by omega)) ?_
   refine DX.takeW 3 15 (by kernel_rfl) rfl rfl rfl rfl rfl (yw_indexArr (k := (j - 16)) rfl Tryz.underlying131 szt_106 rfl rfl (by omega) (by omega)) ?_
   refine DX.take 4 31 (by kernel_rfl) rfl rfl rfl rfl rfl (List.Sublist.refl _) (y_load (i := 0) (v := .int .u32 (wi a)) rfl rfl one_106 rfl (arrW_get ha)) ?_
   refine DX.takeW 5 63 (by kernel_rfl) rfl rfl rfl rfl rfl (yw_move rfl rfl) ?_
   refine DX.takeW 8 319 (by kernel_rfl) rfl rfl rfl rfl rfl (yw_move rfl rfl) ?_
   refine DX.takeW 9 831 (by kernel_rfl) rfl rfl rfl rfl rfl (yw_bvShr (a := x) 3 UK.u32 rfl rfl rfl rfl) ?_
   refine DX.takeW 12 4927 (by kernel_rfl) rfl rfl rfl rfl rfl (yw_move rfl rfl) ?_
   refine DX.takeW 13 13119 (by kernel_rfl) rfl rfl rfl rfl rfl (yw_sub rfl rfl rfl (by omega) (by omega)) ?_
   refine DX.takeW 14 29503 (by kernel_rfl) rfl rfl rfl rfl rfl (yw_indexArr (k := (j - 7)) rfl Tryz.underlying131 szt_106 rfl rfl (by omega) (by omega)) ?_
   refine DX.take 15 62271 (by kernel_rfl) rfl rfl rfl rfl rfl (List.Sublist.refl _) (y_load (i := 0) (v := .int .u32 (wi b)) rfl rfl one_106 rfl (arrW_get hb)) ?_
   refine DX.takeW 17 193343 (by kernel_rfl) rfl rfl rfl rfl rfl (yw_move rfl rfl) ?_
   refine DX.takeW 20 1241919 (by kernel_rfl) rfl rfl rfl rfl rfl (yw_move rfl rfl) ?_
   refine DX.takeW 21 3339071 (by kernel_rfl) rfl rfl rfl rfl rfl (yw_bvShr (a := y) 10 UK.u32 rfl rfl rfl rfl) ?_
   refine DX.step2 6 18 3339135 3601215 (by kernel_rfl) rfl rfl rfl rfl rfl rfl (op_buildSlice rfl rfl rfl slb_43 rfl rfl (by intro v hv; simp only [List.mem_cons, List.not_mem_nil, or_false] at hv; rcases hv with rfl | rfl <;> exact ⟨rfl, (plain_of rfl)⟩) (by decide) fun g1 => (DXs.mk (List.Sublist.cons _ (List.Sublist.refl _)) ?_)) (op_buildSlice rfl rfl rfl slb_43 rfl rfl (by intro v hv; simp only [List.mem_cons, List.not_mem_nil, or_false] at hv; rcases hv with rfl | rfl <;> exact ⟨rfl, (plain_of rfl)⟩) (by decide) fun g2 => (DXs.mk (List.Sublist.cons _ (List.Sublist.refl _)) ?_))
   ·refine DX.step2 7 18 3339263 3601279 (by kernel_rfl) rfl rfl rfl rfl rfl rfl (op_callV (v := .int .u32 (wi (mixW x ([7, 18])))) rfl rfl rfl rfl rfl ent_89 (fun w hw => w_mixed x ([7, 18]) (Ent.rd (hw.ents _ (List.mem_of_getElem? (i := 0) rfl))) (by decide) (by decide)) (DXs.mk (List.Sublist.cons _ (List.Sublist.refl _)) ?_)) (op_buildSlice rfl rfl rfl slb_43 rfl rfl (by intro v hv; simp only [List.mem_cons, List.not_mem_nil, or_false] at hv; rcases hv with rfl | rfl <;> exact ⟨rfl, (plain_of rfl)⟩) (by decide) fun g3 => (DXs.mk (List.Sublist.cons _ (List.Sublist.cons _ (List.Sublist.refl _))) ?_))
    ·refine DX.takeW 10 3340287 (by kernel_rfl) rfl rfl rfl rfl rfl (yw_bvXor (a := mixW x ([7, 18])) (b := x >>> 3) UK.u32 rfl rfl rfl) ?_
     refine DX.takeW 11 3342335 (by kernel_rfl) rfl rfl rfl rfl rfl (yw_bvAdd (a := a) (b := (mixW x ([7, 18])) ^^^ (x >>> 3)) UK.u32 rfl rfl rfl) ?_
     refine DX.takeW 16 3407871 (by kernel_rfl) rfl rfl rfl rfl rfl (yw_bvAdd (a := a + ((mixW x ([7, 18])) ^^^ (x >>> 3))) (b := b) UK.u32 rfl rfl rfl) ?_
     refine DX.step 18 3670015 (by kernel_rfl) rfl rfl rfl (op_buildSlice rfl rfl rfl slb_43 rfl rfl (by intro v hv; simp only [List.mem_cons, List.not_mem_nil, or_false] at hv; rcases hv with rfl | rfl <;> exact ⟨rfl, (plain_of rfl)⟩) (by decide) fun g5 => (DXs.mk (List.Sublist.cons _ (List.Sublist.cons _ (List.Sublist.refl _))) ?_))
     refine DX.step 19 4194303 (by kernel_rfl) rfl rfl rfl (op_callV (v := .int .u32 (wi (mixW y ([17, 19])))) rfl rfl rfl rfl rfl ent_89 (fun w hw => w_mixed y ([17, 19]) (Ent.rd (hw.ents _ (List.mem_of_getElem? (i := 0) rfl))) (by decide) (by decide)) (DXs.mk (List.Sublist.cons _ (List.Sublist.cons _ (List.Sublist.refl _))) ?_))
     refine DX.takeW 22 8388607 (by kernel_rfl) rfl rfl rfl rfl rfl (yw_bvXor (a := mixW y ([17, 19])) (b := y >>> 10) UK.u32 rfl rfl rfl) ?_
     refine DX.takeW 23 16777215 (by kernel_rfl) rfl rfl rfl rfl rfl (yw_bvAdd (a := (a + ((mixW x ([7, 18])) ^^^ (x >>> 3))) + b) (b := (mixW y ([17, 19])) ^^^ (y >>> 10)) UK.u32 rfl rfl rfl) ?_
     refine DX.takeW 24 33554431 (by kernel_rfl) rfl rfl rfl rfl rfl (yw_indexArr (k := j) rfl Tryz.underlying131 szt_106 rfl rfl (by omega) (by omega)) ?_
     refine DX.stepT 25 67108863 (by kernel_rfl) rfl rfl rfl rfl (op_store1 (i := 2) (cs' := arrW (vs.set j (((a + (mixW x [7, 18] ^^^ x >>> 3)) + b) + (mixW y [17, 19] ^^^ y >>> 10)))) rfl rfl rfl rfl szt_106 rfl rfl (arrW_lt (by omega)) (arrW_set _) ?_)
     refine DX.done (by kernel_rfl) (XX.inBlock (V' := [(2, .pointer (some ⟨gw, 0, none⟩)), (4, _)]) ⟨rfl, rfl, trivial⟩ ?_)
     refine XX.next (V' := [(2, .pointer (some ⟨gw, 0, none⟩)), (4, _)]) ⟨rfl, rfl, trivial⟩ ?_
     refine CX.region ?_
     refine RX.cons rfl rfl (op_w (yw_move rfl rfl) rfl rfl ?_)
     refine RX.cons rfl rfl (op_w (yw_add rfl rfl rfl (by omega) (by omega)) rfl rfl ?_)
     refine RX.cons rfl rfl (op_w (yw_assign rfl rfl) rfl rfl ?_)
     refine RX.nil (XX.againP ([.row (some ⟨g5, 0, none⟩) 2 3 1 (List.map Value.cells [.int .i64 17, .int .i64 19]), .row (some ⟨g1, 0, none⟩) 2 3 1 (List.map Value.cells [.int .i64 7, .int .i64 18])]) (j + 1, vs.set j (((a + (mixW x [7, 18] ^^^ x >>> 3)) + b) + (mixW y [17, 19] ^^^ y >>> 10))) (by dsimp only; omega) ⟨by dsimp only; omega, by dsimp only; omega, by simp [hl2], more_succ hj (by omega) hvs (nextW_take hj hx hy ha hb).symm⟩ ⟨rfl, rfl, trivial⟩ ((perm_pick 2 rfl).trans (List.Perm.cons _ (List.Perm.refl _))))
    ·refine DX.step 7 3601407 (by kernel_rfl) rfl rfl rfl (op_callV (v := .int .u32 (wi (mixW x ([7, 18])))) rfl rfl rfl rfl rfl ent_89 (fun w hw => w_mixed x ([7, 18]) (Ent.rd (hw.ents _ (List.mem_of_getElem? (i := 1) rfl))) (by decide) (by decide)) (DXs.mk (List.Sublist.cons _ (List.Sublist.cons _ (List.Sublist.refl _))) ?_))
     refine DX.takeW 10 3602431 (by kernel_rfl) rfl rfl rfl rfl rfl (yw_bvXor (a := mixW x ([7, 18])) (b := x >>> 3) UK.u32 rfl rfl rfl) ?_
     refine DX.takeW 11 3604479 (by kernel_rfl) rfl rfl rfl rfl rfl (yw_bvAdd (a := a) (b := (mixW x ([7, 18])) ^^^ (x >>> 3)) UK.u32 rfl rfl rfl) ?_
     refine DX.takeW 16 3670015 (by kernel_rfl) rfl rfl rfl rfl rfl (yw_bvAdd (a := a + ((mixW x ([7, 18])) ^^^ (x >>> 3))) (b := b) UK.u32 rfl rfl rfl) ?_
     refine DX.step 19 4194303 (by kernel_rfl) rfl rfl rfl (op_callV (v := .int .u32 (wi (mixW y ([17, 19])))) rfl rfl rfl rfl rfl ent_89 (fun w hw => w_mixed y ([17, 19]) (Ent.rd (hw.ents _ (List.mem_of_getElem? (i := 0) rfl))) (by decide) (by decide)) (DXs.mk (List.Sublist.cons _ (List.Sublist.cons _ (List.Sublist.refl _))) ?_))
     refine DX.takeW 22 8388607 (by kernel_rfl) rfl rfl rfl rfl rfl (yw_bvXor (a := mixW y ([17, 19])) (b := y >>> 10) UK.u32 rfl rfl rfl) ?_
     refine DX.takeW 23 16777215 (by kernel_rfl) rfl rfl rfl rfl rfl (yw_bvAdd (a := (a + ((mixW x ([7, 18])) ^^^ (x >>> 3))) + b) (b := (mixW y ([17, 19])) ^^^ (y >>> 10)) UK.u32 rfl rfl rfl) ?_
     refine DX.takeW 24 33554431 (by kernel_rfl) rfl rfl rfl rfl rfl (yw_indexArr (k := j) rfl Tryz.underlying131 szt_106 rfl rfl (by omega) (by omega)) ?_
     refine DX.stepT 25 67108863 (by kernel_rfl) rfl rfl rfl rfl (op_store1 (i := 2) (cs' := arrW (vs.set j (((a + (mixW x [7, 18] ^^^ x >>> 3)) + b) + (mixW y [17, 19] ^^^ y >>> 10)))) rfl rfl rfl rfl szt_106 rfl rfl (arrW_lt (by omega)) (arrW_set _) ?_)
     refine DX.done (by kernel_rfl) (XX.inBlock (V' := [(2, .pointer (some ⟨gw, 0, none⟩)), (4, _)]) ⟨rfl, rfl, trivial⟩ ?_)
     refine XX.next (V' := [(2, .pointer (some ⟨gw, 0, none⟩)), (4, _)]) ⟨rfl, rfl, trivial⟩ ?_
     refine CX.region ?_
     refine RX.cons rfl rfl (op_w (yw_move rfl rfl) rfl rfl ?_)
     refine RX.cons rfl rfl (op_w (yw_add rfl rfl rfl (by omega) (by omega)) rfl rfl ?_)
     refine RX.cons rfl rfl (op_w (yw_assign rfl rfl) rfl rfl ?_)
     refine RX.nil (XX.againP ([.row (some ⟨g3, 0, none⟩) 2 3 1 (List.map Value.cells [.int .i64 17, .int .i64 19]), .row (some ⟨g1, 0, none⟩) 2 3 1 (List.map Value.cells [.int .i64 7, .int .i64 18])]) (j + 1, vs.set j (((a + (mixW x [7, 18] ^^^ x >>> 3)) + b) + (mixW y [17, 19] ^^^ y >>> 10))) (by dsimp only; omega) ⟨by dsimp only; omega, by dsimp only; omega, by simp [hl2], more_succ hj (by omega) hvs (nextW_take hj hx hy ha hb).symm⟩ ⟨rfl, rfl, trivial⟩ ((perm_pick 2 rfl).trans (List.Perm.cons _ (List.Perm.refl _))))
   ·refine DX.step 6 3601279 (by kernel_rfl) rfl rfl rfl (op_buildSlice rfl rfl rfl slb_43 rfl rfl (by intro v hv; simp only [List.mem_cons, List.not_mem_nil, or_false] at hv; rcases hv with rfl | rfl <;> exact ⟨rfl, (plain_of rfl)⟩) (by decide) fun g7 => (DXs.mk (List.Sublist.cons _ (List.Sublist.cons _ (List.Sublist.refl _))) ?_))
    refine DX.step 7 3601407 (by kernel_rfl) rfl rfl rfl (op_callV (v := .int .u32 (wi (mixW x ([7, 18])))) rfl rfl rfl rfl rfl ent_89 (fun w hw => w_mixed x ([7, 18]) (Ent.rd (hw.ents _ (List.mem_of_getElem? (i := 0) rfl))) (by decide) (by decide)) (DXs.mk (List.Sublist.cons _ (List.Sublist.cons _ (List.Sublist.refl _))) ?_))
    refine DX.takeW 10 3602431 (by kernel_rfl) rfl rfl rfl rfl rfl (yw_bvXor (a := mixW x ([7, 18])) (b := x >>> 3) UK.u32 rfl rfl rfl) ?_
    refine DX.takeW 11 3604479 (by kernel_rfl) rfl rfl rfl rfl rfl (yw_bvAdd (a := a) (b := (mixW x ([7, 18])) ^^^ (x >>> 3)) UK.u32 rfl rfl rfl) ?_
    refine DX.takeW 16 3670015 (by kernel_rfl) rfl rfl rfl rfl rfl (yw_bvAdd (a := a + ((mixW x ([7, 18])) ^^^ (x >>> 3))) (b := b) UK.u32 rfl rfl rfl) ?_
    refine DX.step 19 4194303 (by kernel_rfl) rfl rfl rfl (op_callV (v := .int .u32 (wi (mixW y ([17, 19])))) rfl rfl rfl rfl rfl ent_89 (fun w hw => w_mixed y ([17, 19]) (Ent.rd (hw.ents _ (List.mem_of_getElem? (i := 1) rfl))) (by decide) (by decide)) (DXs.mk (List.Sublist.cons _ (List.Sublist.cons _ (List.Sublist.refl _))) ?_))
    refine DX.takeW 22 8388607 (by kernel_rfl) rfl rfl rfl rfl rfl (yw_bvXor (a := mixW y ([17, 19])) (b := y >>> 10) UK.u32 rfl rfl rfl) ?_
    refine DX.takeW 23 16777215 (by kernel_rfl) rfl rfl rfl rfl rfl (yw_bvAdd (a := (a + ((mixW x ([7, 18])) ^^^ (x >>> 3))) + b) (b := (mixW y ([17, 19])) ^^^ (y >>> 10)) UK.u32 rfl rfl rfl) ?_
    refine DX.takeW 24 33554431 (by kernel_rfl) rfl rfl rfl rfl rfl (yw_indexArr (k := j) rfl Tryz.underlying131 szt_106 rfl rfl (by omega) (by omega)) ?_
    refine DX.stepT 25 67108863 (by kernel_rfl) rfl rfl rfl rfl (op_store1 (i := 2) (cs' := arrW (vs.set j (((a + (mixW x [7, 18] ^^^ x >>> 3)) + b) + (mixW y [17, 19] ^^^ y >>> 10)))) rfl rfl rfl rfl szt_106 rfl rfl (arrW_lt (by omega)) (arrW_set _) ?_)
    refine DX.done (by kernel_rfl) (XX.inBlock (V' := [(2, .pointer (some ⟨gw, 0, none⟩)), (4, _)]) ⟨rfl, rfl, trivial⟩ ?_)
    refine XX.next (V' := [(2, .pointer (some ⟨gw, 0, none⟩)), (4, _)]) ⟨rfl, rfl, trivial⟩ ?_
    refine CX.region ?_
    refine RX.cons rfl rfl (op_w (yw_move rfl rfl) rfl rfl ?_)
    refine RX.cons rfl rfl (op_w (yw_add rfl rfl rfl (by omega) (by omega)) rfl rfl ?_)
    refine RX.cons rfl rfl (op_w (yw_assign rfl rfl) rfl rfl ?_)
    refine RX.nil (XX.againP ([.row (some ⟨g7, 0, none⟩) 2 3 1 (List.map Value.cells [.int .i64 7, .int .i64 18]), .row (some ⟨g2, 0, none⟩) 2 3 1 (List.map Value.cells [.int .i64 17, .int .i64 19])]) (j + 1, vs.set j (((a + (mixW x [7, 18] ^^^ x >>> 3)) + b) + (mixW y [17, 19] ^^^ y >>> 10))) (by dsimp only; omega) ⟨by dsimp only; omega, by dsimp only; omega, by simp [hl2], more_succ hj (by omega) hvs (nextW_take hj hx hy ha hb).symm⟩ ⟨rfl, rfl, trivial⟩ ((perm_pick 2 rfl).trans (List.Perm.cons _ (List.Perm.refl _))))
  ·have hvs' := sched_done hl2 (by omega) hj2 hvs
   refine CX.exit ?_
   refine XX.then_exit ?_
   refine XX.then_exit ?_
   refine XX.block_exit ?_
   refine XX.next (V' := [(2, .pointer (some ⟨gw, 0, none⟩))]) ⟨rfl, trivial⟩ ?_
   refine CX.seq ?_
   refine CX.region ?_
   refine RX.cons rfl rfl (op_yld (y_loadA (i := 0) rfl rfl agg_131 rfl (by rw [arrW_size, hl2])) rfl rfl ?_)
   refine RX.cons rfl rfl (op_storeAll (i := 0) rfl rfl rfl rfl szt_131 (show (arrW vs).size = 64 by rw [arrW_size, hl2]) (arrW_plain vs) rfl (by rw [arrW_size, hl2]) ?_)
   refine RX.nil (XX.next (V' := [(2, .pointer (some ⟨gw, 0, none⟩))]) ⟨rfl, trivial⟩ ?_)
   refine CX.ret ?_
   exact ret_cell (i := 0) rfl rfl agg_131 rfl (show (arrW vs).size = 64 by rw [arrW_size, hl2]) fun w1 hw => ⟨by rw [hvs']; rfl, hw.sub (List.nil_sublist _)⟩

end Go.Proofs.YtnadipjlhlbfoaaGreatDoor
namespace Go.Proofs.YtnadipjlhlbfoaaGreatDoor
set_option linter.all false
open Go Go.RowKit
set_option maxRecDepth 100000
theorem ent_88 : ∀ args w, (callFunc 88 args).run Tryz.prog w = .ok (.enter 88 args) w := enters_of Tryz.func88 (by kernel_rfl) rfl
theorem agg_108 : AggT Tryz.prog 108 8 := ⟨_, _, Tryz.underlying108, rfl, (by kernel_rfl : Tryz.prog.info? 108 = some (Tryz.prog.info? 108).get!), by kernel_rfl⟩
theorem zero_108 : Zero Tryz.prog 108 (.agg (#[.int .u32 0, .int .u32 0, .int .u32 0, .int .u32 0, .int .u32 0, .int .u32 0, .int .u32 0, .int .u32 0])) := ⟨(Tryz.prog.info? 108).get!, by kernel_rfl, by kernel_rfl⟩
theorem szt_108 : SzT Tryz.prog 108 8 := ⟨(Tryz.prog.info? 108).get!, by kernel_rfl, by kernel_rfl⟩
theorem slt_125 : SlT Tryz.prog 125 106 1 := ⟨(Tryz.prog.info? 106).get!, Tryz.underlying125, by kernel_rfl, by kernel_rfl⟩
theorem zero_134 : Zero Tryz.prog 134 (.agg (#[.int .u8 0, .int .u8 0, .int .u8 0, .int .u8 0, .int .u8 0, .int .u8 0, .int .u8 0, .int .u8 0, .int .u8 0, .int .u8 0, .int .u8 0, .int .u8 0, .int .u8 0, .int .u8 0, .int .u8 0, .int .u8 0, .int .u8 0, .int .u8 0, .int .u8 0, .int .u8 0, .int .u8 0, .int .u8 0, .int .u8 0, .int .u8 0, .int .u8 0, .int .u8 0, .int .u8 0, .int .u8 0, .int .u8 0, .int .u8 0, .int .u8 0, .int .u8 0])) := ⟨(Tryz.prog.info? 134).get!, by kernel_rfl, by kernel_rfl⟩
theorem szt_5 : SzT Tryz.prog 5 1 := ⟨(Tryz.prog.info? 5).get!, by kernel_rfl, by kernel_rfl⟩
set_option maxRecDepth 100000 in
theorem w_add {w : World} {A : Option Addr} {cap gh : Nat} (h : Oct) (bs : List UInt8) (hG : Rounds w) (hg0 : 0 ∉ [gh]) (hr : Rd w A 1 (bs.map u8c)) (hbl : bs.length = 64) (hAO : ab A ∉ [gh]) (hs : SL w [gh] w [.blk gh (.cells (arrW (Oct.list h)) 108 (0, 0))]) :
    Calls Tryz.prog 71 #[.pointer (some ⟨gh, 0, none⟩), .slice A 64 cap] w (fun e w' => e = .returned (.tuple #[]) ∧ SL w [gh] w' [.blk gh (.cells (arrW (Oct.list (h.block bs))) 108 (0, 0))]) := by
 refine calls_of_CX (O := [gh]) (L := [.blk gh (.cells (arrW (Oct.list h)) 108 (0, 0))]) (args := [.pointer (some ⟨gh, 0, none⟩), .slice A 64 cap]) Tryz.func71 rfl (by simp [Tryz.ntmps71]) hs ?_
 refine CX.sub (V' := [(0, .pointer (some ⟨gh, 0, none⟩)), (1, .slice A 64 cap)]) ⟨rfl, rfl, trivial⟩ ?_
 refine CX.seq ?_
 refine CX.region ?_
 refine RX.cons rfl rfl (op_w (yw_move rfl rfl) rfl rfl ?_)
 refine RX.cons rfl rfl (op_callV (v := .agg (arrW (schedW bs))) rfl rfl rfl rfl rfl ent_88 (fun w hw => w_schedule bs (hw.rd hr hAO) hbl) ?_)
 refine RX.cons rfl rfl (op_alloc rfl rfl rfl zero_131 fun gs => ?_)
 refine RX.cons rfl rfl (op_storeAll (i := 0) rfl rfl rfl rfl szt_131 (show (arrW (schedW bs)).size = 64 by rw [arrW_size, sched_length]) (arrW_plain _) rfl rfl ?_)
 refine RX.nil (XX.next (V' := [(0, _), (4, _)]) ⟨rfl, rfl, trivial⟩ ?_)
 refine CX.seq ?_
 refine CX.region ?_
 refine RX.cons rfl rfl (op_w (yw_move rfl rfl) rfl rfl ?_)
 refine RX.cons rfl rfl (op_w (yw_nilCheck rfl rfl) rfl rfl ?_)
 refine RX.cons rfl rfl (op_yld (y_loadA (i := 1) rfl rfl agg_108 rfl rfl) rfl rfl ?_)
 refine RX.cons rfl rfl (op_alloc rfl rfl rfl zero_108 fun gv => ?_)
 refine RX.cons rfl rfl (op_storeAll (i := 0) rfl rfl rfl rfl szt_108 rfl (arrW_plain _) rfl rfl ?_)
 refine RX.nil (XX.next (V' := [(0, _), (4, _), (5, _)]) ⟨rfl, rfl, rfl, trivial⟩ ?_)
 refine CX.seq ?_
 refine CX.seq ?_
 refine CX.region ?_
 refine RX.cons rfl rfl (op_yld (y_loadGA (cs := arrW roundsK) rfl rfl agg_131 hG.arr hg0) rfl rfl ?_)
 refine RX.cons rfl rfl (op_w (yw_move rfl rfl) rfl rfl ?_)
 refine RX.nil (XX.next (V' := [(0, _), (4, _), (5, _), (18, _), (19, _)]) ⟨rfl, rfl, rfl, rfl, rfl, trivial⟩ ?_)
 refine CX.block ?_
 refine CX.loop (σ := Nat × Oct) (fun z => [(0, .pointer (some ⟨gh, 0, none⟩)), (4, .pointer (some ⟨gs, 0, none⟩)), (5, .pointer (some ⟨gv, 0, none⟩)), (18, .agg (arrW roundsK)), (19, .int .i64 ((z.1 : Nat) : Int))]) (fun z => [.blk gv (.cells (arrW (Oct.list z.2)) 108 (0, 0)), .blk gs (.cells (arrW (schedW bs)) 131 (0, 0)), .blk gh (.cells (arrW (Oct.list h)) 108 (0, 0))]) (fun z => z.1 ≤ 64 ∧ z.2 = h.rounds ((roundsK.zip (schedW bs)).take z.1)) (fun z => 64 - z.1) (0, h) ⟨Nat.zero_le _, rfl⟩ ⟨rfl, rfl, rfl, rfl, rfl, trivial⟩ rfl (fun z hI => ?_)
 obtain ⟨i, v⟩ := z
 dsimp only at hI ⊢
 obtain ⟨hi, hv⟩ := hI
 refine CX.seq ?_
 refine CX.region ?_
 refine RX.cons rfl rfl (op_w (yw_lss rfl rfl rfl) rfl rfl ?_)
 refine RX.nil (XX.next (V' := [(0, _), (4, _), (5, _), (18, _), (19, _), (20, _)]) ⟨rfl, rfl, rfl, rfl, rfl, rfl, trivial⟩ ?_)
 refine CX.seq ?_
 refine CX.condD (p := ((i : Nat) : Int) < 64) rfl (fun c20 => ?_) (fun c20 => ?_)
 ·obtain ⟨k0, hk0⟩ := get_some (l := roundsK) (k := i) (by show i < 64; omega)
  obtain ⟨s0, hs0⟩ := get_some (l := schedW bs) (k := i) (by rw [sched_length]; omega)
  refine CX.skip (XX.next (V' := [(0, _), (4, _), (5, _), (18, _), (19, _)]) ⟨rfl, rfl, rfl, rfl, rfl, trivial⟩ ?_)
  refine CX.seq ?_
  refine CX.block ?_
  refine CX.seq ?_
  refine CX.region ?_
  refine RX.cons rfl rfl (op_w (yw_move rfl rfl) rfl rfl ?_)
  refine RX.cons rfl rfl (op_w (yw_aggIdx (k := i) (v := .int .u32 (wi k0)) rfl Tryz.underlying131 one_106 szt_106 rfl rfl (by omega) (by omega) (arrW_get' hk0)) rfl rfl ?_)
  refine RX.cons rfl rfl (op_w (yw_assign rfl rfl) rfl rfl ?_)
  refine RX.cons rfl rfl (op_w (yw_assign rfl rfl) rfl rfl ?_)
  refine RX.nil (XX.next (V' := [(0, _), (4, _), (5, _), (6, _), (7, _), (18, _), (19, _)]) ⟨rfl, rfl, rfl, rfl, rfl, rfl, rfl, trivial⟩ ?_)
  refine CX.seq ?_
  refine CX.draw 6 [(0, 32, 8388608), (1, 8388608, 16777216), (0, 32, 33554432), (4, 33554432, 67108864), (3, 16777216, 256), (31, 67108864, 512)] (by kernel_rfl) (by kernel_rfl) (by kernel_rfl) ?_
  refine DX.takeW 0 1 (by kernel_rfl) rfl rfl rfl rfl rfl (yw_indexArr (k := 0) rfl Tryz.underlying108 szt_106 rfl rfl (by omega) (by omega)) ?_
  refine DX.take 1 3 (by kernel_rfl) rfl rfl rfl rfl rfl (List.Sublist.refl _) (y_load (i := 0) rfl rfl one_106 rfl rfl) ?_
  refine DX.takeW 2 7 (by kernel_rfl) rfl rfl rfl rfl rfl (yw_indexArr (k := 4) rfl Tryz.underlying108 szt_106 rfl rfl (by omega) (by omega)) ?_
  refine DX.take 3 15 (by kernel_rfl) rfl rfl rfl rfl rfl (List.Sublist.refl _) (y_load (i := 0) rfl rfl one_106 rfl rfl) ?_
  refine DX.takeW 4 31 (by kernel_rfl) rfl rfl rfl rfl rfl (yw_assign rfl rfl) ?_
  refine DX.takeW 5 63 (by kernel_rfl) rfl rfl rfl rfl rfl (yw_assign rfl rfl) ?_
  refine DX.done (by kernel_rfl) (XX.next (V' := [(0, _), (4, _), (5, _), (6, _), (7, _), (8, _), (9, _), (18, _), (19, _)]) ⟨rfl, rfl, rfl, rfl, rfl, rfl, rfl, rfl, rfl, trivial⟩ ?_)
  refine CX.seq ?_
  refine CX.draw 24 [(0, 32, 134217728), (1, 134217728, 268435456), (0, 512, 536870912), (0, 0, 1073741824), (12, 1610612736, 2147483648), (18, 2415919104, 4294967296), (0, 512, 8589934592), (0, 32, 17179869184), (128, 17179869184, 34359738368), (320, 42949672960, 68719476736), (0, 512, 137438953472), (1024, 137438953472, 274877906944), (0, 32, 549755813888), (4096, 549755813888, 1099511627776), (10240, 1374389534720, 2199023255552), (16896, 2267742732288, 4398046511104), (32800, 4402341478400, 8796093022208), (0, 128, 17592186044416), (196608, 26388279066624, 35184372088832), (0, 64, 70368744177664), (524288, 70368744177680, 140737488355328), (1048576, 140737488355328, 281474976710656), (2359296, 316659348799488, 562949953421312), (8388607, 562949953421312, 1024)] (by kernel_rfl) (by kernel_rfl) (by kernel_rfl) ?_
  refine DX.takeW 0 1 (by kernel_rfl) rfl rfl rfl rfl rfl (yw_indexArr (k := 7) rfl Tryz.underlying108 szt_106 rfl rfl (by omega) (by omega)) ?_
  refine DX.take 1 3 (by kernel_rfl) rfl rfl rfl rfl rfl (List.Sublist.refl _) (y_load (i := 0) rfl rfl one_106 rfl rfl) ?_
  refine DX.takeW 2 7 (by kernel_rfl) rfl rfl rfl rfl rfl (yw_move rfl rfl) ?_
  refine DX.takeW 6 71 (by kernel_rfl) rfl rfl rfl rfl rfl (yw_move rfl rfl) ?_
  refine DX.takeW 7 199 (by kernel_rfl) rfl rfl rfl rfl rfl (yw_indexArr (k := 5) rfl Tryz.underlying108 szt_106 rfl rfl (by omega) (by omega)) ?_
  refine DX.take 8 455 (by kernel_rfl) rfl rfl rfl rfl rfl (List.Sublist.refl _) (y_load (i := 0) rfl rfl one_106 rfl rfl) ?_
  refine DX.takeW 9 967 (by kernel_rfl) rfl rfl rfl rfl rfl (yw_bvAnd (a := v.e) (b := v.f) UK.u32 rfl rfl rfl) ?_
  refine DX.takeW 10 1991 (by kernel_rfl) rfl rfl rfl rfl rfl (yw_move rfl rfl) ?_
  refine DX.takeW 11 4039 (by kernel_rfl) rfl rfl rfl rfl rfl (yw_bvNot (a := v.e) UK.u32 rfl rfl) ?_
  refine DX.takeW 12 8135 (by kernel_rfl) rfl rfl rfl rfl rfl (yw_indexArr (k := 6) rfl Tryz.underlying108 szt_106 rfl rfl (by omega) (by omega)) ?_
  refine DX.take 13 16327 (by kernel_rfl) rfl rfl rfl rfl rfl (List.Sublist.refl _) (y_load (i := 0) rfl rfl one_106 rfl rfl) ?_
  refine DX.takeW 14 32711 (by kernel_rfl) rfl rfl rfl rfl rfl (yw_bvAnd (a := ~~~v.e) (b := v.g) UK.u32 rfl rfl rfl) ?_
  refine DX.takeW 15 65479 (by kernel_rfl) rfl rfl rfl rfl rfl (yw_bvXor (a := v.e &&& v.f) (b := (~~~v.e) &&& v.g) UK.u32 rfl rfl rfl) ?_
  refine DX.takeW 17 196551 (by kernel_rfl) rfl rfl rfl rfl rfl (yw_move rfl rfl) ?_
  refine DX.takeW 19 720839 (by kernel_rfl) rfl rfl rfl rfl rfl (yw_move rfl rfl) ?_
  refine DX.takeW 20 1769415 (by kernel_rfl) rfl rfl rfl rfl rfl (yw_indexArr (k := i) rfl Tryz.underlying131 szt_106 rfl rfl (by omega) (by omega)) ?_
  refine DX.take 21 3866567 (by kernel_rfl) rfl rfl rfl rfl rfl (List.Sublist.refl _) (y_load (i := 1) (v := .int .u32 (wi s0)) rfl rfl one_106 rfl (arrW_get hs0)) ?_
  refine DX.step 3 3866575 (by kernel_rfl) rfl rfl rfl (op_buildSlice rfl rfl rfl slb_43 rfl rfl (by intro v hv; simp only [List.mem_cons, List.not_mem_nil, or_false] at hv; rcases hv with rfl | rfl | rfl <;> exact ⟨rfl, (plain_of rfl)⟩) (by decide) fun g2 => (DXs.mk (List.Sublist.cons _ (List.Sublist.refl _)) ?_))
  refine DX.step 4 3866591 (by kernel_rfl) rfl rfl rfl (op_callV (v := .int .u32 (wi (mixW v.e ([6, 11, 25])))) rfl rfl rfl rfl rfl ent_89 (fun w hw => w_mixed v.e ([6, 11, 25]) (Ent.rd (hw.ents _ (List.mem_of_getElem? (i := 0) rfl))) (by decide) (by decide)) (DXs.mk (List.Sublist.cons _ (List.Sublist.refl _)) ?_))
  refine DX.takeW 5 3866623 (by kernel_rfl) rfl rfl rfl rfl rfl (yw_bvAdd (a := v.h) (b := mixW v.e ([6, 11, 25])) UK.u32 rfl rfl rfl) ?_
  refine DX.takeW 16 3932159 (by kernel_rfl) rfl rfl rfl rfl rfl (yw_bvAdd (a := v.h + (mixW v.e ([6, 11, 25]))) (b := (v.e &&& v.f) ^^^ ((~~~v.e) &&& v.g)) UK.u32 rfl rfl rfl) ?_
  refine DX.takeW 18 4194303 (by kernel_rfl) rfl rfl rfl rfl rfl (yw_bvAdd (a := (v.h + (mixW v.e ([6, 11, 25]))) + ((v.e &&& v.f) ^^^ ((~~~v.e) &&& v.g))) (b := k0) UK.u32 rfl rfl rfl) ?_
  refine DX.takeW 22 8388607 (by kernel_rfl) rfl rfl rfl rfl rfl (yw_bvAdd (a := ((v.h + (mixW v.e ([6, 11, 25]))) + ((v.e &&& v.f) ^^^ ((~~~v.e) &&& v.g))) + k0) (b := s0) UK.u32 rfl rfl rfl) ?_
  refine DX.takeW 23 16777215 (by kernel_rfl) rfl rfl rfl rfl rfl (yw_assign rfl rfl) ?_
  refine DX.done (by kernel_rfl) (XX.next (V' := [(0, _), (4, _), (5, _), (8, _), (10, _), (18, _), (19, _)]) ⟨rfl, rfl, rfl, rfl, rfl, rfl, rfl, trivial⟩ ?_)
  refine CX.seq ?_
  refine CX.draw 20 [(0, 256, 1125899906842624), (0, 0, 2251799813685248), (3, 3377699720527872, 4503599627370496), (0, 256, 9007199254740992), (0, 32, 18014398509481984), (16, 18014398509481984, 36028797018963968), (40, 45035996273704960, 72057594037927936), (0, 256, 144115188075855872), (0, 32, 288230376151711744), (256, 288230376151711744, 576460752303423488), (640, 720575940379279360, 1152921504606846976), (1088, 1224979098644774912, 2305843009213693952), (0, 32, 4611686018427387904), (4096, 4611686018427387904, 9223372036854775808), (0, 32, 18446744073709551616), (16384, 18446744073709551616, 36893488147419103232), (40960, 46116860184273879040, 73786976294838206464), (67584, 76092819304051900416, 147573952589676412928), (131076, 147578456189303783424, 295147905179352825856), (524287, 295147905179352825856, 2048)] (by kernel_rfl) (by kernel_rfl) (by kernel_rfl) ?_
  refine DX.takeW 0 1 (by kernel_rfl) rfl rfl rfl rfl rfl (yw_move rfl rfl) ?_
  refine DX.takeW 3 9 (by kernel_rfl) rfl rfl rfl rfl rfl (yw_move rfl rfl) ?_
  refine DX.takeW 4 25 (by kernel_rfl) rfl rfl rfl rfl rfl (yw_indexArr (k := 1) rfl Tryz.underlying108 szt_106 rfl rfl (by omega) (by omega)) ?_
  refine DX.take 5 57 (by kernel_rfl) rfl rfl rfl rfl rfl (List.Sublist.refl _) (y_load (i := 1) rfl rfl one_106 rfl rfl) ?_
  refine DX.takeW 6 121 (by kernel_rfl) rfl rfl rfl rfl rfl (yw_bvAnd (a := v.a) (b := v.b) UK.u32 rfl rfl rfl) ?_
  refine DX.takeW 7 249 (by kernel_rfl) rfl rfl rfl rfl rfl (yw_move rfl rfl) ?_
  refine DX.takeW 8 505 (by kernel_rfl) rfl rfl rfl rfl rfl (yw_indexArr (k := 2) rfl Tryz.underlying108 szt_106 rfl rfl (by omega) (by omega)) ?_
  refine DX.take 9 1017 (by kernel_rfl) rfl rfl rfl rfl rfl (List.Sublist.refl _) (y_load (i := 1) rfl rfl one_106 rfl rfl) ?_
  refine DX.takeW 10 2041 (by kernel_rfl) rfl rfl rfl rfl rfl (yw_bvAnd (a := v.a) (b := v.c) UK.u32 rfl rfl rfl) ?_
  refine DX.takeW 11 4089 (by kernel_rfl) rfl rfl rfl rfl rfl (yw_bvXor (a := v.a &&& v.b) (b := v.a &&& v.c) UK.u32 rfl rfl rfl) ?_
  refine DX.takeW 12 8185 (by kernel_rfl) rfl rfl rfl rfl rfl (yw_indexArr (k := 1) rfl Tryz.underlying108 szt_106 rfl rfl (by omega) (by omega)) ?_
  refine DX.take 13 16377 (by kernel_rfl) rfl rfl rfl rfl rfl (List.Sublist.refl _) (y_load (i := 1) rfl rfl one_106 rfl rfl) ?_
  refine DX.takeW 14 32761 (by kernel_rfl) rfl rfl rfl rfl rfl (yw_indexArr (k := 2) rfl Tryz.underlying108 szt_106 rfl rfl (by omega) (by omega)) ?_
  refine DX.take 15 65529 (by kernel_rfl) rfl rfl rfl rfl rfl (List.Sublist.refl _) (y_load (i := 1) rfl rfl one_106 rfl rfl) ?_
  refine DX.takeW 16 131065 (by kernel_rfl) rfl rfl rfl rfl rfl (yw_bvAnd (a := v.b) (b := v.c) UK.u32 rfl rfl rfl) ?_
  refine DX.takeW 17 262137 (by kernel_rfl) rfl rfl rfl rfl rfl (yw_bvXor (a := (v.a &&& v.b) ^^^ (v.a &&& v.c)) (b := v.b &&& v.c) UK.u32 rfl rfl rfl) ?_
  refine DX.step 1 262139 (by kernel_rfl) rfl rfl rfl (op_buildSlice rfl rfl rfl slb_43 rfl rfl (by intro v hv; simp only [List.mem_cons, List.not_mem_nil, or_false] at hv; rcases hv with rfl | rfl | rfl <;> exact ⟨rfl, (plain_of rfl)⟩) (by decide) fun g4 => (DXs.mk (List.Sublist.cons _ (List.Sublist.refl _)) ?_))
  refine DX.step 2 262143 (by kernel_rfl) rfl rfl rfl (op_callV (v := .int .u32 (wi (mixW v.a ([2, 13, 22])))) rfl rfl rfl rfl rfl ent_89 (fun w hw => w_mixed v.a ([2, 13, 22]) (Ent.rd (hw.ents _ (List.mem_of_getElem? (i := 0) rfl))) (by decide) (by decide)) (DXs.mk (List.Sublist.cons _ (List.Sublist.refl _)) ?_))
  refine DX.takeW 18 524287 (by kernel_rfl) rfl rfl rfl rfl rfl (yw_bvAdd (a := mixW v.a ([2, 13, 22])) (b := ((v.a &&& v.b) ^^^ (v.a &&& v.c)) ^^^ (v.b &&& v.c)) UK.u32 rfl rfl rfl) ?_
  refine DX.takeW 19 1048575 (by kernel_rfl) rfl rfl rfl rfl rfl (yw_assign rfl rfl) ?_
  refine DX.done (by kernel_rfl) (XX.next (V' := [(0, _), (4, _), (5, _), (10, _), (11, _), (18, _), (19, _)]) ⟨rfl, rfl, rfl, rfl, rfl, rfl, rfl, trivial⟩ ?_)
  refine CX.seq ?_
  refine CX.draw 2 [(0, 32, 590295810358705651712), (0, 32, 1180591620717411303424), (3, 1770887431076116955136, 2361183241434822606848)] (by kernel_rfl) (by kernel_rfl) (by kernel_rfl) ?_
  refine DX.takeW 0 1 (by kernel_rfl) rfl rfl rfl rfl rfl (yw_arrFrom (k := 1) rfl Tryz.underlying108 szt_106 rfl rfl (by omega) (by omega)) ?_
  refine DX.takeW 1 3 (by kernel_rfl) rfl rfl rfl rfl rfl (yw_arrTo (k := 7) rfl Tryz.underlying108 szt_106 rfl rfl (by omega) (by omega)) ?_
  refine DX.stepT 2 7 (by kernel_rfl) rfl rfl rfl rfl (op_copyBlk (i := 2) (m := 7) (arrW [v.a, v.a, v.b, v.c, v.d, v.e, v.f, v.g]) rfl rfl rfl slt_125 rfl rfl rfl rfl (Nat.le_of_ble_eq_true rfl) (Nat.le_of_ble_eq_true rfl) (arrW_one _) rfl ?_)
  refine DX.done (by kernel_rfl) (XX.next (V' := [(0, _), (4, _), (5, _), (10, _), (11, _), (18, _), (19, _)]) ⟨rfl, rfl, rfl, rfl, rfl, rfl, rfl, trivial⟩ ?_)
  refine CX.region ?_
  refine RX.cons rfl rfl (op_w (yw_move rfl rfl) rfl rfl ?_)
  refine RX.cons rfl rfl (op_w (yw_move rfl rfl) rfl rfl ?_)
  refine RX.cons rfl rfl (op_w (yw_bvAdd (a := (((v.h + (mixW v.e ([6, 11, 25]))) + ((v.e &&& v.f) ^^^ ((~~~v.e) &&& v.g))) + k0) + s0) (b := (mixW v.a ([2, 13, 22])) + (((v.a &&& v.b) ^^^ (v.a &&& v.c)) ^^^ (v.b &&& v.c))) UK.u32 rfl rfl rfl) rfl rfl ?_)
  refine RX.cons rfl rfl (op_w (yw_indexArr (k := 4) rfl Tryz.underlying108 szt_106 rfl rfl (by omega) (by omega)) rfl rfl ?_)
  refine RX.cons rfl rfl (op_yld (y_load (i := 2) rfl rfl one_106 rfl rfl) rfl rfl ?_)
  refine RX.cons rfl rfl (op_w (yw_move rfl rfl) rfl rfl ?_)
  refine RX.cons rfl rfl (op_w (yw_bvAdd (a := v.d) (b := (((v.h + (mixW v.e ([6, 11, 25]))) + ((v.e &&& v.f) ^^^ ((~~~v.e) &&& v.g))) + k0) + s0) UK.u32 rfl rfl rfl) rfl rfl ?_)
  refine RX.cons rfl rfl (op_w (yw_indexArr (k := 0) rfl Tryz.underlying108 szt_106 rfl rfl (by omega) (by omega)) rfl rfl ?_)
  refine RX.cons rfl rfl (op_store1 (i := 2) (cs' := #[.int .u32 (wi (((((v.h + (mixW v.e ([6, 11, 25]))) + ((v.e &&& v.f) ^^^ ((~~~v.e) &&& v.g))) + k0) + s0) + ((mixW v.a ([2, 13, 22])) + (((v.a &&& v.b) ^^^ (v.a &&& v.c)) ^^^ (v.b &&& v.c))))), .int .u32 (wi v.a), .int .u32 (wi v.b), .int .u32 (wi v.c), .int .u32 (wi v.d), .int .u32 (wi v.e), .int .u32 (wi v.f), .int .u32 (wi v.g)]) rfl rfl rfl rfl szt_106 rfl rfl rfl rfl ?_)
  refine RX.cons rfl rfl (op_w (yw_indexArr (k := 4) rfl Tryz.underlying108 szt_106 rfl rfl (by omega) (by omega)) rfl rfl ?_)
  refine RX.cons rfl rfl (op_store1 (i := 2) (cs' := #[.int .u32 (wi (((((v.h + (mixW v.e ([6, 11, 25]))) + ((v.e &&& v.f) ^^^ ((~~~v.e) &&& v.g))) + k0) + s0) + ((mixW v.a ([2, 13, 22])) + (((v.a &&& v.b) ^^^ (v.a &&& v.c)) ^^^ (v.b &&& v.c))))), .int .u32 (wi v.a), .int .u32 (wi v.b), .int .u32 (wi v.c), .int .u32 (wi (v.d + ((((v.h + (mixW v.e ([6, 11, 25]))) + ((v.e &&& v.f) ^^^ ((~~~v.e) &&& v.g))) + k0) + s0))), .int .u32 (wi v.e), .int .u32 (wi v.f), .int .u32 (wi v.g)]) rfl rfl rfl rfl szt_106 rfl rfl rfl rfl ?_)
  refine RX.nil (XX.inBlock (V' := [(0, _), (4, _), (5, _), (18, _), (19, _)]) ⟨rfl, rfl, rfl, rfl, rfl, trivial⟩ ?_)
  refine XX.next (V' := [(0, _), (4, _), (5, _), (18, _), (19, _)]) ⟨rfl, rfl, rfl, rfl, rfl, trivial⟩ ?_
  refine CX.region ?_
  refine RX.cons rfl rfl (op_w (yw_add rfl rfl rfl (by omega) (by omega)) rfl rfl ?_)
  refine RX.cons rfl rfl (op_w (yw_move rfl rfl) rfl rfl ?_)
  refine RX.nil (XX.againP ([.row (some ⟨g4, 0, none⟩) 3 3 1 (List.map Value.cells [.int .i64 2, .int .i64 13, .int .i64 22]), .row (some ⟨g2, 0, none⟩) 3 3 1 (List.map Value.cells [.int .i64 6, .int .i64 11, .int .i64 25])]) (i + 1, v.round k0 s0) (by dsimp only; omega) ⟨by dsimp only; omega, by dsimp only; rw [take_succ (zip_get hk0 hs0), rounds_snoc, ← hv]⟩ ⟨rfl, rfl, rfl, rfl, rfl, trivial⟩ ((perm_pick 2 rfl).trans (List.Perm.cons _ ((perm_pick 2 rfl).trans (List.Perm.cons _ ((perm_pick 2 rfl).trans (List.Perm.cons _ (List.Perm.refl _))))))))
 ·have hv' : v = h.rounds (roundsK.zip (schedW bs)) := by rw [hv, List.take_of_length_le]; simp [sched_length]; omega
  refine CX.exit ?_
  refine XX.then_exit ?_
  refine XX.then_exit ?_
  refine XX.block_exit ?_
  refine XX.next (V' := [(0, _), (5, _)]) ⟨rfl, rfl, trivial⟩ ?_
  refine CX.seq ?_
  refine CX.region ?_
  refine RX.cons rfl rfl (op_w (yw_move rfl rfl) rfl rfl ?_)
  refine RX.nil (XX.next (V' := [(0, _), (5, _), (82, _)]) ⟨rfl, rfl, rfl, trivial⟩ ?_)
  refine CX.block ?_
  refine CX.loop (σ := Nat × List W) (fun z => [(0, .pointer (some ⟨gh, 0, none⟩)), (5, .pointer (some ⟨gv, 0, none⟩)), (82, .int .i64 ((z.1 : Nat) : Int))]) (fun z => [.blk gv (.cells (arrW (Oct.list v)) 108 (0, 0)), .blk gs (.cells (arrW (schedW bs)) 131 (0, 0)), .blk gh (.cells (arrW z.2) 108 (0, 0))]) (fun z => z.1 ≤ 8 ∧ z.2 = addTo h.list v.list z.1) (fun z => 8 - z.1) (0, h.list) ⟨Nat.zero_le _, rfl⟩ ⟨rfl, rfl, rfl, trivial⟩ rfl (fun z hI => ?_)
  obtain ⟨j, hs⟩ := z
  dsimp only at hI ⊢
  obtain ⟨hj, hhs⟩ := hI
  have hhl : hs.length = 8 := by rw [hhs, addTo_length (h := h.list) (v := v.list) rfl]; rfl
  refine CX.seq ?_
  refine CX.region ?_
  refine RX.cons rfl rfl (op_w (yw_lss rfl rfl rfl) rfl rfl ?_)
  refine RX.nil (XX.next (V' := [(0, _), (5, _), (82, _), (83, _)]) ⟨rfl, rfl, rfl, rfl, trivial⟩ ?_)
  refine CX.seq ?_
  refine CX.condD (p := ((j : Nat) : Int) < 8) rfl (fun c83 => ?_) (fun c83 => ?_)
  ·obtain ⟨x, hx⟩ := get_some (l := h.list) (k := j) (by show j < 8; omega)
   obtain ⟨y, hy⟩ := get_some (l := v.list) (k := j) (by show j < 8; omega)
   have hx' : hs[j]? = some x := by rw [hhs]; exact addTo_get (h := h.list) (v := v.list) rfl hx
   refine CX.skip (XX.next (V' := [(0, _), (5, _), (82, _)]) ⟨rfl, rfl, rfl, trivial⟩ ?_)
   refine CX.seq ?_
   refine CX.block ?_
   refine CX.seq ?_
   refine CX.region ?_
   refine RX.cons rfl rfl (op_w (yw_move rfl rfl) rfl rfl ?_)
   refine RX.cons rfl rfl (op_w (yw_assign rfl rfl) rfl rfl ?_)
   refine RX.nil (XX.next (V' := [(0, _), (5, _), (12, _), (82, _)]) ⟨rfl, rfl, rfl, rfl, trivial⟩ ?_)
   refine CX.draw 11 [(0, 1, 38685626227668133590597632), (0, 4096, 77371252455336267181195264), (1, 38685626227668133590597632, 154742504910672534362390528), (6, 232113757366008801543585792, 309485009821345068724781056), (8, 309485009821345068724781056, 618970019642690137449562112), (0, 4096, 1237940039285380274899124224), (32, 1237940039285380274899124256, 2475880078570760549798248448), (64, 2475880078570760549798248448, 4951760157141521099596496896), (144, 5570730176784211237046059008, 9903520314283042199192993792), (1, 38685626227668133590597632, 19807040628566084398385987584), (1023, 19884411881021420665567182848, 39614081257132168796771975168), (1535, 49517601571415210995964968960, 0)] (by kernel_rfl) (by kernel_rfl) (by kernel_rfl) ?_
   refine DX.takeW 0 1 (by kernel_rfl) rfl rfl rfl rfl rfl (yw_move rfl rfl) ?_
   refine DX.takeW 1 3 (by kernel_rfl) rfl rfl rfl rfl rfl (yw_move rfl rfl) ?_
   refine DX.takeW 2 7 (by kernel_rfl) rfl rfl rfl rfl rfl (yw_nilCheck rfl rfl) ?_
   refine DX.takeW 3 15 (by kernel_rfl) rfl rfl rfl rfl rfl (yw_indexArr (k := j) rfl Tryz.underlying108 szt_106 rfl rfl (by omega) (by omega)) ?_
   refine DX.take 4 31 (by kernel_rfl) rfl rfl rfl rfl rfl (List.Sublist.refl _) (y_load (i := 2) (v := .int .u32 (wi x)) rfl rfl one_106 rfl (arrW_get hx')) ?_
   refine DX.takeW 5 63 (by kernel_rfl) rfl rfl rfl rfl rfl (yw_move rfl rfl) ?_
   refine DX.takeW 6 127 (by kernel_rfl) rfl rfl rfl rfl rfl (yw_indexArr (k := j) rfl Tryz.underlying108 szt_106 rfl rfl (by omega) (by omega)) ?_
   refine DX.take 7 255 (by kernel_rfl) rfl rfl rfl rfl rfl (List.Sublist.refl _) (y_load (i := 0) (v := .int .u32 (wi y)) rfl rfl one_106 rfl (arrW_get hy)) ?_
   refine DX.takeW 8 511 (by kernel_rfl) rfl rfl rfl rfl rfl (yw_bvAdd (a := x) (b := y) UK.u32 rfl rfl rfl) ?_
   refine DX.takeW 9 1023 (by kernel_rfl) rfl rfl rfl rfl rfl (yw_nilCheck rfl rfl) ?_
   refine DX.takeW 10 2047 (by kernel_rfl) rfl rfl rfl rfl rfl (yw_indexArr (k := j) rfl Tryz.underlying108 szt_106 rfl rfl (by omega) (by omega)) ?_
   refine DX.stepT 11 4095 (by kernel_rfl) rfl rfl rfl rfl (op_store1 (i := 2) (cs' := arrW (hs.set j (x + y))) rfl rfl rfl rfl szt_106 rfl rfl (arrW_lt (by omega)) (arrW_set _) ?_)
   refine DX.done (by kernel_rfl) (XX.inBlock (V' := [(0, _), (5, _), (82, _)]) ⟨rfl, rfl, rfl, trivial⟩ ?_)
   refine XX.next (V' := [(0, _), (5, _), (82, _)]) ⟨rfl, rfl, rfl, trivial⟩ ?_
   refine CX.region ?_
   refine RX.cons rfl rfl (op_w (yw_add rfl rfl rfl (by omega) (by omega)) rfl rfl ?_)
   refine RX.cons rfl rfl (op_w (yw_move rfl rfl) rfl rfl ?_)
   refine RX.nil (XX.againP ([]) (j + 1, hs.set j (x + y)) (by dsimp only; omega) ⟨by dsimp only; omega, by dsimp only; rw [hhs, addTo_succ (h := h.list) (v := v.list) rfl hx hy]⟩ ⟨rfl, rfl, rfl, trivial⟩ ((perm_pick 0 rfl).trans (List.Perm.cons _ ((perm_pick 0 rfl).trans (List.Perm.cons _ ((perm_pick 0 rfl).trans (List.Perm.cons _ (List.Perm.refl _))))))))
  ·have hs8 : hs = (h.block bs).list := by rw [hhs, show j = 8 from by omega, addTo_done, hv']; rfl
   refine CX.exit ?_
   refine XX.then_exit ?_
   refine XX.then_exit ?_
   refine XX.block_exit ?_
   exact end_none rfl fun w1 hw => ⟨rfl, by have h9 : SL w [gh] w1 [.blk gh (.cells (arrW hs) 108 (0, 0))] := hw.pick ((perm_pick 2 rfl).trans (List.Perm.cons _ (List.Perm.refl _))); rw [hs8] at h9; exact h9⟩

set_option maxRecDepth 100000 in
theorem w_digest {w : World} (h : Oct) :
    Calls Tryz.prog 72 #[.agg (arrW (Oct.list h))] w (fun e w' => e = .returned (.string (⟨h.bytes.toArray⟩)) ∧ SL w [] w' []) := by
 refine calls_of_CX (O := []) (L := []) (args := [.agg (arrW (Oct.list h))]) Tryz.func72 rfl (by simp [Tryz.ntmps72]) (SL.refl w) ?_
 refine CX.sub (V' := [(0, .agg (arrW (Oct.list h)))]) ⟨rfl, trivial⟩ ?_
 refine CX.seq ?_
 refine CX.region ?_
 refine RX.cons rfl rfl (op_box rfl rfl rfl rfl fun gw => ?_)
 refine RX.cons rfl rfl (op_w (yw_assign rfl rfl) rfl rfl ?_)
 refine RX.nil (XX.next (V' := [(1, _)]) ⟨rfl, trivial⟩ ?_)
 refine CX.seq ?_
 refine CX.region ?_
 refine RX.cons rfl rfl (op_alloc rfl rfl rfl zero_134 fun go => ?_)
 refine RX.know1 0 (q := .blk go (.cells (arrB (List.replicate 32 0)) 134 (0, 0))) rfl rfl ?_
 refine RX.nil (XX.next (V' := [(1, _), (3, _)]) ⟨rfl, rfl, trivial⟩ ?_)
 refine CX.seq ?_
 refine CX.seq ?_
 refine CX.region ?_
 refine RX.cons rfl rfl (op_yld (y_loadA (i := 1) rfl rfl agg_108 rfl rfl) rfl rfl ?_)
 refine RX.cons rfl rfl (op_w (yw_move rfl rfl) rfl rfl ?_)
 refine RX.nil (XX.next (V' := [(3, _), (7, _), (8, _)]) ⟨rfl, rfl, rfl, trivial⟩ ?_)
 refine CX.block ?_
 refine CX.loop (σ := Nat × List UInt8) (fun z => [(3, .pointer (some ⟨go, 0, none⟩)), (7, .agg (arrW (Oct.list h))), (8, .int .i64 ((z.1 : Nat) : Int))]) (fun z => [.blk go (.cells (arrB z.2) 134 (0, 0)), .blk gw (.cells (arrW (Oct.list h)) 108 (0, 0))]) (fun z => z.1 ≤ 8 ∧ z.2.length = 32 ∧ z.2.take (4 * z.1) = (h.list.take z.1).flatMap bytesW) (fun z => 8 - z.1) (0, List.replicate 32 0) ⟨Nat.zero_le _, by simp, rfl⟩ ⟨rfl, rfl, rfl, trivial⟩ rfl (fun z hI => ?_)
 obtain ⟨i, os⟩ := z
 dsimp only at hI ⊢
 obtain ⟨hi, hl, hos⟩ := hI
 refine CX.seq ?_
 refine CX.region ?_
 refine RX.cons rfl rfl (op_w (yw_lss rfl rfl rfl) rfl rfl ?_)
 refine RX.nil (XX.next (V' := [(3, _), (7, _), (8, _), (9, _)]) ⟨rfl, rfl, rfl, rfl, trivial⟩ ?_)
 refine CX.seq ?_
 refine CX.condD (p := ((i : Nat) : Int) < 8) rfl (fun c9 => ?_) (fun c9 => ?_)
 ·obtain ⟨x, hx⟩ := get_some (l := h.list) (k := i) (by show i < 8; omega)
  refine CX.skip (XX.next (V' := [(3, _), (7, _), (8, _)]) ⟨rfl, rfl, rfl, trivial⟩ ?_)
  refine CX.seq ?_
  refine CX.block ?_
  refine CX.seq ?_
  refine CX.region ?_
  refine RX.cons rfl rfl (op_w (yw_move rfl rfl) rfl rfl ?_)
  refine RX.cons rfl rfl (op_w (yw_aggIdx (k := i) (v := .int .u32 (wi x)) rfl Tryz.underlying108 one_106 szt_106 rfl rfl (by omega) (by omega) (arrW_get' hx)) rfl rfl ?_)
  refine RX.cons rfl rfl (op_w (yw_assign rfl rfl) rfl rfl ?_)
  refine RX.cons rfl rfl (op_w (yw_assign rfl rfl) rfl rfl ?_)
  refine RX.nil (XX.next (V' := [(3, _), (4, _), (5, _), (7, _), (8, _)]) ⟨rfl, rfl, rfl, rfl, rfl, trivial⟩ ?_)
  refine CX.seq ?_
  refine CX.region ?_
  refine RX.cons rfl rfl (op_w (yw_move rfl rfl) rfl rfl ?_)
  refine RX.nil (XX.next (V' := [(3, _), (4, _), (5, _), (7, _), (8, _), (12, _)]) ⟨rfl, rfl, rfl, rfl, rfl, rfl, trivial⟩ ?_)
  refine CX.block ?_
  refine CX.loop (σ := Nat × List UInt8) (fun z => [(3, .pointer (some ⟨go, 0, none⟩)), (4, .int .i64 ((i : Nat) : Int)), (5, .int .u32 (wi x)), (7, .agg (arrW (Oct.list h))), (8, .int .i64 ((i : Nat) : Int)), (12, .int .i64 ((z.1 : Nat) : Int))]) (fun z => [.blk go (.cells (arrB z.2) 134 (0, 0)), .blk gw (.cells (arrW (Oct.list h)) 108 (0, 0))]) (fun z => z.1 ≤ 4 ∧ z.2.length = 32 ∧ z.2.take (4 * i + z.1) = (h.list.take i).flatMap bytesW ++ (bytesW x).take z.1) (fun z => 4 - z.1) (0, os) ⟨Nat.zero_le _, hl, by simpa using hos⟩ ⟨rfl, rfl, rfl, rfl, rfl, rfl, trivial⟩ rfl (fun z hI => ?_)
  obtain ⟨k, us⟩ := z
  dsimp only at hI ⊢
  obtain ⟨hk, hul, hus⟩ := hI
  refine CX.seq ?_
  refine CX.region ?_
  refine RX.cons rfl rfl (op_w (yw_lss rfl rfl rfl) rfl rfl ?_)
  refine RX.nil (XX.next (V' := [(3, _), (4, _), (5, _), (7, _), (8, _), (12, _), (13, _)]) ⟨rfl, rfl, rfl, rfl, rfl, rfl, rfl, trivial⟩ ?_)
  refine CX.seq ?_
  refine CX.condD (p := ((k : Nat) : Int) < 4) rfl (fun c13 => ?_) (fun c13 => ?_)
  ·refine CX.skip (XX.next (V' := [(3, _), (4, _), (5, _), (7, _), (8, _), (12, _)]) ⟨rfl, rfl, rfl, rfl, rfl, rfl, trivial⟩ ?_)
   refine CX.seq ?_
   refine CX.block ?_
   refine CX.seq ?_
   refine CX.region ?_
   refine RX.cons rfl rfl (op_w (yw_move rfl rfl) rfl rfl ?_)
   refine RX.cons rfl rfl (op_w (yw_assign rfl rfl) rfl rfl ?_)
   refine RX.nil (XX.next (V' := [(3, _), (4, _), (5, _), (6, _), (7, _), (8, _), (12, _)]) ⟨rfl, rfl, rfl, rfl, rfl, rfl, rfl, trivial⟩ ?_)
   refine CX.region ?_
   refine RX.cons rfl rfl (op_w (yw_move rfl rfl) rfl rfl ?_)
   refine RX.cons rfl rfl (op_w (yw_mul rfl rfl rfl (by omega) (by omega)) rfl rfl ?_)
   refine RX.cons rfl rfl (op_w (yw_move rfl rfl) rfl rfl ?_)
   refine RX.cons rfl rfl (op_w (yw_add rfl rfl rfl (by omega) (by omega)) rfl rfl ?_)
   refine RX.cons rfl rfl (op_w (yw_move rfl rfl) rfl rfl ?_)
   refine RX.cons rfl rfl (op_w (yw_move rfl rfl) rfl rfl ?_)
   refine RX.cons rfl rfl (op_w (yw_mul rfl rfl rfl (by omega) (by omega)) rfl rfl ?_)
   refine RX.cons rfl rfl (op_w (yw_sub rfl rfl rfl (by omega) (by omega)) rfl rfl ?_)
   refine RX.cons rfl rfl (op_w (yw_bvShr (a := x) (24 - 8 * k) UK.u32 rfl rfl rfl (by omega)) rfl rfl ?_)
   refine RX.cons rfl rfl (op_w (yw_bvConv (a := x >>> (24 - 8 * k)) UK.u8 rfl rfl Tryz.underlying106 Tryz.underlying5) rfl rfl ?_)
   refine RX.cons rfl rfl (op_w (yw_indexArr (k := (4 * i + k)) rfl Tryz.underlying134 szt_5 rfl rfl (by omega) (by omega)) rfl rfl ?_)
   refine RX.cons rfl rfl (op_store1 (i := 0) (cs' := arrB (us.set (4 * i + k) (byteOf x k))) rfl rfl rfl rfl szt_5 rfl rfl (arrB_lt (by omega)) (arrB_set _) ?_)
   refine RX.nil (XX.inBlock (V' := [(3, _), (4, _), (5, _), (7, _), (8, _), (12, _)]) ⟨rfl, rfl, rfl, rfl, rfl, rfl, trivial⟩ ?_)
   refine XX.next (V' := [(3, _), (4, _), (5, _), (7, _), (8, _), (12, _)]) ⟨rfl, rfl, rfl, rfl, rfl, rfl, trivial⟩ ?_
   refine CX.region ?_
   refine RX.cons rfl rfl (op_w (yw_add rfl rfl rfl (by omega) (by omega)) rfl rfl ?_)
   refine RX.cons rfl rfl (op_w (yw_move rfl rfl) rfl rfl ?_)
   refine RX.nil (XX.againP ([]) (k + 1, us.set (4 * i + k) (byteOf x k)) (by dsimp only; omega) ⟨by dsimp only; omega, by simp [hul], by dsimp only; rw [← Nat.add_assoc, take_set_snoc (by omega), hus, bytesW_succ (by omega), List.append_assoc]⟩ ⟨rfl, rfl, rfl, rfl, rfl, rfl, trivial⟩ ((perm_pick 0 rfl).trans (List.Perm.cons _ ((perm_pick 0 rfl).trans (List.Perm.cons _ (List.Perm.refl _))))))
  ·refine CX.exit ?_
   refine XX.then_exit ?_
   refine XX.then_exit ?_
   refine XX.block_exit ?_
   refine XX.inBlock (V' := [(3, _), (7, _), (8, _)]) ⟨rfl, rfl, rfl, trivial⟩ ?_
   refine XX.next (V' := [(3, _), (7, _), (8, _)]) ⟨rfl, rfl, rfl, trivial⟩ ?_
   refine CX.region ?_
   refine RX.cons rfl rfl (op_w (yw_add rfl rfl rfl (by omega) (by omega)) rfl rfl ?_)
   refine RX.cons rfl rfl (op_w (yw_move rfl rfl) rfl rfl ?_)
   refine RX.nil (XX.againP ([]) (i + 1, us) (by dsimp only; omega) ⟨by dsimp only; omega, hul, by dsimp only; rw [take_succ hx, List.flatMap_append, show 4 * (i + 1) = 4 * i + k from by omega, hus, show k = 4 from by omega]; simp [bytesW]⟩ ⟨rfl, rfl, rfl, trivial⟩ ((perm_pick 0 rfl).trans (List.Perm.cons _ ((perm_pick 0 rfl).trans (List.Perm.cons _ (List.Perm.refl _))))))
 ·have hos' : os = h.bytes := by rw [show i = 8 from by omega, List.take_of_length_le (by omega)] at hos; exact hos
  refine CX.exit ?_
  refine XX.then_exit ?_
  refine XX.then_exit ?_
  refine XX.block_exit ?_
  refine XX.next (V' := [(3, _)]) ⟨rfl, trivial⟩ ?_
  refine CX.seq ?_
  refine CX.region ?_
  refine RX.cons rfl rfl (op_w (yw_arrAll rfl Tryz.underlying134 szt_5 rfl) rfl rfl ?_)
  refine RX.cons rfl rfl (op_yld (y_bytesRd os rfl rfl Tryz.underlying54 Tryz.underlying5 Tryz.underlying9 (fun w hw => hw.blkRd (i := 0) rfl (arrB_list _)) hl) rfl rfl ?_)
  refine RX.cons rfl rfl (op_w (yw_assign rfl rfl) rfl rfl ?_)
  refine RX.nil (XX.next (V' := [(2, .string (⟨os.toArray⟩))]) ⟨rfl, trivial⟩ ?_)
  refine CX.ret ?_
  exact ret_tmp rfl rfl fun w1 hw => ⟨by rw [hos'], hw.sub (List.nil_sublist _)⟩

end Go.Proofs.YtnadipjlhlbfoaaGreatDoor
namespace Go.Proofs.YtnadipjlhlbfoaaGreatDoor
set_option linter.all false
open Go Go.RowKit

/-- A loop's record. -/
def mkRec (fn : FuncId) (tmps : Array Value) (ps : Array Tmp) (assign body : Code) (Dk : Nat) : Loop := { state := .ready, pending := none, fn, tmps, params := ps, assign, body, defers := Dk }
abbrev RB (l Dk : Nat) (rec : Loop) : List Ent := [.blk l (.loop rec), .blk Dk (.deferred (some []))]

section
variable {P : Program} {w0 : World} {O : List Nat} {n : Nat} {D : List Deferred} {o : Oper} {V : List (Nat × Value)} {L : List Ent} {T : List (Nat × Value) → List Ent → Prop} {Q : Exit → Act → World → Prop}

theorem CX.scope {c : Code} (h : CX P none (Exit.noGoto Q) w0 O n D c V L) : CX P none Q w0 O n D (.scope c) V L :=
  fun a w ha hw => wpIn_wide.2 (wp_scope_straight (wpIn_wide.1 (h a w ha hw)))
theorem XX.scope_normal (h : XX Q w0 O n D .normal V L) : XX (Exit.noGoto Q) w0 O n D .normal V L := h
theorem XX.scope_ret (h : XX Q w0 O n D .ret V L) : XX (Exit.noGoto Q) w0 O n D .ret V L := h

/-- A call of yield. -/
theorem op_yield {f : Operand} {xs : Array Operand} {ts : Array TypeId} {l d : Nat} {vs : List Value} {σ : Type} {LL : σ → List Ent} {post : σ → Prop} (M R : List Ent)
    (ho : o.op = .call { callee := .value f, args := xs, argTypes := ts }) (hd : o.dst = some d) (hdn : Nat.blt d n = true) (hf : ev V f = some (.func (.yield l) #[] #[])) (hx : evs V xs.toList = some vs) (hL : L.Perm (M ++ R))
    (hc : ∀ w, SL w0 O w (M ++ R) → SL w (M.flatMap Ent.blocks) w M → ∃ f tmps asg body, (Instr.yield l vs.toArray).run P w = .ok (.round l f tmps asg body) w ∧
      RoundIn Fence.wide 0 P l f tmps asg body w fun e w' => ∃ x, post x ∧ e = .returned (.bool true) ∧ SL w (M.flatMap Ent.blocks) w' (LL x))
    (hT : ∀ x, post x → T ((d, .bool true) :: V) (LL x ++ R)) : OpS P w0 O n D o V L T := by
  intro a w ha hw
  have hw' := hw.perm hL
  obtain ⟨f', tmps, asg, body, hy, hr⟩ := hc w hw' (hw'.restart (List.Perm.refl _))
  have h1 := ha.evals hx
  have e1 : xs.map a.eval = vs.toArray := Array.ext' (by simpa using h1)
  have hrun : (execOp a.eval o).run P w = .ok (.round l f' tmps asg body) w := by
    simp only [execOp, ho, resolve, ha.eval hf, Deferred.ofValue, e1]
    simp only [Sem.run_bind, Sem.run_pure, Result.andThen_ok, invoke]
    simpa using hy
  unfold Does
  rw [hrun, hd]
  refine RoundIn.mono hr ?_
  rintro e w'' ⟨x, hp, he, hs⟩
  exact ⟨_, he, _, _, hT x hp, ha.put hdn _, hw'.call rfl hs⟩

theorem putObj_SL {w : World} (h : SL w0 O w L) {i g : Nat} {ob : Obj} (hL : L[i]? = some (.blk g ob)) (o' : Obj) : SL w0 O (w.putObj g o') (L.set i (.blk g o')) := by
  have hg : w.heap[g]? = some ob := h.ents _ (List.mem_of_getElem? hL)
  exact h.setB hL o' rfl rfl rfl (by simp [World.putObj]) (World.putObj_heap_same (Array.getElem?_eq_some_iff.1 hg).1) (fun k hk => World.putObj_heap_other hk)

/-- One round, out of the walks of the assignment and of the body. -/
theorem round_of_CX {w : World} {l Dk p : Nat} {rec : Loop} {v : Value} {M : List Ent} {V0 : List (Nat × Value)} {σ τ : Type} (V1 : σ → List (Nat × Value)) (L1 : σ → List Ent) (I1 : σ → Prop) {LL : τ → List Ent} {post : τ → Prop}
    (hst : rec.state = .ready) (hpe : rec.pending = none) (hps : rec.params = #[p]) (hV : Holds n [] { tmps := rec.tmps.setIfInBounds p v, defers := [] } V0)
    (hA : CX P (some l) (Met V1 (fun x => RB l Dk rec ++ L1 x) I1 w O n []) w O n [] rec.assign V0 (RB l Dk rec ++ M))
    (hB : ∀ x, I1 x → CX P (some l) (Met (fun _ => []) (fun y => RB l Dk { rec with state := .busy } ++ LL y) post w O n []) w O n [] rec.body (V1 x) (RB l Dk { rec with state := .busy } ++ L1 x))
    (hw : SL w O w (RB l Dk rec ++ M)) :
    ∃ f tmps asg body, (Instr.yield l #[v]).run P w = .ok (.round l f tmps asg body) w ∧
      RoundIn Fence.wide 0 P l f tmps asg body w fun e w' => ∃ y, post y ∧ e = .returned (.bool true) ∧ SL w O w' (RB l Dk rec ++ LL y) := by
  have hl : w.heap[l]? = some (.loop rec) := hw.ents (.blk l (.loop rec)) (by simp)
  have hy := run_yield (P := P) (args := #[v]) hl (by simp [hps])
  have e : (rec.params.zip #[v]).foldl (fun tmps (t, a) => tmps.setIfInBounds t a) rec.tmps = rec.tmps.setIfInBounds p v := by simp [hps]
  rw [e] at hy
  refine ⟨_, _, _, _, hy, roundIn_of_wpIn (F := Fence.wide) trivial ?_⟩
  refine wpIn_mono (hA _ w hV hw) ?_
  rintro e a1 w1 ⟨rfl, x, hI, ha1, hw1⟩
  have hl1 : w1.heap[l]? = some (.loop rec) := hw1.ents (.blk l (.loop rec)) (by simp)
  refine ⟨_, run_beginRound hl1 hst, ?_⟩
  have hw2 : SL w O (w1.putObj l (.loop { rec with state := .busy })) (RB l Dk { rec with state := .busy } ++ L1 x) := putObj_SL (i := 0) hw1 rfl _
  refine wpIn_mono (hB x hI a1 _ ha1 hw2) ?_
  rintro e a3 w3 ⟨rfl, y, hp, _, hw3⟩
  have hl3 : w3.heap[l]? = some (.loop { rec with state := .busy }) := hw3.ents (.blk l (.loop { rec with state := .busy })) (by simp)
  have hr3 := run_endRound (P := P) none hl3
  have e3 : ({ ({ rec with state := .busy } : Loop) with state := if (none : Option Code).isNone then .ready else .done, pending := none } : Loop) = rec := by
    cases rec; simp at hst hpe; simp [hst, hpe]
  rw [e3] at hr3
  exact ⟨_, _, hr3, y, hp, rfl, putObj_SL (i := 0) hw3 rfl _⟩

theorem CX.rangeFunc {g : Operand} {ps : Array Tmp} {asg body : Code} {gf : Nat} {cap : Array Value} {σ : Type} {LL : σ → List Ent} {post : σ → Prop} (M R : List Ent) (hL : L.Perm (M ++ R)) (hg : ev V g = some (.func (.func gf) #[] cap))
    (ent : ∀ args w, (callFunc gf args).run P w = .ok (.enter gf args) w)
    (hc : ∀ (l Dk fn : Nat) (a : Act) (w : World), Holds n D a V → SL w0 O w (RB l Dk (mkRec fn a.tmps ps asg body Dk) ++ (M ++ R)) → SL w ((RB l Dk (mkRec fn a.tmps ps asg body Dk) ++ M).flatMap Ent.blocks) w (RB l Dk (mkRec fn a.tmps ps asg body Dk) ++ M) →
      Calls P gf (#[.func (.yield l) #[] #[]] ++ cap) w fun e w' => ∃ x, post x ∧ (∃ v, e = .returned v) ∧ SL w ((RB l Dk (mkRec fn a.tmps ps asg body Dk) ++ M).flatMap Ent.blocks) w' (RB l Dk (mkRec fn a.tmps ps asg body Dk) ++ LL x))
    (hT : ∀ x l Dk ob, post x → XX Q w0 O n ({ target := .collected Dk, args := #[] } :: D) .normal V (.blk l ob :: .blk Dk (.deferred (some [])) :: (LL x ++ R))) :
    CX P none Q w0 O n D (.rangeFunc g ps asg body) V L := by
  intro a w ha hw
  refine wpIn_rangeFunc (F := FW none) fun fn _ => ?_
  obtain ⟨W1, hW1⟩ : ∃ W1, (w.alloc (.deferred (some []))).alloc (.loop (mkRec fn a.tmps ps asg body w.heap.size)) = W1 := ⟨_, rfl⟩
  have hs1 : SL w0 O W1 (RB (w.heap.size + 1) w.heap.size (mkRec fn a.tmps ps asg body w.heap.size) ++ (M ++ R)) := by
    have := ((hw.perm hL).alloc (.deferred (some []))).alloc (.loop (mkRec fn a.tmps ps asg body w.heap.size))
    rw [World.size_alloc, hW1] at this
    exact this
  refine ⟨w.heap.size + 1, [{ target := .collected w.heap.size, args := #[] }], W1, { target := .fn (.func gf) cap, args := #[.func (.yield (w.heap.size + 1)) #[] #[]] }, W1, gf,
    #[.func (.yield (w.heap.size + 1)) #[] #[]] ++ cap, W1, ?_, ?_, ?_, ?_, ?_, ?_⟩
  · rw [← hW1]; exact run_enterLoop_outer _ _ _ _ _
  · simp only [resolve, ha.eval hg]
    simp [Deferred.ofValue, Act.eval]
  · intro f' _; trivial
  · simp [invoke, ent]
  · intro hh; simp [Fence.wide] at hh
  · have hr := hc (w.heap.size + 1) w.heap.size fn a W1 ha hs1 (hs1.restart (by rw [List.append_assoc]))
    refine CallsIn.mono (callsIn_wide.2 hr) ?_
    rintro e w' ⟨x, hp, ⟨v, rfl⟩, hs⟩
    have hs' : SL w0 O w' ((RB (w.heap.size + 1) w.heap.size (mkRec fn a.tmps ps asg body w.heap.size) ++ LL x) ++ R) := SL.call (M := RB (w.heap.size + 1) w.heap.size (mkRec fn a.tmps ps asg body w.heap.size) ++ M) (by rw [List.append_assoc]; exact hs1) rfl hs
    have hl : w'.heap[w.heap.size + 1]? = some (.loop (mkRec fn a.tmps ps asg body w.heap.size)) := hs'.ents (.blk (w.heap.size + 1) (.loop _)) (by simp)
    have hend := run_endLoop (P := P) hl (by simp [mkRec])
    refine ⟨none, _, hend, ?_⟩
    exact hT x (w.heap.size + 1) w.heap.size _ hp _ _ ⟨by rw [← ha.defers]; rfl, ha.size, ha.at_⟩ (putObj_SL (i := 0) hs' rfl _)
end

/-! ### The end of a function that holds a range -/
section
variable {P : Program} {w0 : World} {O : List Nat} {L : List Ent} {fn : Func} {R : Ending → World → Prop} {n : Nat} {V : List (Nat × Value)}

theorem calls_of_CXM {f : FuncId} {c : Code} {args : List Value} (hf : P.funcs[f]? = some fn) (hb : fn.body = some c) (hn : args.length ≤ fn.ntmps) (hs : SL w0 O w0 L)
    (h : CX P none (bodyPostM Fence.wide 0 P fn R) w0 O fn.ntmps [] c (initV 0 args) L) : Calls P f args.toArray w0 R := by
  refine callsIn_wide.1 (callsIn_of_wp_marks (F := Fence.wide) (n := 0) hf hb trivial ?_ rfl)
  have := h _ w0 (Holds.init hn) hs
  simpa [FW_wide] using this

/-- A result of one cell lies in a block; the rounds' block is shut. -/
theorem ret_cellM {t g i Dk k : Nat} {tt : TypeId} {v : Value} {te : TypeId} {fr : Nat × Nat} (hr : fn.results = #[.cell t tt]) (hv : lk V t = some (.pointer (some ⟨g, 0, none⟩))) (h1 : One P tt) (hD : L[k]? = some (.blk Dk (.deferred (some [])))) (hL : (L.set k (.blk Dk (.deferred none)))[i]? = some (.blk g (.cells #[v] te fr)))
    (h : ∀ w, SL w0 O w (L.set k (.blk Dk (.deferred none))) → R (.returned v) w) : XX (bodyPostM Fence.wide 0 P fn R) w0 O n [{ target := .collected Dk, args := #[] }] .ret V L := by
  intro a w ha hw
  have hp := ha.at_ _ _ hv
  have hDk : w.heap[Dk]? = some (.deferred (some [])) := hw.ents _ (List.mem_of_getElem? hD)
  have hw' := putObj_SL hw hD (.deferred none)
  have hg : (w.putObj Dk (.deferred none)).heap[g]? = some (.cells #[v] te fr) := hw'.ents _ (List.mem_of_getElem? hL)
  have hc : (w.putObj Dk (.deferred none)).cell? ⟨g, 0, none⟩ = some v := by rw [cell_of_row _ g 0 #[v] te fr hg]; rfl
  show LeavesInM Fence.wide 0 P fn a.tmps R a.defers .returning w
  rw [ha.defers]
  refine ⟨by simp, .inl ⟨Dk, _, rfl, run_takeDeferred hDk, ?_⟩⟩
  refine ⟨v, ?_, h _ hw'⟩
  simp [results, hr, hp, asAddr, run_load_one h1 hc]
end
end Go.Proofs.YtnadipjlhlbfoaaGreatDoor
namespace Go.Proofs.YtnadipjlhlbfoaaGreatDoor
set_option linter.all false
open Go Go.RowKit
theorem perm_nil {α : Type} (l : List α) : l.Perm (l ++ []) := by rw [List.append_nil]
section
variable {P : Program} {w0 : World} {O : List Nat} {n : Nat} {D : List Deferred} {o : Oper} {V : List (Nat × Value)} {L : List Ent} {T : List (Nat × Value) → List Ent → Prop} {Q : Exit → Act → World → Prop}
/-- A round takes the loop from state s to a state s' with Rl s x s'; outside the loop's blocks Ob the world is still the world wb in which the iterator was called. -/
def YieldG (P : Program) (wb : World) (Ob : List Nat) (l Dk : Nat) (rec : Loop) {σ : Type} (St : σ → List Ent) (Rl : σ → List Value → σ → Prop) (ok : List Value → Prop) : Prop :=
  ∀ (s : σ) (x : List Value) (w : World), ok x → (∀ k, k < wb.heap.size → k ∉ Ob → w.heap[k]? = wb.heap[k]?) → SL w ((RB l Dk rec ++ St s).flatMap Ent.blocks) w (RB l Dk rec ++ St s) →
    ∃ f tmps asg body, (Instr.yield l x.toArray).run P w = .ok (.round l f tmps asg body) w ∧ RoundIn Fence.wide 0 P l f tmps asg body w fun e w' => ∃ s', Rl s x s' ∧ e = .returned (.bool true) ∧ SL w ((RB l Dk rec ++ St s).flatMap Ent.blocks) w' (RB l Dk rec ++ St s')
/-- .. what may be handed over hangs on the state. -/
def YieldS (P : Program) (wb : World) (Ob : List Nat) (l Dk : Nat) (rec : Loop) {σ : Type} (St : σ → List Ent) (Rl : σ → List Value → σ → Prop) (ok : σ → List Value → Prop) : Prop :=
  ∀ (s : σ) (x : List Value) (w : World), ok s x → (∀ k, k < wb.heap.size → k ∉ Ob → w.heap[k]? = wb.heap[k]?) → SL w ((RB l Dk rec ++ St s).flatMap Ent.blocks) w (RB l Dk rec ++ St s) →
    ∃ f tmps asg body, (Instr.yield l x.toArray).run P w = .ok (.round l f tmps asg body) w ∧ RoundIn Fence.wide 0 P l f tmps asg body w fun e w' => ∃ s', Rl s x s' ∧ e = .returned (.bool true) ∧ SL w ((RB l Dk rec ++ St s).flatMap Ent.blocks) w' (RB l Dk rec ++ St s')
/-- The rounds over a list of items. -/
inductive Steps {σ : Type} (Rl : σ → List Value → σ → Prop) : σ → List (List Value) → σ → Prop
  | nil (s : σ) : Steps Rl s [] s
  | snoc {s s' s'' : σ} {xs : List (List Value)} {x : List Value} : Steps Rl s xs s' → Rl s' x s'' → Steps Rl s (xs ++ [x]) s''
theorem op_yieldG {f : Operand} {xs : Array Operand} {ts : Array TypeId} {l Dk d : Nat} {vs : List Value} {rec : Loop} {σ : Type} {St : σ → List Ent} {Rl : σ → List Value → σ → Prop} {ok : List Value → Prop} (s : σ) (hy : YieldG P w0 O l Dk rec St Rl ok)
    (ho : o.op = .call { callee := .value f, args := xs, argTypes := ts }) (hd : o.dst = some d) (hdn : Nat.blt d n = true) (hf : ev V f = some (.func (.yield l) #[] #[])) (hx : evs V xs.toList = some vs) (hok : ok vs) (hL : L = RB l Dk rec ++ St s)
    (hT : ∀ s', Rl s vs s' → T ((d, .bool true) :: V) (RB l Dk rec ++ St s')) : OpS P w0 O n D o V L T := by
  subst hL
  refine op_yield (σ := σ) (LL := fun s' => RB l Dk rec ++ St s') (post := fun s' => Rl s vs s') (RB l Dk rec ++ St s) [] ho hd hdn hf hx (by rw [List.append_nil]) (fun w hw hs => ?_) (fun s' h => ?_)
  · obtain ⟨f', tmps, asg, body, h1, h2⟩ := hy s vs w hok hw.same hs
    exact ⟨f', tmps, asg, body, h1, h2.mono fun e w' ⟨s', a, b, c⟩ => ⟨s', a, b, c⟩⟩
  · rw [List.append_nil]; exact hT s' h
/-- .. of an iterator that has blocks of its own. -/
theorem op_yieldGR {f : Operand} {xs : Array Operand} {ts : Array TypeId} {l Dk d : Nat} {vs : List Value} {rec : Loop} {σ : Type} {St : σ → List Ent} {Rl : σ → List Value → σ → Prop} {ok : σ → List Value → Prop} (s : σ) (R : List Ent) (hy : YieldS P w0 O l Dk rec St Rl ok)
    (ho : o.op = .call { callee := .value f, args := xs, argTypes := ts }) (hd : o.dst = some d) (hdn : Nat.blt d n = true) (hf : ev V f = some (.func (.yield l) #[] #[])) (hx : evs V xs.toList = some vs) (hok : ok s vs) (hL : L = RB l Dk rec ++ (R ++ St s))
    (hT : ∀ s', Rl s vs s' → T ((d, .bool true) :: V) (RB l Dk rec ++ (R ++ St s'))) : OpS P w0 O n D o V L T := by
  subst hL
  have hp : ∀ s', ((RB l Dk rec ++ St s') ++ R).Perm (RB l Dk rec ++ (R ++ St s')) := fun s' => by
    rw [List.append_assoc]
    exact List.Perm.append_left _ List.perm_append_comm
  have h := op_yield (P := P) (w0 := w0) (O := O) (n := n) (D := D) (o := o) (V := V) (T := fun V' L' => ∃ s', Rl s vs s' ∧ V' = (d, .bool true) :: V ∧ L' = (RB l Dk rec ++ St s') ++ R) (σ := σ) (LL := fun s' => RB l Dk rec ++ St s') (post := fun s' => Rl s vs s') (RB l Dk rec ++ St s) R ho hd hdn hf hx (hp s).symm (fun w hw hs => by
    obtain ⟨f', tmps, asg, body, h1, h2⟩ := hy s vs w hok hw.same hs
    exact ⟨f', tmps, asg, body, h1, h2.mono fun e w' ⟨s', a, b, c⟩ => ⟨s', a, b, c⟩⟩) (fun s' h => ⟨s', h, rfl, rfl⟩)
  intro a w ha hw
  refine Does.mono (h a w ha hw) ?_
  rintro a' w' ⟨V', L', ⟨s', h1, rfl, rfl⟩, h2, h3⟩
  exact ⟨_, _, hT s' h1, h2, h3.perm (hp s')⟩

/-- One round of a range with two variables. -/
theorem round_of_CX2 {w : World} {l Dk p q : Nat} {rec : Loop} {v u : Value} {M : List Ent} {V0 : List (Nat × Value)} {σ τ : Type} (V1 : σ → List (Nat × Value)) (L1 : σ → List Ent) (I1 : σ → Prop) {LL : τ → List Ent} {post : τ → Prop}
    (hst : rec.state = .ready) (hpe : rec.pending = none) (hps : rec.params = #[p, q]) (hV : Holds n [] { tmps := (rec.tmps.setIfInBounds p v).setIfInBounds q u, defers := [] } V0)
    (hA : CX P (some l) (Met V1 (fun x => RB l Dk rec ++ L1 x) I1 w O n []) w O n [] rec.assign V0 (RB l Dk rec ++ M))
    (hB : ∀ x, I1 x → CX P (some l) (Met (fun _ => []) (fun y => RB l Dk { rec with state := .busy } ++ LL y) post w O n []) w O n [] rec.body (V1 x) (RB l Dk { rec with state := .busy } ++ L1 x))
    (hw : SL w O w (RB l Dk rec ++ M)) :
    ∃ f tmps asg body, (Instr.yield l #[v, u]).run P w = .ok (.round l f tmps asg body) w ∧
      RoundIn Fence.wide 0 P l f tmps asg body w fun e w' => ∃ y, post y ∧ e = .returned (.bool true) ∧ SL w O w' (RB l Dk rec ++ LL y) := by
  have hl : w.heap[l]? = some (.loop rec) := hw.ents (.blk l (.loop rec)) (by simp)
  have hy := run_yield (P := P) (args := #[v, u]) hl (by simp [hps])
  have e : (rec.params.zip #[v, u]).foldl (fun tmps (t, a) => tmps.setIfInBounds t a) rec.tmps = (rec.tmps.setIfInBounds p v).setIfInBounds q u := by simp [hps]
  rw [e] at hy
  refine ⟨_, _, _, _, hy, roundIn_of_wpIn (F := Fence.wide) trivial ?_⟩
  refine wpIn_mono (hA _ w hV hw) ?_
  rintro e a1 w1 ⟨rfl, x, hI, ha1, hw1⟩
  have hl1 : w1.heap[l]? = some (.loop rec) := hw1.ents (.blk l (.loop rec)) (by simp)
  refine ⟨_, run_beginRound hl1 hst, ?_⟩
  have hw2 : SL w O (w1.putObj l (.loop { rec with state := .busy })) (RB l Dk { rec with state := .busy } ++ L1 x) := putObj_SL (i := 0) hw1 rfl _
  refine wpIn_mono (hB x hI a1 _ ha1 hw2) ?_
  rintro e a3 w3 ⟨rfl, y, hp, _, hw3⟩
  have hl3 : w3.heap[l]? = some (.loop { rec with state := .busy }) := hw3.ents (.blk l (.loop { rec with state := .busy })) (by simp)
  have hr3 := run_endRound (P := P) none hl3
  have e3 : ({ ({ rec with state := .busy } : Loop) with state := if (none : Option Code).isNone then .ready else .done, pending := none } : Loop) = rec := by
    cases rec; simp at hst hpe; simp [hst, hpe]
  rw [e3] at hr3
  exact ⟨_, _, hr3, y, hp, rfl, putObj_SL (i := 0) hw3 rfl _⟩
end

/-! ### The end of a function that holds a range: results in slots -/
section
variable {P : Program} {w0 : World} {O : List Nat} {L : List Ent} {fn : Func} {R : Ending → World → Prop} {n : Nat} {V : List (Nat × Value)}
theorem ret_tmpM {t Dk k : Nat} {v : Value} (hr : fn.results = #[.tmp t]) (hv : lk V t = some v) (hD : L[k]? = some (.blk Dk (.deferred (some []))))
    (h : ∀ w, SL w0 O w (L.set k (.blk Dk (.deferred none))) → R (.returned v) w) : XX (bodyPostM Fence.wide 0 P fn R) w0 O n [{ target := .collected Dk, args := #[] }] .ret V L := by
  intro a w ha hw
  have hp := ha.at_ _ _ hv
  have hDk : w.heap[Dk]? = some (.deferred (some [])) := hw.ents _ (List.mem_of_getElem? hD)
  have hw' := putObj_SL hw hD (.deferred none)
  show LeavesInM Fence.wide 0 P fn a.tmps R a.defers .returning w
  rw [ha.defers]
  refine ⟨by simp, .inl ⟨Dk, _, rfl, run_takeDeferred hDk, ?_⟩⟩
  refine ⟨v, ?_, h _ hw'⟩
  simp [results, hr, hp]
theorem ret_tmpM0 {t : Nat} {v : Value} (hr : fn.results = #[.tmp t]) (hv : lk V t = some v) (h : ∀ w, SL w0 O w L → R (.returned v) w) : XX (bodyPostM Fence.wide 0 P fn R) w0 O n [] .ret V L := by
  intro a w ha hw
  have hp := ha.at_ _ _ hv
  show LeavesInM Fence.wide 0 P fn a.tmps R a.defers .returning w
  rw [ha.defers]
  refine ⟨v, ?_, h _ hw⟩
  simp [results, hr, hp]
theorem ret_tmp2M {t t' Dk k : Nat} {v v' : Value} (hr : fn.results = #[.tmp t, .tmp t']) (hv : lk V t = some v) (hv' : lk V t' = some v') (hD : L[k]? = some (.blk Dk (.deferred (some []))))
    (h : ∀ w, SL w0 O w (L.set k (.blk Dk (.deferred none))) → R (.returned (.tuple #[v, v'])) w) : XX (bodyPostM Fence.wide 0 P fn R) w0 O n [{ target := .collected Dk, args := #[] }] .ret V L := by
  intro a w ha hw
  have hp := ha.at_ _ _ hv
  have hp' := ha.at_ _ _ hv'
  have hDk : w.heap[Dk]? = some (.deferred (some [])) := hw.ents _ (List.mem_of_getElem? hD)
  have hw' := putObj_SL hw hD (.deferred none)
  show LeavesInM Fence.wide 0 P fn a.tmps R a.defers .returning w
  rw [ha.defers]
  refine ⟨by simp, .inl ⟨Dk, _, rfl, run_takeDeferred hDk, ?_⟩⟩
  refine ⟨.tuple #[v, v'], ?_, h _ hw'⟩
  simp [results, hr, hp, hp']
end
end Go.Proofs.YtnadipjlhlbfoaaGreatDoor
