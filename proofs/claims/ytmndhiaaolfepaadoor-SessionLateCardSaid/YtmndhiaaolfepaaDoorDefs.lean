/- What the walks of law08 say, in plain words. -/
import Derived.Test.YtmndhiaaolfepaaDoorOps6
import Derived.Test.YtmndhiaaolfepaaDoorMerge
namespace Go.Proofs.YtmndhiaaolfepaaDoor
set_option linter.all false
open Go Go.RowKit

def cmp3 (p q : Int) : Int := if p < q then -1 else if q < p then 1 else 0
def mkPlay (i s m : Int) : Fct := { kind := 1, id := i, version := 1, period := 0, second := s, account := 2, device := 1, recording := 7, territory := 0, holder := 0, role := 0, since := 0, till := 0, amount := m, share := 0, currency := 0, mark := 0, text := .empty }
def monthLen (k : Nat) : Int := match k with
  | 0 => 31 | 1 => 28 | 2 => 31 | 3 => 30 | 4 => 31 | 5 => 30 | 6 => 31 | 7 => 31 | 8 => 30 | 9 => 31 | 10 => 30 | _ => 31
/-- The days of the months lie in block 0. -/
def Lens (w : World) : Prop := ∀ k, k < 12 → w.cell? ⟨0, k * 1, none⟩ = some (.int .i64 (monthLen k))
theorem Lens.keep {w0 w : World} {O : List Nat} {L : List Ent} (h : Lens w0) (hw : SL w0 O w L) (hO : 0 ∉ O) : Lens w := fun k hk => by
  have := h k hk
  rw [hw.cell0 (World.block_lt_of_cell? w0 _ this) hO]; exact this
theorem days_eq (p : Int) (h : 0 ≤ p ∧ p < 1200) : days p = if p % 48 = 1 then 29 else monthLen (p % 12).toNat := by
  unfold days
  rw [if_neg (by omega)]
  rfl
theorem days_out (p : Int) (h : ¬ (0 ≤ p ∧ p < 1200)) : days p = 0 := by
  unfold days
  rw [if_pos (by omega)]
def firstNZ : List Int → Int
  | [] => 0
  | v :: r => if v ≠ 0 then v else firstNZ r
theorem map_get {α β : Type} {f : α → β} {l : List α} {k : Nat} {x : α} (h : l[k]? = some x) : (l.map f)[k]? = some (f x) := by rw [List.getElem?_map, h]; rfl
theorem drop_get {α : Type} {l : List α} {k : Nat} {x : α} (h : l[k]? = some x) : l.drop k = x :: l.drop (k + 1) := by
  obtain ⟨hk, h⟩ := List.getElem?_eq_some_iff.1 h
  subst h; exact List.drop_eq_getElem_cons hk
def cmpF (a b : Fct) : Int := firstNZ [cmp3 a.device b.device, cmp3 a.second b.second, cmp3 a.id b.id]
theorem cmpF_neg (a b : Fct) : cmpF a b < 0 ↔ before a b = true := by
  simp only [cmpF, firstNZ, cmp3, before, Bool.or_eq_true, Bool.and_eq_true, decide_eq_true_eq, beq_iff_eq]
  repeat' split
  all_goals omega
theorem days_nn (p : Int) : 0 ≤ days p := by
  unfold days; repeat' split
  all_goals omega
theorem days_le (p : Int) : days p ≤ 31 := by
  unfold days; repeat' split
  all_goals omega
def dayOf (s : Int) : Int := (stepMonths 48 (s / 86400 % 1461) (s / 86400 / 1461 * 48)).1 + 1
theorem step_more {k : Nat} {n p : Int} (hk : k < 48) (h : ¬ n < days p) : stepMonths (48 - k) n p = stepMonths (48 - (k + 1)) (n - days p) (p + 1) := by
  rw [show 48 - k = (48 - (k + 1)) + 1 from by omega]
  conv => lhs; rw [stepMonths, if_neg h]
theorem of_done {s : Int} {k : Nat} {n p : Int} (hs : 0 ≤ s ∧ s ≤ 3155759999) (hf : stepMonths (48 - k) n p = stepMonths 48 (s / 86400 % 1461) (s / 86400 / 1461 * 48)) (h : n < days p ∨ 48 ≤ k) :
    Value.tuple #[.int .i64 p, .int .i64 (n + 1), .bool true] = .tuple #[.int .i64 (periodOf s), .int .i64 (dayOf s), .bool true] := by
  have e : stepMonths (48 - k) n p = (n, p) := by
    rcases h with h | h
    · cases hk : 48 - k with
      | zero => rfl
      | succ m => rw [stepMonths, if_pos h]
    · rw [show 48 - k = 0 from by omega]; rfl
  have e2 : periodOf s = p := by
    unfold periodOf
    rw [if_neg (by omega), ← hf, e]
  rw [e2, dayOf, ← hf, e]
/-! ### The player -/
def plrCells (x : Plr) (m : Nat) : Array Value := #[.int .i64 x.device, .int .i64 x.last, .int .i64 x.stop, .int .i64 x.session, .map (some m)]
def loopsMap (x : Plr) : Int → Option Value := fun r => if x.loops r = 0 then none else some (.int .i64 (x.loops r))
theorem loops_get (x : Plr) (r : Int) : (loopsMap x r).getD (.int .i64 0) = .int .i64 (x.loops r) := by
  unfold loopsMap; split
  · rename_i h; rw [h]; rfl
  · rfl
structure PlrOk (x : Plr) : Prop where
  last : 0 ≤ x.last
  lastLe : x.last ≤ 3155759999
  session : 0 ≤ x.session
  sessionLe : x.session ≤ 1000000
  loops : ∀ r, 0 ≤ x.loops r
/-- On a device of its own. -/
def Plr.fresh (x : Plr) (p : Fct) : Plr := if x.device = p.device then x else { device := p.device, last := p.second, stop := 0, session := 1, loops := fun _ => 0 }
/-- .. and behind a gap. -/
def Plr.gap (x : Plr) (p : Fct) : Plr := if 1800 < p.second - (x.fresh p).last then (x.fresh p).begin else x.fresh p
theorem arrive_gap_eq (x : Plr) (p : Fct) : x.arrive p = { x.gap p with last := p.second } := rfl
theorem fresh_eq {x : Plr} (p : Fct) (h : x.device = p.device) : x.fresh p = x := if_pos h
theorem fresh_ne {x : Plr} (p : Fct) (h : x.device ≠ p.device) : x.fresh p = ({ device := p.device, last := p.second, stop := 0, session := 0, loops := fun _ => 0 } : Plr).begin := if_neg h
theorem arrive_gap {x : Plr} {p : Fct} (h : 1800 < p.second - (x.fresh p).last) : x.gap p = (x.fresh p).begin := if_pos h
theorem arrive_near {x : Plr} {p : Fct} (h : ¬ 1800 < p.second - (x.fresh p).last) : x.gap p = x.fresh p := if_neg h
theorem fresh_ok {x : Plr} {p : Fct} (h : PlrOk x) (h0 : 0 ≤ p.second) (h1 : p.second ≤ 3155759999) : PlrOk (x.fresh p) := by
  unfold Plr.fresh; split
  · exact h
  · exact ⟨h0, h1, (by decide : (0:Int) ≤ 1), (by decide : (1:Int) ≤ 1000000), fun _ => Int.le_refl 0⟩
theorem arrive_loops {x : Plr} {p : Fct} (h : PlrOk (x.fresh p)) (r : Int) : 0 ≤ (x.arrive p).loops r := by
  rw [arrive_gap_eq]
  show 0 ≤ (x.gap p).loops r
  unfold Plr.gap; split
  · exact Int.le_refl 0
  · exact h.loops r
theorem takes_no45 {x : Plr} {p : Fct} (h : (!p.qual) = true) : x.takes p = false := by unfold Plr.takes; simp at h; simp [h]
theorem takes_no55 {x : Plr} {p : Fct} (h : p.second < x.stop) : x.takes p = false := by unfold Plr.takes; simp [h]
theorem takes_no65 {x : Plr} {p : Fct} (h : 5 ≤ x.loops p.recording) : x.takes p = false := by unfold Plr.takes; simp [h]
theorem takes_yes {x : Plr} {p : Fct} (h1 : (!p.qual) = false) (h2 : ¬ p.second < x.stop) (h3 : ¬ 5 ≤ x.loops p.recording) : x.takes p = true := by unfold Plr.takes; simp at h1; simp [h1, h2, h3]
theorem look_no {x : Plr} {p : Fct} (h : (x.arrive p).takes p = false) : x.look p = (x.arrive p, false) := by unfold Plr.look; simp [h]
theorem look_yes {x : Plr} {p : Fct} (h : (x.arrive p).takes p = true) : x.look p = ((x.arrive p).count p, true) := by unfold Plr.look; simp [h]
theorem loops_count {x : Plr} (p : Fct) (h : 0 ≤ x.loops p.recording) : (fun k' => if k' = p.recording then some (Value.int .i64 (x.loops p.recording + 1)) else loopsMap x k') = loopsMap (x.count p) := by
  funext r
  unfold loopsMap Plr.count
  by_cases e : r = p.recording
  · subst e; simp; omega
  · simp [e]
/-! ### The fields of a play -/
def foff : Nat → Nat
  | 0 => 1 | 1 => 5 | 2 => 6 | 3 => 7 | 4 => 8 | 5 => 4 | 6 => 13 | _ => 16
def flo : Nat → Int
  | 0 => 1 | 1 => 1 | 2 => 1 | 3 => 1 | 4 => 0 | 5 => 0 | 6 => 0 | _ => 0
def fhi : Nat → Int
  | 0 => 1000000 | 1 => 1000000 | 2 => 1000000 | 3 => 1000000 | 4 => 7 | 5 => 3155759999 | 6 => 86400000 | _ => 1
def fget (f : Fct) : Nat → Int
  | 0 => f.id | 1 => f.account | 2 => f.device | 3 => f.recording | 4 => f.territory | 5 => f.second | 6 => f.amount | _ => f.mark
def fieldsRow (g : Nat) : List (Array Value) := [#[.pointer (some ⟨g, 1, none⟩), .int .i64 1, .int .i64 1000000], #[.pointer (some ⟨g, 5, none⟩), .int .i64 1, .int .i64 1000000], #[.pointer (some ⟨g, 6, none⟩), .int .i64 1, .int .i64 1000000], #[.pointer (some ⟨g, 7, none⟩), .int .i64 1, .int .i64 1000000],
  #[.pointer (some ⟨g, 8, none⟩), .int .i64 0, .int .i64 7], #[.pointer (some ⟨g, 4, none⟩), .int .i64 0, .int .i64 3155759999], #[.pointer (some ⟨g, 13, none⟩), .int .i64 0, .int .i64 86400000], #[.pointer (some ⟨g, 16, none⟩), .int .i64 0, .int .i64 1]]
theorem fields_get (g : Nat) : ∀ k, k < 8 → (fieldsRow g)[k]? = some #[.pointer (some ⟨g, foff k, none⟩), .int .i64 (flo k), .int .i64 (fhi k)]
  | 0, _ => rfl | 1, _ => rfl | 2, _ => rfl | 3, _ => rfl | 4, _ => rfl | 5, _ => rfl | 6, _ => rfl | 7, _ => rfl
  | k + 8, h => by omega
/-- The first k fields are 0. -/
def strip (f : Fct) : Nat → Fct
  | 0 => f
  | 1 => { f with id := 0 }
  | 2 => { f with id := 0, account := 0 }
  | 3 => { f with id := 0, account := 0, device := 0 }
  | 4 => { f with id := 0, account := 0, device := 0, recording := 0 }
  | 5 => { f with id := 0, account := 0, device := 0, recording := 0, territory := 0 }
  | 6 => { f with id := 0, account := 0, device := 0, recording := 0, territory := 0, second := 0 }
  | 7 => { f with id := 0, account := 0, device := 0, recording := 0, territory := 0, second := 0, amount := 0 }
  | _ => { f with id := 0, account := 0, device := 0, recording := 0, territory := 0, second := 0, amount := 0, mark := 0 }
theorem strip_get (f : Fct) : ∀ k, k < 8 → (strip f k).cells[foff k]? = some (.int .i64 (fget f k))
  | 0, _ => rfl | 1, _ => rfl | 2, _ => rfl | 3, _ => rfl | 4, _ => rfl | 5, _ => rfl | 6, _ => rfl | 7, _ => rfl
  | k + 8, h => by omega
theorem strip_set (f : Fct) : ∀ k, k < 8 → (strip f k).cells.setIfInBounds (foff k) (.int .i64 0) = (strip f (k + 1)).cells
  | 0, _ => rfl | 1, _ => rfl | 2, _ => rfl | 3, _ => rfl | 4, _ => rfl | 5, _ => rfl | 6, _ => rfl | 7, _ => rfl
  | k + 8, h => by omega
theorem strip_lt (f : Fct) : ∀ k, k < 8 → Nat.blt (foff k) (strip f k).cells.size = true
  | 0, _ => rfl | 1, _ => rfl | 2, _ => rfl | 3, _ => rfl | 4, _ => rfl | 5, _ => rfl | 6, _ => rfl | 7, _ => rfl
  | k + 8, h => by omega
def bare (k v : Int) : Fct := { kind := k, id := 0, version := v, period := 0, second := 0, account := 0, device := 0, recording := 0, territory := 0, holder := 0, role := 0, since := 0, till := 0, amount := 0, share := 0, currency := 0, mark := 0, text := .empty }
theorem valid_no_version {f : Fct} (h : f.version < 1 ∨ 1000 < f.version) : f.valid = false := by
  rcases h with h | h
  · have : within f.version 1 1000 = false := by unfold within; simp; omega
    simp [Fct.valid, this]
  · have : within f.version 1 1000 = false := by unfold within; simp; omega
    simp [Fct.valid, this]
theorem bytes_empty (t : ByteArray) : (t.data.toList.isEmpty = true) ↔ t.size = 0 := by
  obtain ⟨⟨l⟩⟩ := t
  cases l <;> simp [ByteArray.size]
theorem valid_no_text {f : Fct} (h : 0 < f.text.size) : f.valid = false := by
  have : f.text.data.toList.isEmpty = false := by
    cases e : f.text.data.toList.isEmpty with
    | false => rfl
    | true => have := (bytes_empty f.text).1 e; omega
  simp only [Fct.valid, this, Bool.and_false]
theorem valid_no {f : Fct} : ∀ k, k < 8 → within (fget f k) (flo k) (fhi k) = false → f.valid = false
  | 0, _, h => by have h' : within f.id 1 1000000 = false := h; simp [Fct.valid, h']
  | 1, _, h => by have h' : within f.account 1 1000000 = false := h; simp [Fct.valid, h']
  | 2, _, h => by have h' : within f.device 1 1000000 = false := h; simp [Fct.valid, h']
  | 3, _, h => by have h' : within f.recording 1 1000000 = false := h; simp [Fct.valid, h']
  | 4, _, h => by have h' : within f.territory 0 7 = false := h; simp [Fct.valid, h']
  | 5, _, h => by have h' : within f.second 0 3155759999 = false := h; simp [Fct.valid, h']
  | 6, _, h => by have h' : within f.amount 0 86400000 = false := h; simp [Fct.valid, h']
  | 7, _, h => by have h' : within f.mark 0 1 = false := h; simp [Fct.valid, h']
  | k + 8, h, _ => by omega
theorem text_empty (t : ByteArray) : (t.toList == ByteArray.empty.toList) = t.data.toList.isEmpty := by
  rw [ByteArray.toList_eq, ByteArray.toList_eq]
  cases t.data.toList <;> rfl
theorem valid_yes {f : Fct} (hk : f.kind = 1) (h1 : 1 ≤ f.version) (h2 : f.version ≤ 1000) (h : ∀ j, j < 8 → within (fget f j) (flo j) (fhi j) = true) : Fct.same (strip f 8) (bare f.kind f.version) = f.valid := by
  have a0 : within f.id 1 1000000 = true := h 0 (by decide)
  have a1 : within f.account 1 1000000 = true := h 1 (by decide)
  have a2 : within f.device 1 1000000 = true := h 2 (by decide)
  have a3 : within f.recording 1 1000000 = true := h 3 (by decide)
  have a4 : within f.territory 0 7 = true := h 4 (by decide)
  have a5 : within f.second 0 3155759999 = true := h 5 (by decide)
  have a6 : within f.amount 0 86400000 = true := h 6 (by decide)
  have a7 : within f.mark 0 1 = true := h 7 (by decide)
  have a8 : within f.version 1 1000 = true := by unfold within; simp; omega
  have e := text_empty f.text
  simp only [Fct.valid, Fct.same, strip, bare, a0, a1, a2, a3, a4, a5, a6, a7, a8, hk, e, beq_self_eq_true, Bool.true_and, Bool.and_true, Bool.and_assoc]
/-! ### Sorting -/
abbrev PRow (A : Option Addr) (cap : Nat) (xs : List Fct) : Ent := .row A cap 54 18 (xs.map Fct.cells)
abbrev rowO (A : Option Addr) : List Nat := [Ent.row A 0 0 0 []].flatMap Ent.blocks
theorem exists_cons {α : Type} {l : List α} (h : 0 < l.length) : ∃ x r, l = x :: r := by
  cases l with
  | nil => simp at h
  | cons x r => exact ⟨x, r, rfl⟩
theorem exists_snoc {α : Type} {l : List α} (h : 0 < l.length) : ∃ r x, l = r ++ [x] := by
  have h' : l ≠ [] := by intro e; subst e; simp at h
  exact ⟨l.dropLast, l.getLast h', (List.dropLast_concat_getLast h').symm⟩
theorem split_at {α : Type} {l : List α} {k : Nat} (h : k ≤ l.length) : ∃ a b, l = a ++ b ∧ a.length = k := ⟨l.take k, l.drop k, (List.take_append_drop k l).symm, by simp; omega⟩
theorem start_insert (s : List Fct) (n a b : Nat) (ha : n = a) (hb : n + s.length = b) : ∃ S T, S ++ T = s ∧ Srt.Sorted before S ∧ T.foldl (fun acc x => Srt.ins before x acc) S = Srt.isort before s ∧ (n + S.length = a + 1 ∨ T = [] ∧ b ≤ a + 1) ∧ n + S.length + T.length = b := by
  cases s with
  | nil => exact ⟨[], [], rfl, List.Pairwise.nil, rfl, .inr ⟨rfl, by simp at hb; omega⟩, by simpa using hb⟩
  | cons x s => exact ⟨[x], s, rfl, List.pairwise_singleton _ _, rfl, .inl (by simp; omega), by simp at hb ⊢; omega⟩
theorem wrap_u64 {x y : Int} (e : x = y) (h0 : 0 ≤ x) (h1 : x < 9223372036854775808) : IntKind.u64.wrap x = y := by
  subst e
  unfold IntKind.wrap
  simp [IntKind.bits, IntKind.signed]
  omega
theorem wrap_i64 {x y : Int} (e : x = y) (h0 : 0 ≤ x) (h1 : x < 9223372036854775808) : IntKind.i64.wrap x = y := by
  subst e
  rw [IntKind.wrap_i64]; omega
theorem one_of {α : Type} {l : List α} (h : l.length = 1) : ∃ x, l = [x] := List.length_eq_one_iff.1 h
theorem get_some {α : Type} {l : List α} {k : Nat} (h : k < l.length) : ∃ x, l[k]? = some x := ⟨l[k], List.getElem?_eq_getElem h⟩
theorem cmpF_nneg {a b : Fct} (h : ¬ cmpF a b < 0) : before a b = false := by
  cases hb : before a b with
  | false => rfl
  | true => exact absurd ((cmpF_neg a b).2 hb) h
theorem valid_kind {f : Fct} (h : ¬ f.kind = 1) : f.valid = false := by
  have : (f.kind == 1) = false := by simpa using h
  simp [Fct.valid, this]
theorem take_succ {α : Type} {l : List α} {i : Nat} {x : α} (h : l[i]? = some x) : l.take (i + 1) = l.take i ++ [x] := by
  rw [List.take_add_one, h]; rfl
theorem valid_ranges {p : Fct} (h : p.valid = true) : 0 ≤ p.second ∧ p.second ≤ 3155759999 ∧ 0 ≤ p.amount ∧ p.amount ≤ 86400000 := by
  simp only [Fct.valid, within, Bool.and_eq_true, decide_eq_true_eq, beq_iff_eq] at h
  omega
theorem start_ok : PlrOk Plr.start := ⟨by decide, by decide, by decide, by decide, fun _ => Int.le_refl 0⟩
theorem arrive_sess {x : Plr} {p : Fct} {i : Int} (h : PlrOk x) (hi : x.session ≤ i) : 0 ≤ (x.arrive p).session ∧ (x.arrive p).session ≤ i + 1 := by
  have hx := h.session
  rw [arrive_gap_eq]
  show 0 ≤ (x.gap p).session ∧ (x.gap p).session ≤ i + 1
  unfold Plr.gap Plr.fresh Plr.begin
  repeat' split
  all_goals (first | omega | (dsimp only at *; omega))
theorem look_sess {x : Plr} {p : Fct} {i : Nat} (h : PlrOk x) (h0 : 0 ≤ p.second) (h1 : p.second ≤ 3155759999) (hi : x.session ≤ (i : Int)) : (x.look p).1.session ≤ ((i + 1 : Nat) : Int) := by
  have := (arrive_sess (p := p) h hi).2
  unfold Plr.look
  dsimp only
  split
  · show (x.arrive p).session ≤ _; omega
  · show (x.arrive p).session ≤ _; omega
theorem look_ok {x : Plr} {p : Fct} {i : Nat} (h : PlrOk x) (h0 : 0 ≤ p.second) (h1 : p.second ≤ 3155759999) (hi : x.session ≤ (i : Int)) (hi2 : i + 1 ≤ 1000000) : PlrOk (x.look p).1 := by
  have h3 := arrive_sess (p := p) h hi
  have h4 := arrive_loops (fresh_ok (p := p) h h0 h1)
  have ha : PlrOk (x.arrive p) := ⟨h0, h1, h3.1, by omega, h4⟩
  unfold Plr.look
  dsimp only
  split
  · refine ⟨h0, h1, h3.1, by show (x.arrive p).session ≤ _; omega, fun r => ?_⟩
    show 0 ≤ (if r = p.recording then (x.arrive p).loops r + 1 else (x.arrive p).loops r)
    have := h4 r
    split <;> omega
  · exact ha
theorem counted_no {x : Plr} {p : Fct} {r : List Fct} (h : (x.look p).2 = false) : counted x (p :: r) = counted (x.look p).1 r := by rw [counted, if_neg (by rw [h]; simp)]
theorem counted_yes {x : Plr} {p : Fct} {r : List Fct} (h : (x.look p).2 = true) : counted x (p :: r) = strm (x.look p).1 p :: counted (x.look p).1 r := by rw [counted, if_pos h]
theorem prow_eq {w0 w : World} {O : List Nat} {A : Option Addr} {cap : Nat} {xs ys : List Fct} (e : xs = ys) (h : SL w0 O w [PRow A cap xs]) : SL w0 O w [PRow A cap ys] := e ▸ h
theorem get_at {xs : List Fct} {x : Fct} {k : Nat} (L R : List Fct) (h1 : xs = L ++ x :: R) (h2 : L.length = k) : (xs.map Fct.cells)[k]? = some x.cells := by
  subst h1; subst h2; simp
theorem set_at {xs ys : List Fct} {x v : Fct} {k : Nat} (L R : List Fct) (h1 : xs = L ++ x :: R) (h2 : L.length = k) (h3 : ys = L ++ v :: R) : (xs.map Fct.cells).set k v.cells = ys.map Fct.cells := by
  subst h1; subst h2; subst h3; simp
end Go.Proofs.YtmndhiaaolfepaaDoor
