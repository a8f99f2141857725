/- What the walks of law08 say, in plain words. Walks, printed by a program. Walks, printed by a program. Walks, printed by a program. Walks, printed by a program. Walks, printed by a program. -/
import Derived.Test.YtpcfgoadkfajfaaGreatDoorK2
import Derived.Test.YtpcfgoadkfajfaaGreatDoorChecked
namespace Go.Proofs.YtpcfgoadkfajfaaGreatDoor.Se
set_option linter.all false
open Go Go.RowKit

def cmp3 (p q : Int) : Int := if p < q then -1 else if q < p then 1 else 0
def mkPlay (i s m : Int) : Fct := { kind := 1, id := i, version := 1, period := 0, second := s, account := 2, device := 1, recording := 7, territory := 0, holder := 0, role := 0, since := 0, till := 0, amount := m, share := 0, currency := 0, mark := 0, text := .empty }
def monthLen (k : Nat) : Int := match k with
  | 0 => 31 | 1 => 28 | 2 => 31 | 3 => 30 | 4 => 31 | 5 => 30 | 6 => 31 | 7 => 31 | 8 => 30 | 9 => 31 | 10 => 30 | _ => 31
/-- The days of the months lie in block 0. -/
def Lens (w : World) : Prop := ∀ k, k < 12 → w.cell? ⟨1, k * 1, none⟩ = some (.int .i64 (monthLen k))
theorem Lens.keep {w0 w : World} {O : List Nat} {L : List Ent} (h : Lens w0) (hw : SL w0 O w L) (hO : 1 ∉ O) : Lens w := fun k hk => by
  have := h k hk
  rw [hw.cell0 (World.block_lt_of_cell? w0 _ this) hO]; exact this
theorem days_eq (p : Int) (h : 0 ≤ p ∧ p < 1200) : days p = if p % 48 = 1 then 29 else monthLen (p % 12).toNat := by
  unfold days
  rw [if_neg (by omega)]
  rfl
theorem days_out (p : Int) (h : ¬ (0 ≤ p ∧ p < 1200)) : days p = 0 := by
  unfold days
  rw [if_pos (by omega)]
def firstNZ : List Int → Int
  | [] => 0
  | v :: r => if v ≠ 0 then v else firstNZ r
theorem map_get {α β : Type} {f : α → β} {l : List α} {k : Nat} {x : α} (h : l[k]? = some x) : (l.map f)[k]? = some (f x) := by rw [List.getElem?_map, h]; rfl
theorem drop_get {α : Type} {l : List α} {k : Nat} {x : α} (h : l[k]? = some x) : l.drop k = x :: l.drop (k + 1) := by
  obtain ⟨hk, h⟩ := List.getElem?_eq_some_iff.1 h
  subst h; exact List.drop_eq_getElem_cons hk
def cmpF (a b : Fct) : Int := firstNZ [cmp3 a.device b.device, cmp3 a.second b.second, cmp3 a.id b.id]
theorem cmpF_neg (a b : Fct) : cmpF a b < 0 ↔ before a b = true := by
  simp only [cmpF, firstNZ, cmp3, before, Bool.or_eq_true, Bool.and_eq_true, decide_eq_true_eq, beq_iff_eq]
  repeat' split
  all_goals omega
theorem days_nn (p : Int) : 0 ≤ days p := by
  unfold days; repeat' split
  all_goals omega
theorem days_le (p : Int) : days p ≤ 31 := by
  unfold days; repeat' split
  all_goals omega
def dayOf (s : Int) : Int := (stepMonths 48 (s / 86400 % 1461) (s / 86400 / 1461 * 48)).1 + 1
theorem step_more {k : Nat} {n p : Int} (hk : k < 48) (h : ¬ n < days p) : stepMonths (48 - k) n p = stepMonths (48 - (k + 1)) (n - days p) (p + 1) := by
  rw [show 48 - k = (48 - (k + 1)) + 1 from by omega]
  conv => lhs; rw [stepMonths, if_neg h]
theorem of_done {s : Int} {k : Nat} {n p : Int} (hs : 0 ≤ s ∧ s ≤ 3155759999) (hf : stepMonths (48 - k) n p = stepMonths 48 (s / 86400 % 1461) (s / 86400 / 1461 * 48)) (h : n < days p ∨ 48 ≤ k) :
    Value.tuple #[.int .i64 p, .int .i64 (n + 1), .bool true] = .tuple #[.int .i64 (periodOf s), .int .i64 (dayOf s), .bool true] := by
  have e : stepMonths (48 - k) n p = (n, p) := by
    rcases h with h | h
    · cases hk : 48 - k with
      | zero => rfl
      | succ m => rw [stepMonths, if_pos h]
    · rw [show 48 - k = 0 from by omega]; rfl
  have e2 : periodOf s = p := by
    unfold periodOf
    rw [if_neg (by omega), ← hf, e]
  rw [e2, dayOf, ← hf, e]
/-! ### The player -/
def plrCells (x : Plr) (m : Nat) : Array Value := #[.int .i64 x.device, .int .i64 x.last, .int .i64 x.stop, .int .i64 x.session, .map (some m)]
def loopsMap (x : Plr) : Int → Option Value := fun r => if x.loops r = 0 then none else some (.int .i64 (x.loops r))
theorem loops_get (x : Plr) (r : Int) : (loopsMap x r).getD (.int .i64 0) = .int .i64 (x.loops r) := by
  unfold loopsMap; split
  · rename_i h; rw [h]; rfl
  · rfl
structure PlrOk (x : Plr) : Prop where
  last : 0 ≤ x.last
  lastLe : x.last ≤ 3155759999
  session : 0 ≤ x.session
  sessionLe : x.session ≤ 1000000
  loops : ∀ r, 0 ≤ x.loops r
/-- On a device of its own. -/
def Plr.fresh (x : Plr) (p : Fct) : Plr := if x.device = p.device then x else { device := p.device, last := p.second, stop := 0, session := 1, loops := fun _ => 0 }
/-- .. and behind a gap. -/
def Plr.gap (x : Plr) (p : Fct) : Plr := if 1800 < p.second - (x.fresh p).last then (x.fresh p).begin else x.fresh p
theorem arrive_gap_eq (x : Plr) (p : Fct) : x.arrive p = { x.gap p with last := p.second } := rfl
theorem fresh_eq {x : Plr} (p : Fct) (h : x.device = p.device) : x.fresh p = x := if_pos h
theorem fresh_ne {x : Plr} (p : Fct) (h : x.device ≠ p.device) : x.fresh p = ({ device := p.device, last := p.second, stop := 0, session := 0, loops := fun _ => 0 } : Plr).begin := if_neg h
theorem arrive_gap {x : Plr} {p : Fct} (h : 1800 < p.second - (x.fresh p).last) : x.gap p = (x.fresh p).begin := if_pos h
theorem arrive_near {x : Plr} {p : Fct} (h : ¬ 1800 < p.second - (x.fresh p).last) : x.gap p = x.fresh p := if_neg h
theorem fresh_ok {x : Plr} {p : Fct} (h : PlrOk x) (h0 : 0 ≤ p.second) (h1 : p.second ≤ 3155759999) : PlrOk (x.fresh p) := by
  unfold Plr.fresh; split
  · exact h
  · exact ⟨h0, h1, (by decide : (0:Int) ≤ 1), (by decide : (1:Int) ≤ 1000000), fun _ => Int.le_refl 0⟩
theorem arrive_loops {x : Plr} {p : Fct} (h : PlrOk (x.fresh p)) (r : Int) : 0 ≤ (x.arrive p).loops r := by
  rw [arrive_gap_eq]
  show 0 ≤ (x.gap p).loops r
  unfold Plr.gap; split
  · exact Int.le_refl 0
  · exact h.loops r
theorem takes_no45 {x : Plr} {p : Fct} (h : (!p.qual) = true) : x.takes p = false := by unfold Plr.takes; simp at h; simp [h]
theorem takes_no55 {x : Plr} {p : Fct} (h : p.second < x.stop) : x.takes p = false := by unfold Plr.takes; simp [h]
theorem takes_no65 {x : Plr} {p : Fct} (h : 5 ≤ x.loops p.recording) : x.takes p = false := by unfold Plr.takes; simp [h]
theorem takes_yes {x : Plr} {p : Fct} (h1 : (!p.qual) = false) (h2 : ¬ p.second < x.stop) (h3 : ¬ 5 ≤ x.loops p.recording) : x.takes p = true := by unfold Plr.takes; simp at h1; simp [h1, h2, h3]
theorem look_no {x : Plr} {p : Fct} (h : (x.arrive p).takes p = false) : x.look p = (x.arrive p, false) := by unfold Plr.look; simp [h]
theorem look_yes {x : Plr} {p : Fct} (h : (x.arrive p).takes p = true) : x.look p = ((x.arrive p).count p, true) := by unfold Plr.look; simp [h]
theorem loops_count {x : Plr} (p : Fct) (h : 0 ≤ x.loops p.recording) : (fun k' => if k' = p.recording then some (Value.int .i64 (x.loops p.recording + 1)) else loopsMap x k') = loopsMap (x.count p) := by
  funext r
  unfold loopsMap Plr.count
  by_cases e : r = p.recording
  · subst e; simp; omega
  · simp [e]
/-! ### The fields of a play -/
def foff : Nat → Nat
  | 0 => 1 | 1 => 5 | 2 => 6 | 3 => 7 | 4 => 8 | 5 => 4 | 6 => 13 | _ => 16
def flo : Nat → Int
  | 0 => 1 | 1 => 1 | 2 => 1 | 3 => 1 | 4 => 0 | 5 => 0 | 6 => 0 | _ => 0
def fhi : Nat → Int
  | 0 => 1000000 | 1 => 1000000 | 2 => 1000000 | 3 => 1000000 | 4 => 7 | 5 => 3155759999 | 6 => 86400000 | _ => 1
def fget (f : Fct) : Nat → Int
  | 0 => f.id | 1 => f.account | 2 => f.device | 3 => f.recording | 4 => f.territory | 5 => f.second | 6 => f.amount | _ => f.mark
def fieldsRow (g : Nat) : List (Array Value) := [#[.pointer (some ⟨g, 1, none⟩), .int .i64 1, .int .i64 1000000], #[.pointer (some ⟨g, 5, none⟩), .int .i64 1, .int .i64 1000000], #[.pointer (some ⟨g, 6, none⟩), .int .i64 1, .int .i64 1000000], #[.pointer (some ⟨g, 7, none⟩), .int .i64 1, .int .i64 1000000],
  #[.pointer (some ⟨g, 8, none⟩), .int .i64 0, .int .i64 7], #[.pointer (some ⟨g, 4, none⟩), .int .i64 0, .int .i64 3155759999], #[.pointer (some ⟨g, 13, none⟩), .int .i64 0, .int .i64 86400000], #[.pointer (some ⟨g, 16, none⟩), .int .i64 0, .int .i64 1]]
theorem fields_get (g : Nat) : ∀ k, k < 8 → (fieldsRow g)[k]? = some #[.pointer (some ⟨g, foff k, none⟩), .int .i64 (flo k), .int .i64 (fhi k)]
  | 0, _ => rfl | 1, _ => rfl | 2, _ => rfl | 3, _ => rfl | 4, _ => rfl | 5, _ => rfl | 6, _ => rfl | 7, _ => rfl
  | k + 8, h => by omega
/-- The first k fields are 0. -/
def strip (f : Fct) : Nat → Fct
  | 0 => f
  | 1 => { f with id := 0 }
  | 2 => { f with id := 0, account := 0 }
  | 3 => { f with id := 0, account := 0, device := 0 }
  | 4 => { f with id := 0, account := 0, device := 0, recording := 0 }
  | 5 => { f with id := 0, account := 0, device := 0, recording := 0, territory := 0 }
  | 6 => { f with id := 0, account := 0, device := 0, recording := 0, territory := 0, second := 0 }
  | 7 => { f with id := 0, account := 0, device := 0, recording := 0, territory := 0, second := 0, amount := 0 }
  | _ => { f with id := 0, account := 0, device := 0, recording := 0, territory := 0, second := 0, amount := 0, mark := 0 }
theorem strip_get (f : Fct) : ∀ k, k < 8 → (strip f k).cells[foff k]? = some (.int .i64 (fget f k))
  | 0, _ => rfl | 1, _ => rfl | 2, _ => rfl | 3, _ => rfl | 4, _ => rfl | 5, _ => rfl | 6, _ => rfl | 7, _ => rfl
  | k + 8, h => by omega
theorem strip_set (f : Fct) : ∀ k, k < 8 → (strip f k).cells.setIfInBounds (foff k) (.int .i64 0) = (strip f (k + 1)).cells
  | 0, _ => rfl | 1, _ => rfl | 2, _ => rfl | 3, _ => rfl | 4, _ => rfl | 5, _ => rfl | 6, _ => rfl | 7, _ => rfl
  | k + 8, h => by omega
theorem strip_lt (f : Fct) : ∀ k, k < 8 → Nat.blt (foff k) (strip f k).cells.size = true
  | 0, _ => rfl | 1, _ => rfl | 2, _ => rfl | 3, _ => rfl | 4, _ => rfl | 5, _ => rfl | 6, _ => rfl | 7, _ => rfl
  | k + 8, h => by omega
def bare (k v : Int) : Fct := { kind := k, id := 0, version := v, period := 0, second := 0, account := 0, device := 0, recording := 0, territory := 0, holder := 0, role := 0, since := 0, till := 0, amount := 0, share := 0, currency := 0, mark := 0, text := .empty }
theorem valid_no_version {f : Fct} (h : f.version < 1 ∨ 1000 < f.version) : f.valid = false := by
  rcases h with h | h
  · have : within f.version 1 1000 = false := by unfold within; simp; omega
    simp [Fct.valid, this]
  · have : within f.version 1 1000 = false := by unfold within; simp; omega
    simp [Fct.valid, this]
theorem bytes_empty (t : ByteArray) : (t.data.toList.isEmpty = true) ↔ t.size = 0 := by
  obtain ⟨⟨l⟩⟩ := t
  cases l <;> simp [ByteArray.size]
theorem valid_no_text {f : Fct} (h : 0 < f.text.size) : f.valid = false := by
  have : f.text.data.toList.isEmpty = false := by
    cases e : f.text.data.toList.isEmpty with
    | false => rfl
    | true => have := (bytes_empty f.text).1 e; omega
  simp only [Fct.valid, this, Bool.and_false]
theorem valid_no {f : Fct} : ∀ k, k < 8 → within (fget f k) (flo k) (fhi k) = false → f.valid = false
  | 0, _, h => by have h' : within f.id 1 1000000 = false := h; simp [Fct.valid, h']
  | 1, _, h => by have h' : within f.account 1 1000000 = false := h; simp [Fct.valid, h']
  | 2, _, h => by have h' : within f.device 1 1000000 = false := h; simp [Fct.valid, h']
  | 3, _, h => by have h' : within f.recording 1 1000000 = false := h; simp [Fct.valid, h']
  | 4, _, h => by have h' : within f.territory 0 7 = false := h; simp [Fct.valid, h']
  | 5, _, h => by have h' : within f.second 0 3155759999 = false := h; simp [Fct.valid, h']
  | 6, _, h => by have h' : within f.amount 0 86400000 = false := h; simp [Fct.valid, h']
  | 7, _, h => by have h' : within f.mark 0 1 = false := h; simp [Fct.valid, h']
  | k + 8, h, _ => by omega
theorem text_empty (t : ByteArray) : (t.toList == ByteArray.empty.toList) = t.data.toList.isEmpty := by
  rw [ByteArray.toList_eq, ByteArray.toList_eq]
  cases t.data.toList <;> rfl
theorem valid_yes {f : Fct} (hk : f.kind = 1) (h1 : 1 ≤ f.version) (h2 : f.version ≤ 1000) (h : ∀ j, j < 8 → within (fget f j) (flo j) (fhi j) = true) : Fct.same (strip f 8) (bare f.kind f.version) = f.valid := by
  have a0 : within f.id 1 1000000 = true := h 0 (by decide)
  have a1 : within f.account 1 1000000 = true := h 1 (by decide)
  have a2 : within f.device 1 1000000 = true := h 2 (by decide)
  have a3 : within f.recording 1 1000000 = true := h 3 (by decide)
  have a4 : within f.territory 0 7 = true := h 4 (by decide)
  have a5 : within f.second 0 3155759999 = true := h 5 (by decide)
  have a6 : within f.amount 0 86400000 = true := h 6 (by decide)
  have a7 : within f.mark 0 1 = true := h 7 (by decide)
  have a8 : within f.version 1 1000 = true := by unfold within; simp; omega
  have e := text_empty f.text
  simp only [Fct.valid, Fct.same, strip, bare, a0, a1, a2, a3, a4, a5, a6, a7, a8, hk, e, beq_self_eq_true, Bool.true_and, Bool.and_true, Bool.and_assoc]
/-! ### Sorting -/
abbrev PRow (A : Option Addr) (cap : Nat) (xs : List Fct) : Ent := .row A cap 100 18 (xs.map Fct.cells)
abbrev rowO (A : Option Addr) : List Nat := [Ent.row A 0 0 0 []].flatMap Ent.blocks
theorem exists_cons {α : Type} {l : List α} (h : 0 < l.length) : ∃ x r, l = x :: r := by
  cases l with
  | nil => simp at h
  | cons x r => exact ⟨x, r, rfl⟩
theorem exists_snoc {α : Type} {l : List α} (h : 0 < l.length) : ∃ r x, l = r ++ [x] := by
  have h' : l ≠ [] := by intro e; subst e; simp at h
  exact ⟨l.dropLast, l.getLast h', (List.dropLast_concat_getLast h').symm⟩
theorem split_at {α : Type} {l : List α} {k : Nat} (h : k ≤ l.length) : ∃ a b, l = a ++ b ∧ a.length = k := ⟨l.take k, l.drop k, (List.take_append_drop k l).symm, by simp; omega⟩
theorem start_insert (s : List Fct) (n a b : Nat) (ha : n = a) (hb : n + s.length = b) : ∃ S T, S ++ T = s ∧ Srt.Sorted before S ∧ T.foldl (fun acc x => Srt.ins before x acc) S = Srt.isort before s ∧ (n + S.length = a + 1 ∨ T = [] ∧ b ≤ a + 1) ∧ n + S.length + T.length = b := by
  cases s with
  | nil => exact ⟨[], [], rfl, List.Pairwise.nil, rfl, .inr ⟨rfl, by simp at hb; omega⟩, by simpa using hb⟩
  | cons x s => exact ⟨[x], s, rfl, List.pairwise_singleton _ _, rfl, .inl (by simp; omega), by simp at hb ⊢; omega⟩
theorem wrap_u64 {x y : Int} (e : x = y) (h0 : 0 ≤ x) (h1 : x < 9223372036854775808) : IntKind.u64.wrap x = y := by
  subst e
  unfold IntKind.wrap
  simp [IntKind.bits, IntKind.signed]
  omega
theorem wrap_i64 {x y : Int} (e : x = y) (h0 : 0 ≤ x) (h1 : x < 9223372036854775808) : IntKind.i64.wrap x = y := by
  subst e
  rw [IntKind.wrap_i64]; omega
theorem one_of {α : Type} {l : List α} (h : l.length = 1) : ∃ x, l = [x] := List.length_eq_one_iff.1 h
theorem get_some {α : Type} {l : List α} {k : Nat} (h : k < l.length) : ∃ x, l[k]? = some x := ⟨l[k], List.getElem?_eq_getElem h⟩
theorem cmpF_nneg {a b : Fct} (h : ¬ cmpF a b < 0) : before a b = false := by
  cases hb : before a b with
  | false => rfl
  | true => exact absurd ((cmpF_neg a b).2 hb) h
theorem valid_kind {f : Fct} (h : ¬ f.kind = 1) : f.valid = false := by
  have : (f.kind == 1) = false := by simpa using h
  simp [Fct.valid, this]
theorem take_succ {α : Type} {l : List α} {i : Nat} {x : α} (h : l[i]? = some x) : l.take (i + 1) = l.take i ++ [x] := by
  rw [List.take_add_one, h]; rfl
theorem valid_ranges {p : Fct} (h : p.valid = true) : 0 ≤ p.second ∧ p.second ≤ 3155759999 ∧ 0 ≤ p.amount ∧ p.amount ≤ 86400000 := by
  simp only [Fct.valid, within, Bool.and_eq_true, decide_eq_true_eq, beq_iff_eq] at h
  omega
theorem start_ok : PlrOk Plr.start := ⟨by decide, by decide, by decide, by decide, fun _ => Int.le_refl 0⟩
theorem arrive_sess {x : Plr} {p : Fct} {i : Int} (h : PlrOk x) (hi : x.session ≤ i) : 0 ≤ (x.arrive p).session ∧ (x.arrive p).session ≤ i + 1 := by
  have hx := h.session
  rw [arrive_gap_eq]
  show 0 ≤ (x.gap p).session ∧ (x.gap p).session ≤ i + 1
  unfold Plr.gap Plr.fresh Plr.begin
  repeat' split
  all_goals (first | omega | (dsimp only at *; omega))
theorem look_sess {x : Plr} {p : Fct} {i : Nat} (h : PlrOk x) (h0 : 0 ≤ p.second) (h1 : p.second ≤ 3155759999) (hi : x.session ≤ (i : Int)) : (x.look p).1.session ≤ ((i + 1 : Nat) : Int) := by
  have := (arrive_sess (p := p) h hi).2
  unfold Plr.look
  dsimp only
  split
  · show (x.arrive p).session ≤ _; omega
  · show (x.arrive p).session ≤ _; omega
theorem look_ok {x : Plr} {p : Fct} {i : Nat} (h : PlrOk x) (h0 : 0 ≤ p.second) (h1 : p.second ≤ 3155759999) (hi : x.session ≤ (i : Int)) (hi2 : i + 1 ≤ 1000000) : PlrOk (x.look p).1 := by
  have h3 := arrive_sess (p := p) h hi
  have h4 := arrive_loops (fresh_ok (p := p) h h0 h1)
  have ha : PlrOk (x.arrive p) := ⟨h0, h1, h3.1, by omega, h4⟩
  unfold Plr.look
  dsimp only
  split
  · refine ⟨h0, h1, h3.1, by show (x.arrive p).session ≤ _; omega, fun r => ?_⟩
    show 0 ≤ (if r = p.recording then (x.arrive p).loops r + 1 else (x.arrive p).loops r)
    have := h4 r
    split <;> omega
  · exact ha
theorem counted_no {x : Plr} {p : Fct} {r : List Fct} (h : (x.look p).2 = false) : counted x (p :: r) = counted (x.look p).1 r := by rw [counted, if_neg (by rw [h]; simp)]
theorem counted_yes {x : Plr} {p : Fct} {r : List Fct} (h : (x.look p).2 = true) : counted x (p :: r) = strm (x.look p).1 p :: counted (x.look p).1 r := by rw [counted, if_pos h]
theorem prow_eq {w0 w : World} {O : List Nat} {A : Option Addr} {cap : Nat} {xs ys : List Fct} (e : xs = ys) (h : SL w0 O w [PRow A cap xs]) : SL w0 O w [PRow A cap ys] := e ▸ h
theorem get_at {xs : List Fct} {x : Fct} {k : Nat} (L R : List Fct) (h1 : xs = L ++ x :: R) (h2 : L.length = k) : (xs.map Fct.cells)[k]? = some x.cells := by
  subst h1; subst h2; simp
theorem set_at {xs ys : List Fct} {x v : Fct} {k : Nat} (L R : List Fct) (h1 : xs = L ++ x :: R) (h2 : L.length = k) (h3 : ys = L ++ v :: R) : (xs.map Fct.cells).set k v.cells = ys.map Fct.cells := by
  subst h1; subst h2; subst h3; simp
end Go.Proofs.YtpcfgoadkfajfaaGreatDoor.Se
namespace Go.Proofs.YtpcfgoadkfajfaaGreatDoor.Se
set_option linter.all false
open Go Go.RowKit
set_option maxRecDepth 100000
theorem ent_89 : ∀ args w, (callFunc 89 args).run Tryz.prog w = .ok (.enter 89 args) w := enters_of Tryz.func89 (by kernel_rfl) rfl
theorem fld_100_0 : Fld Tryz.prog 100 0 0 := ⟨_, _, (Tryz.prog.info? 27).get!, Tryz.underlying100, rfl, rfl, by kernel_rfl, by decide +kernel⟩
theorem fld_27_4 : Fld Tryz.prog 27 4 4 := ⟨_, _, (Tryz.prog.info? 3).get!, Tryz.underlying27, rfl, rfl, by kernel_rfl, by decide +kernel⟩
theorem one_3 : One Tryz.prog 3 := ⟨_, Tryz.underlying3, rfl⟩
theorem fld_27_13 : Fld Tryz.prog 27 13 13 := ⟨_, _, (Tryz.prog.info? 3).get!, Tryz.underlying27, rfl, rfl, by kernel_rfl, by decide +kernel⟩
theorem fld_27_16 : Fld Tryz.prog 27 16 16 := ⟨_, _, (Tryz.prog.info? 3).get!, Tryz.underlying27, rfl, rfl, by kernel_rfl, by decide +kernel⟩
theorem ent_115 : ∀ args w, (callFunc 115 args).run Tryz.prog w = .ok (.enter 115 args) w := enters_of Tryz.func115 (by kernel_rfl) rfl
theorem szt_3 : SzT Tryz.prog 3 1 := ⟨(Tryz.prog.info? 3).get!, by kernel_rfl, by kernel_rfl⟩

set_option maxRecDepth 100000 in
theorem w_periodIs {w : World} (p : Int) :
    Calls Tryz.prog 115 #[.int .i64 p] w (fun e w' => e = .returned (.bool (decide (0 ≤ p ∧ p < 1200))) ∧ SL w [] w' []) := by
 refine calls_of_CX (O := []) (L := []) (args := [.int .i64 p]) Tryz.func115 rfl (by simp [Tryz.ntmps115]) (SL.refl w) ?_
 refine CX.sub (V' := [(0, .int .i64 p)]) ⟨rfl, trivial⟩ ?_
 refine CX.seq ?_
 refine CX.region ?_
 refine RX.cons rfl rfl (op_w (yw_assign rfl rfl) rfl rfl ?_)
 refine RX.nil (XX.next (V' := [(0, _)]) ⟨rfl, trivial⟩ ?_)
 refine CX.seq ?_
 refine CX.region ?_
 refine RX.cons rfl rfl (op_w (yw_move rfl rfl) rfl rfl ?_)
 refine RX.cons rfl rfl (op_w (yw_geq rfl rfl rfl) rfl rfl ?_)
 refine RX.cons rfl rfl (op_w (yw_move rfl rfl) rfl rfl ?_)
 refine RX.splitD (t := 5) (p := 0 ≤ p) rfl (fun d5 => ?_) (fun d5 => ?_)
 ·refine RX.consG rfl rfl rfl rfl rfl (op_w (yw_move rfl rfl) rfl rfl ?_)
  refine RX.consG rfl rfl rfl rfl rfl (op_w (yw_lss rfl rfl rfl) rfl rfl ?_)
  refine RX.cons rfl rfl (op_w (yw_pickT rfl rfl rfl) rfl rfl ?_)
  refine RX.cons rfl rfl (op_w (yw_assign rfl rfl) rfl rfl ?_)
  refine RX.nil (XX.next (V' := [(2, .bool (decide (p < 1200)))]) ⟨rfl, trivial⟩ ?_)
  refine CX.ret ?_
  exact ret_tmp rfl rfl fun w1 hw => ⟨by simp [*], hw.sub (List.nil_sublist _)⟩
 ·refine RX.skip rfl rfl rfl rfl rfl rfl rfl ?_
  refine RX.skip rfl rfl rfl rfl rfl rfl rfl ?_
  refine RX.cons rfl rfl (op_w (yw_pickF rfl rfl rfl) rfl rfl ?_)
  refine RX.cons rfl rfl (op_w (yw_assign rfl rfl) rfl rfl ?_)
  refine RX.nil (XX.next (V' := [(2, .bool false)]) ⟨rfl, trivial⟩ ?_)
  refine CX.ret ?_
  exact ret_tmp rfl rfl fun w1 hw => ⟨by simp [*], hw.sub (List.nil_sublist _)⟩

set_option maxRecDepth 100000 in
theorem w_isNaN {w : World} (p : Int) :
    Calls Tryz.prog 89 #[.int .i64 p] w (fun e w' => e = .returned (.bool false) ∧ SL w [] w' []) := by
 refine calls_of_CX (O := []) (L := []) (args := [.int .i64 p]) Tryz.func89 rfl (by simp [Tryz.ntmps89]) (SL.refl w) ?_
 refine CX.sub (V' := [(0, .int .i64 p)]) ⟨rfl, trivial⟩ ?_
 refine CX.seq ?_
 refine CX.region ?_
 refine RX.cons rfl rfl (op_w (yw_assign rfl rfl) rfl rfl ?_)
 refine RX.nil (XX.next (V' := [(0, _)]) ⟨rfl, trivial⟩ ?_)
 refine CX.seq ?_
 refine CX.region ?_
 refine RX.cons rfl rfl (op_w (yw_move rfl rfl) rfl rfl ?_)
 refine RX.cons rfl rfl (op_w (yw_move rfl rfl) rfl rfl ?_)
 refine RX.cons rfl rfl (op_w (yw_neq rfl rfl rfl) rfl rfl ?_)
 refine RX.cons rfl rfl (op_w (yw_assign rfl rfl) rfl rfl ?_)
 refine RX.nil (XX.next (V' := [(2, .bool (decide (p ≠ p)))]) ⟨rfl, trivial⟩ ?_)
 refine CX.ret ?_
 exact ret_tmp rfl rfl fun w1 hw => ⟨by simp, hw.sub (List.nil_sublist _)⟩

set_option maxRecDepth 100000 in
theorem w_compare {w : World} (p q : Int) :
    Calls Tryz.prog 38 #[.int .i64 p, .int .i64 q] w (fun e w' => e = .returned (.int .i64 (if p < q then -1 else if q < p then 1 else 0)) ∧ SL w [] w' []) := by
 refine calls_of_CX (O := []) (L := []) (args := [.int .i64 p, .int .i64 q]) Tryz.func38 rfl (by simp [Tryz.ntmps38]) (SL.refl w) ?_
 refine CX.sub (V' := [(0, .int .i64 p), (1, .int .i64 q)]) ⟨rfl, rfl, trivial⟩ ?_
 refine CX.seq ?_
 refine CX.region ?_
 refine RX.cons rfl rfl (op_w (yw_assign rfl rfl) rfl rfl ?_)
 refine RX.nil (XX.next (V' := [(0, _), (1, _)]) ⟨rfl, rfl, trivial⟩ ?_)
 refine CX.seq ?_
 refine CX.region ?_
 refine RX.cons rfl rfl (op_w (yw_move rfl rfl) rfl rfl ?_)
 refine RX.cons rfl rfl (op_callV (v := .bool false) rfl rfl rfl rfl rfl ent_89 (fun w _ => w_isNaN p) ?_)
 refine RX.cons rfl rfl (op_w (yw_assign rfl rfl) rfl rfl ?_)
 refine RX.nil (XX.next (V' := [(0, _), (1, _), (5, _)]) ⟨rfl, rfl, rfl, trivial⟩ ?_)
 refine CX.seq ?_
 refine CX.region ?_
 refine RX.cons rfl rfl (op_w (yw_move rfl rfl) rfl rfl ?_)
 refine RX.cons rfl rfl (op_callV (v := .bool false) rfl rfl rfl rfl rfl ent_89 (fun w _ => w_isNaN q) ?_)
 refine RX.cons rfl rfl (op_w (yw_assign rfl rfl) rfl rfl ?_)
 refine RX.nil (XX.next (V' := [(0, _), (1, _), (5, _), (6, _)]) ⟨rfl, rfl, rfl, rfl, trivial⟩ ?_)
 refine CX.seq ?_
 refine CX.seq ?_
 refine CX.region ?_
 refine RX.cons rfl rfl (op_w (yw_move rfl rfl) rfl rfl ?_)
 refine RX.nil (XX.next (V' := [(0, _), (1, _), (6, _), (11, _)]) ⟨rfl, rfl, rfl, rfl, trivial⟩ ?_)
 refine CX.condF rfl ?_
 refine CX.skip (XX.next (V' := [(0, _), (1, _), (6, _)]) ⟨rfl, rfl, rfl, trivial⟩ ?_)
 refine CX.seq ?_
 refine CX.seq ?_
 refine CX.region ?_
 refine RX.cons rfl rfl (op_w (yw_move rfl rfl) rfl rfl ?_)
 refine RX.nil (XX.next (V' := [(0, _), (1, _), (13, _)]) ⟨rfl, rfl, rfl, trivial⟩ ?_)
 refine CX.condF rfl ?_
 refine CX.skip (XX.next (V' := [(0, _), (1, _)]) ⟨rfl, rfl, trivial⟩ ?_)
 refine CX.seq ?_
 refine CX.seq ?_
 refine CX.region ?_
 refine RX.cons rfl rfl (op_w (yw_move rfl rfl) rfl rfl ?_)
 refine RX.cons rfl rfl (op_w (yw_move rfl rfl) rfl rfl ?_)
 refine RX.cons rfl rfl (op_w (yw_lss rfl rfl rfl) rfl rfl ?_)
 refine RX.nil (XX.next (V' := [(0, _), (1, _), (16, _)]) ⟨rfl, rfl, rfl, trivial⟩ ?_)
 refine CX.condD (p := p < q) rfl (fun c16 => ?_) (fun c16 => ?_)
 ·refine CX.seq ?_
  refine CX.region ?_
  refine RX.cons rfl rfl (op_w (yw_assign rfl rfl) rfl rfl ?_)
  refine RX.nil (XX.next (V' := [(4, .int .i64 (-1))]) ⟨rfl, trivial⟩ ?_)
  refine CX.ret ?_
  refine XX.then_ret ?_
  exact ret_tmp rfl rfl fun w1 hw => ⟨by simp [*], hw.sub (List.nil_sublist _)⟩
 ·refine CX.skip (XX.next (V' := [(0, _), (1, _)]) ⟨rfl, rfl, trivial⟩ ?_)
  refine CX.seq ?_
  refine CX.seq ?_
  refine CX.region ?_
  refine RX.cons rfl rfl (op_w (yw_move rfl rfl) rfl rfl ?_)
  refine RX.cons rfl rfl (op_w (yw_move rfl rfl) rfl rfl ?_)
  refine RX.cons rfl rfl (op_w (yw_gtr rfl rfl rfl) rfl rfl ?_)
  refine RX.nil (XX.next (V' := [(19, _)]) ⟨rfl, trivial⟩ ?_)
  refine CX.condD (p := q < p) rfl (fun c19 => ?_) (fun c19 => ?_)
  ·refine CX.seq ?_
   refine CX.region ?_
   refine RX.cons rfl rfl (op_w (yw_assign rfl rfl) rfl rfl ?_)
   refine RX.nil (XX.next (V' := [(4, .int .i64 1)]) ⟨rfl, trivial⟩ ?_)
   refine CX.ret ?_
   refine XX.then_ret ?_
   exact ret_tmp rfl rfl fun w1 hw => ⟨by simp [*], hw.sub (List.nil_sublist _)⟩
  ·refine CX.skip (XX.next (V' := []) trivial ?_)
   refine CX.seq ?_
   refine CX.region ?_
   refine RX.cons rfl rfl (op_w (yw_assign rfl rfl) rfl rfl ?_)
   refine RX.nil (XX.next (V' := [(4, .int .i64 0)]) ⟨rfl, trivial⟩ ?_)
   refine CX.ret ?_
   exact ret_tmp rfl rfl fun w1 hw => ⟨by simp [*], hw.sub (List.nil_sublist _)⟩





set_option maxRecDepth 100000 in
theorem w_end {w : World} (f : Fct) (h0 : 0 ≤ f.second) (h1 : f.second ≤ 3155759999) (h2 : 0 ≤ f.amount) (h3 : f.amount ≤ 86400000) :
    Calls Tryz.prog 94 #[.agg (Fct.cells f)] w (fun e w' => e = .returned (.int .i64 f.stop) ∧ SL w [] w' []) := by
 refine calls_of_CX (O := []) (L := []) (args := [.agg (Fct.cells f)]) Tryz.func94 rfl (by simp [Tryz.ntmps94]) (SL.refl w) ?_
 refine CX.sub (V' := [(0, .agg (Fct.cells f))]) ⟨rfl, trivial⟩ ?_
 refine CX.seq ?_
 refine CX.region ?_
 refine RX.cons rfl rfl (op_box rfl rfl rfl rfl fun g1 => ?_)
 refine RX.cons rfl rfl (op_w (yw_assign rfl rfl) rfl rfl ?_)
 refine RX.nil (XX.next (V' := [(1, _)]) ⟨rfl, trivial⟩ ?_)
 refine CX.seq ?_
 refine CX.region ?_
 refine RX.cons rfl rfl (op_w (yw_field0 rfl fld_100_0 rfl) rfl rfl ?_)
 refine RX.cons rfl rfl (op_w (yw_fieldAddr rfl fld_27_4 rfl) rfl rfl ?_)
 refine RX.cons rfl rfl (op_yld (y_load (i := 0) rfl rfl one_3 rfl rfl) rfl rfl ?_)
 refine RX.cons rfl rfl (op_w (yw_field0 rfl fld_100_0 rfl) rfl rfl ?_)
 refine RX.cons rfl rfl (op_w (yw_fieldAddr rfl fld_27_13 rfl) rfl rfl ?_)
 refine RX.cons rfl rfl (op_yld (y_load (i := 0) rfl rfl one_3 rfl rfl) rfl rfl ?_)
 refine RX.cons rfl rfl (op_w (yw_add rfl rfl rfl (by omega) (by omega)) rfl rfl ?_)
 refine RX.cons rfl rfl (op_w (yw_quo rfl rfl rfl (by omega) (by omega) (by omega)) rfl rfl ?_)
 refine RX.cons rfl rfl (op_w (yw_add rfl rfl rfl (by omega) (by omega)) rfl rfl ?_)
 refine RX.cons rfl rfl (op_w (yw_assign rfl rfl) rfl rfl ?_)
 refine RX.nil (XX.next (V' := [(2, .int .i64 (f.second + ((f.amount + 999) / 1000)))]) ⟨rfl, trivial⟩ ?_)
 refine CX.ret ?_
 exact ret_tmp rfl rfl fun w1 hw => ⟨rfl, hw.sub (List.nil_sublist _)⟩

set_option maxRecDepth 100000 in
theorem w_qualifies {w : World} (f : Fct) :
    Calls Tryz.prog 93 #[.agg (Fct.cells f)] w (fun e w' => e = .returned (.bool f.qual) ∧ SL w [] w' []) := by
 refine calls_of_CX (O := []) (L := []) (args := [.agg (Fct.cells f)]) Tryz.func93 rfl (by simp [Tryz.ntmps93]) (SL.refl w) ?_
 refine CX.sub (V' := [(0, .agg (Fct.cells f))]) ⟨rfl, trivial⟩ ?_
 refine CX.seq ?_
 refine CX.region ?_
 refine RX.cons rfl rfl (op_box rfl rfl rfl rfl fun g1 => ?_)
 refine RX.cons rfl rfl (op_w (yw_assign rfl rfl) rfl rfl ?_)
 refine RX.nil (XX.next (V' := [(1, _)]) ⟨rfl, trivial⟩ ?_)
 refine CX.seq ?_
 refine CX.region ?_
 refine RX.cons rfl rfl (op_w (yw_field0 rfl fld_100_0 rfl) rfl rfl ?_)
 refine RX.cons rfl rfl (op_w (yw_fieldAddr rfl fld_27_13 rfl) rfl rfl ?_)
 refine RX.cons rfl rfl (op_yld (y_load (i := 0) rfl rfl one_3 rfl rfl) rfl rfl ?_)
 refine RX.cons rfl rfl (op_w (yw_geq rfl rfl rfl) rfl rfl ?_)
 refine RX.cons rfl rfl (op_w (yw_move rfl rfl) rfl rfl ?_)
 refine RX.splitD (t := 7) (p := 30000 ≤ f.amount) rfl (fun d7 => ?_) (fun d7 => ?_)
 ·refine RX.consG rfl rfl rfl rfl rfl (op_w (yw_field0 rfl fld_100_0 rfl) rfl rfl ?_)
  refine RX.consG rfl rfl rfl rfl rfl (op_w (yw_fieldAddr rfl fld_27_16 rfl) rfl rfl ?_)
  refine RX.consG rfl rfl rfl rfl rfl (op_yld (y_load (i := 0) rfl rfl one_3 rfl rfl) rfl rfl ?_)
  refine RX.consG rfl rfl rfl rfl rfl (op_w (yw_eql rfl rfl rfl) rfl rfl ?_)
  refine RX.cons rfl rfl (op_w (yw_pickT rfl rfl rfl) rfl rfl ?_)
  refine RX.cons rfl rfl (op_w (yw_assign rfl rfl) rfl rfl ?_)
  refine RX.nil (XX.next (V' := [(2, .bool (decide (f.mark = 0)))]) ⟨rfl, trivial⟩ ?_)
  refine CX.ret ?_
  exact ret_tmp rfl rfl fun w1 hw => ⟨by simp [Fct.qual, *] <;> rfl, hw.sub (List.nil_sublist _)⟩
 ·refine RX.skip rfl rfl rfl rfl rfl rfl rfl ?_
  refine RX.skip rfl rfl rfl rfl rfl rfl rfl ?_
  refine RX.skip rfl rfl rfl rfl rfl rfl rfl ?_
  refine RX.skip rfl rfl rfl rfl rfl rfl rfl ?_
  refine RX.cons rfl rfl (op_w (yw_pickF rfl rfl rfl) rfl rfl ?_)
  refine RX.cons rfl rfl (op_w (yw_assign rfl rfl) rfl rfl ?_)
  refine RX.nil (XX.next (V' := [(2, .bool false)]) ⟨rfl, trivial⟩ ?_)
  refine CX.ret ?_
  exact ret_tmp rfl rfl fun w1 hw => ⟨by simp [Fct.qual, *] <;> rfl, hw.sub (List.nil_sublist _)⟩

set_option maxRecDepth 100000 in
theorem w_periodIs2 {w : World} (p : Int) :
    Calls Tryz.prog 115 #[.int .i64 p] w (fun e w' => e = .returned (.bool (decide (0 ≤ p ∧ p < 1200))) ∧ SL w [] w' []) := by
 refine calls_of_CX (O := []) (L := []) (args := [.int .i64 p]) Tryz.func115 rfl (by simp [Tryz.ntmps115]) (SL.refl w) ?_
 refine CX.sub (V' := [(0, .int .i64 p)]) ⟨rfl, trivial⟩ ?_
 refine CX.seq ?_
 refine CX.region ?_
 refine RX.cons rfl rfl (op_w (yw_assign rfl rfl) rfl rfl ?_)
 refine RX.nil (XX.next (V' := [(0, _)]) ⟨rfl, trivial⟩ ?_)
 refine CX.seq ?_
 refine CX.region ?_
 refine RX.cons rfl rfl (op_w (yw_move rfl rfl) rfl rfl ?_)
 refine RX.cons rfl rfl (op_w (yw_geq rfl rfl rfl) rfl rfl ?_)
 refine RX.cons rfl rfl (op_w (yw_move rfl rfl) rfl rfl ?_)
 refine RX.splitD (t := 5) (p := 0 ≤ p) rfl (fun d5 => ?_) (fun d5 => ?_)
 ·refine RX.consG rfl rfl rfl rfl rfl (op_w (yw_move rfl rfl) rfl rfl ?_)
  refine RX.consG rfl rfl rfl rfl rfl (op_w (yw_lss rfl rfl rfl) rfl rfl ?_)
  refine RX.cons rfl rfl (op_w (yw_pickT rfl rfl rfl) rfl rfl ?_)
  refine RX.cons rfl rfl (op_w (yw_assign rfl rfl) rfl rfl ?_)
  refine RX.nil (XX.next (V' := [(2, .bool (decide (p < 1200)))]) ⟨rfl, trivial⟩ ?_)
  refine CX.ret ?_
  exact ret_tmp rfl rfl fun w1 hw => ⟨by simp [*], hw.sub (List.nil_sublist _)⟩
 ·refine RX.skip rfl rfl rfl rfl rfl rfl rfl ?_
  refine RX.skip rfl rfl rfl rfl rfl rfl rfl ?_
  refine RX.cons rfl rfl (op_w (yw_pickF rfl rfl rfl) rfl rfl ?_)
  refine RX.cons rfl rfl (op_w (yw_assign rfl rfl) rfl rfl ?_)
  refine RX.nil (XX.next (V' := [(2, .bool false)]) ⟨rfl, trivial⟩ ?_)
  refine CX.ret ?_
  exact ret_tmp rfl rfl fun w1 hw => ⟨by simp [*], hw.sub (List.nil_sublist _)⟩



set_option maxRecDepth 100000 in
theorem w_days {w : World} (hG : Lens w) (p : Int) :
    Calls Tryz.prog 95 #[.int .i64 p] w (fun e w' => e = .returned (.int .i64 (days p)) ∧ SL w [] w' []) := by
 refine calls_of_CX (O := []) (L := []) (args := [.int .i64 p]) Tryz.func95 rfl (by simp [Tryz.ntmps95]) (SL.refl w) ?_
 refine CX.sub (V' := [(0, .int .i64 p)]) ⟨rfl, trivial⟩ ?_
 refine CX.seq ?_
 refine CX.region ?_
 refine RX.cons rfl rfl (op_w (yw_assign rfl rfl) rfl rfl ?_)
 refine RX.nil (XX.next (V' := [(0, _)]) ⟨rfl, trivial⟩ ?_)
 refine CX.seq ?_
 refine CX.seq ?_
 refine CX.region ?_
 refine RX.cons rfl rfl (op_w (yw_move rfl rfl) rfl rfl ?_)
 refine RX.cons rfl rfl (op_callV (v := .bool (decide (0 ≤ p ∧ p < 1200))) rfl rfl rfl rfl rfl ent_115 (fun w _ => w_periodIs p) ?_)
 refine RX.cons rfl rfl (op_w (yw_notD rfl rfl) rfl rfl ?_)
 refine RX.nil (XX.next (V' := [(0, _), (5, _)]) ⟨rfl, rfl, trivial⟩ ?_)
 refine CX.condD (p := ¬ (0 ≤ p ∧ p < 1200)) rfl (fun c5 => ?_) (fun c5 => ?_)
 ·refine CX.seq ?_
  refine CX.region ?_
  refine RX.cons rfl rfl (op_w (yw_assign rfl rfl) rfl rfl ?_)
  refine RX.nil (XX.next (V' := [(2, .int .i64 0)]) ⟨rfl, trivial⟩ ?_)
  refine CX.ret ?_
  refine XX.then_ret ?_
  exact ret_tmp rfl rfl fun w1 hw => ⟨by rw [days_out p (by simpa using c5)], hw.sub (List.nil_sublist _)⟩
 ·have c5' : 0 ≤ p ∧ p < 1200 := by simpa using c5
  refine CX.skip (XX.next (V' := [(0, _)]) ⟨rfl, trivial⟩ ?_)
  refine CX.seq ?_
  refine CX.seq ?_
  refine CX.region ?_
  refine RX.cons rfl rfl (op_w (yw_move rfl rfl) rfl rfl ?_)
  refine RX.cons rfl rfl (op_w (yw_rem rfl rfl rfl (by omega) (by omega)) rfl rfl ?_)
  refine RX.cons rfl rfl (op_w (yw_eql rfl rfl rfl) rfl rfl ?_)
  refine RX.nil (XX.next (V' := [(0, _), (8, _)]) ⟨rfl, rfl, trivial⟩ ?_)
  refine CX.condD (p := p % 48 = 1) rfl (fun c8 => ?_) (fun c8 => ?_)
  ·refine CX.seq ?_
   refine CX.region ?_
   refine RX.cons rfl rfl (op_w (yw_indexArr (k := 1) rfl Tryz.underlying172 szt_3 rfl rfl (by omega) (by decide)) rfl rfl ?_)
   refine RX.cons rfl rfl (op_yld (y_loadG (v := .int .i64 28) rfl rfl one_3 (hG 1 (by decide)) (by simp)) rfl rfl ?_)
   refine RX.cons rfl rfl (op_w (yw_add rfl rfl rfl (by omega) (by omega)) rfl rfl ?_)
   refine RX.cons rfl rfl (op_w (yw_assign rfl rfl) rfl rfl ?_)
   refine RX.nil (XX.next (V' := [(2, .int .i64 (28 + 1))]) ⟨rfl, trivial⟩ ?_)
   refine CX.ret ?_
   refine XX.then_ret ?_
   exact ret_tmp rfl rfl fun w1 hw => ⟨by rw [days_eq p (by simpa using c5)]; simp [c8, monthLen], hw.sub (List.nil_sublist _)⟩
  ·refine CX.skip (XX.next (V' := [(0, _)]) ⟨rfl, trivial⟩ ?_)
   refine CX.seq ?_
   refine CX.region ?_
   refine RX.cons rfl rfl (op_w (yw_move rfl rfl) rfl rfl ?_)
   refine RX.cons rfl rfl (op_w (yw_rem rfl rfl rfl (by omega) (by omega)) rfl rfl ?_)
   refine RX.cons rfl rfl (op_w (yw_indexArr (k := (p % 12).toNat) rfl Tryz.underlying172 szt_3 rfl rfl (by omega) (by omega)) rfl rfl ?_)
   refine RX.cons rfl rfl (op_yld (y_loadG (v := .int .i64 (monthLen (p % 12).toNat)) rfl rfl one_3 (hG _ (by omega)) (by simp)) rfl rfl ?_)
   refine RX.cons rfl rfl (op_w (yw_assign rfl rfl) rfl rfl ?_)
   refine RX.nil (XX.next (V' := [(2, .int .i64 (monthLen (p % 12).toNat))]) ⟨rfl, trivial⟩ ?_)
   refine CX.ret ?_
   exact ret_tmp rfl rfl fun w1 hw => ⟨by rw [days_eq p (by simpa using c5)]; simp [c8, monthLen], hw.sub (List.nil_sublist _)⟩

end Go.Proofs.YtpcfgoadkfajfaaGreatDoor.Se
namespace Go.Proofs.YtpcfgoadkfajfaaGreatDoor.Se
set_option linter.all false
open Go Go.RowKit
set_option maxRecDepth 100000
theorem slt_24 : SlT Tryz.prog 24 3 1 := ⟨(Tryz.prog.info? 3).get!, Tryz.underlying24, by kernel_rfl, by kernel_rfl⟩
theorem fld_27_6 : Fld Tryz.prog 27 6 6 := ⟨_, _, (Tryz.prog.info? 3).get!, Tryz.underlying27, rfl, rfl, by kernel_rfl, by decide +kernel⟩
theorem fld_27_1 : Fld Tryz.prog 27 1 1 := ⟨_, _, (Tryz.prog.info? 3).get!, Tryz.underlying27, rfl, rfl, by kernel_rfl, by decide +kernel⟩
theorem ent_38 : ∀ args w, (callFunc 38 args).run Tryz.prog w = .ok (.enter 38 args) w := enters_of Tryz.func38 (by kernel_rfl) rfl
theorem slb_24 : SlB Tryz.prog 24 3 1 8 (.int .i64 0) := ⟨Tryz.underlying24, ⟨(Tryz.prog.info? 3).get!, by kernel_rfl, by kernel_rfl, by kernel_rfl, by kernel_rfl⟩, by decide, by decide⟩
theorem ent_97 : ∀ args w, (callFunc 97 args).run Tryz.prog w = .ok (.enter 97 args) w := enters_of Tryz.func97 (by kernel_rfl) rfl
theorem ent_95 : ∀ args w, (callFunc 95 args).run Tryz.prog w = .ok (.enter 95 args) w := enters_of Tryz.func95 (by kernel_rfl) rfl
set_option maxRecDepth 100000 in
theorem w_or {w : World} {A : Option Addr} {cap : Nat} (vs : List Int) (hr : Rd w A 1 (vs.map fun v => #[.int .i64 v])) (hn : vs.length ≤ 1000) :
    Calls Tryz.prog 97 #[.slice A vs.length cap] w (fun e w' => e = .returned (.int .i64 (firstNZ vs)) ∧ SL w [] w' []) := by
 refine calls_of_CX (O := []) (L := []) (args := [.slice A vs.length cap]) Tryz.func97 rfl (by simp [Tryz.ntmps97]) (SL.refl w) ?_
 refine CX.sub (V' := [(0, .slice A vs.length cap)]) ⟨rfl, trivial⟩ ?_
 refine CX.seq ?_
 refine CX.region ?_
 refine RX.cons rfl rfl (op_w (yw_assign rfl rfl) rfl rfl ?_)
 refine RX.nil (XX.next (V' := [(0, _)]) ⟨rfl, trivial⟩ ?_)
 refine CX.seq ?_
 refine CX.region ?_
 refine RX.cons rfl rfl (op_w (yw_assign rfl rfl) rfl rfl ?_)
 refine RX.nil (XX.next (V' := [(0, _), (3, _)]) ⟨rfl, rfl, trivial⟩ ?_)
 refine CX.seq ?_
 refine CX.seq ?_
 refine CX.region ?_
 refine RX.cons rfl rfl (op_w (yw_move rfl rfl) rfl rfl ?_)
 refine RX.cons rfl rfl (op_w (yw_lenS rfl Tryz.underlying24 rfl) rfl rfl ?_)
 refine RX.cons rfl rfl (op_w (yw_move rfl rfl) rfl rfl ?_)
 refine RX.nil (XX.next (V' := [(3, _), (6, _), (7, _), (8, _)]) ⟨rfl, rfl, rfl, rfl, trivial⟩ ?_)
 refine CX.block ?_
 refine CX.loop (σ := Nat) (fun x => [(3, .int .i64 0), (6, .slice A vs.length cap), (7, .int .i64 ((vs.length : Nat) : Int)), (8, .int .i64 ((x : Nat) : Int))]) (fun x => []) (fun x => x ≤ vs.length ∧ firstNZ vs = firstNZ (vs.drop x)) (fun x => vs.length - x) 0 ⟨Nat.zero_le _, by rw [List.drop_zero]⟩ ⟨rfl, rfl, rfl, rfl, trivial⟩ rfl (fun x hI => ?_)
 obtain ⟨hx, hf⟩ := hI
 refine CX.seq ?_
 refine CX.region ?_
 refine RX.cons rfl rfl (op_w (yw_lss rfl rfl rfl) rfl rfl ?_)
 refine RX.nil (XX.next (V' := [(3, _), (6, _), (7, _), (8, _), (9, _)]) ⟨rfl, rfl, rfl, rfl, rfl, trivial⟩ ?_)
 refine CX.seq ?_
 refine CX.condD (p := ((x : Nat) : Int) < ((vs.length : Nat) : Int)) rfl (fun c9 => ?_) (fun c9 => ?_)
 ·have hxn : x < vs.length := by omega
  obtain ⟨v, hv⟩ : ∃ v, vs[x]? = some v := ⟨vs[x], List.getElem?_eq_getElem hxn⟩
  refine CX.skip (XX.next (V' := [(3, _), (6, _), (7, _), (8, _)]) ⟨rfl, rfl, rfl, rfl, trivial⟩ ?_)
  refine CX.seq ?_
  refine CX.block ?_
  refine CX.seq ?_
  refine CX.region ?_
  refine RX.cons rfl rfl (op_w (yw_index (k := x) rfl slt_24 rfl rfl (by omega) (by omega) (hr.some (k := x) (by simpa using hxn))) rfl rfl ?_)
  refine RX.cons rfl rfl (op_yld (y_elem1 rfl rfl one_3 hr (by simp) (map_get hv)) rfl rfl ?_)
  refine RX.cons rfl rfl (op_w (yw_assign rfl rfl) rfl rfl ?_)
  refine RX.nil (XX.next (V' := [(3, _), (5, _), (6, _), (7, _), (8, _)]) ⟨rfl, rfl, rfl, rfl, rfl, trivial⟩ ?_)
  refine CX.seq ?_
  refine CX.region ?_
  refine RX.cons rfl rfl (op_w (yw_move rfl rfl) rfl rfl ?_)
  refine RX.cons rfl rfl (op_w (yw_move rfl rfl) rfl rfl ?_)
  refine RX.cons rfl rfl (op_w (yw_neq rfl rfl rfl) rfl rfl ?_)
  refine RX.nil (XX.next (V' := [(3, _), (5, _), (6, _), (7, _), (8, _), (14, _)]) ⟨rfl, rfl, rfl, rfl, rfl, rfl, trivial⟩ ?_)
  refine CX.condD (p := v ≠ 0) rfl (fun c14 => ?_) (fun c14 => ?_)
  ·refine CX.seq ?_
   refine CX.region ?_
   refine RX.cons rfl rfl (op_w (yw_move rfl rfl) rfl rfl ?_)
   refine RX.cons rfl rfl (op_w (yw_assign rfl rfl) rfl rfl ?_)
   refine RX.nil (XX.next (V' := [(2, .int .i64 v)]) ⟨rfl, trivial⟩ ?_)
   refine CX.ret ?_
   refine XX.block_ret ?_
   refine XX.then_ret ?_
   refine XX.then_ret ?_
   refine XX.block_ret ?_
   refine XX.then_ret ?_
   exact ret_tmp rfl rfl fun w1 hw => ⟨by rw [hf, drop_get hv]; simp [firstNZ, c14], hw.sub (List.nil_sublist _)⟩
  ·have c14' : v = 0 := by omega
   refine CX.skip (XX.inBlock (V' := [(3, _), (6, _), (7, _), (8, _)]) ⟨rfl, rfl, rfl, rfl, trivial⟩ ?_)
   refine XX.next (V' := [(3, _), (6, _), (7, _), (8, _)]) ⟨rfl, rfl, rfl, rfl, trivial⟩ ?_
   refine CX.region ?_
   refine RX.cons rfl rfl (op_w (yw_add rfl rfl rfl (by omega) (by omega)) rfl rfl ?_)
   refine RX.cons rfl rfl (op_w (yw_move rfl rfl) rfl rfl ?_)
   refine RX.nil (XX.againP ([]) (x + 1) (by omega) ⟨by omega, by rw [hf, drop_get hv]; simp [firstNZ, c14']⟩ ⟨rfl, rfl, rfl, rfl, trivial⟩ (List.Perm.refl _))
 ·refine CX.exit ?_
  refine XX.then_exit ?_
  refine XX.then_exit ?_
  refine XX.block_exit ?_
  refine XX.next (V' := [(3, _)]) ⟨rfl, trivial⟩ ?_
  refine CX.seq ?_
  refine CX.region ?_
  refine RX.cons rfl rfl (op_w (yw_move rfl rfl) rfl rfl ?_)
  refine RX.cons rfl rfl (op_w (yw_assign rfl rfl) rfl rfl ?_)
  refine RX.nil (XX.next (V' := [(2, .int .i64 0)]) ⟨rfl, trivial⟩ ?_)
  refine CX.ret ?_
  exact ret_tmp rfl rfl fun w1 hw => ⟨by rw [hf, List.drop_eq_nil_of_le (by omega)]; rfl, hw.sub (List.nil_sublist _)⟩

set_option maxRecDepth 100000 in
theorem w_cmp {w : World} (a b : Fct) :
    Calls Tryz.prog 46 #[.agg (Fct.cells a), .agg (Fct.cells b)] w (fun e w' => e = .returned (.int .i64 (cmpF a b)) ∧ SL w [] w' []) := by
 refine calls_of_CX (O := []) (L := []) (args := [.agg (Fct.cells a), .agg (Fct.cells b)]) Tryz.func46 rfl (by simp [Tryz.ntmps46]) (SL.refl w) ?_
 refine CX.sub (V' := [(0, .agg (Fct.cells a)), (1, .agg (Fct.cells b))]) ⟨rfl, rfl, trivial⟩ ?_
 refine CX.seq ?_
 refine CX.region ?_
 refine RX.cons rfl rfl (op_box rfl rfl rfl rfl fun g1 => ?_)
 refine RX.cons rfl rfl (op_box rfl rfl rfl rfl fun g2 => ?_)
 refine RX.cons rfl rfl (op_w (yw_assign rfl rfl) rfl rfl ?_)
 refine RX.nil (XX.next (V' := [(2, _), (3, _)]) ⟨rfl, rfl, trivial⟩ ?_)
 refine CX.seq ?_
 refine CX.draw 24 [(0, 4, 32), (1, 32, 64), (2, 64, 128), (0, 8, 256), (8, 256, 512), (16, 512, 1024), (36, 1152, 2048), (0, 4, 4096), (128, 4096, 8192), (256, 8192, 16384), (0, 8, 32768), (1024, 32768, 65536), (2048, 65536, 131072), (4672, 147456, 262144), (0, 4, 524288), (16384, 524288, 1048576), (32768, 1048576, 2097152), (0, 8, 4194304), (131072, 4194304, 8388608), (262144, 8388608, 16777216), (598016, 18874368, 33554432), (1056832, 33818624, 67108864), (3145728, 67108864, 134217728), (8388607, 134217728, 16)] (by kernel_rfl) (by kernel_rfl) (by kernel_rfl) ?_
 refine DX.takeW 0 1 (by kernel_rfl) rfl rfl rfl rfl rfl (yw_field0 rfl fld_100_0 rfl) ?_
 refine DX.takeW 1 3 (by kernel_rfl) rfl rfl rfl rfl rfl (yw_fieldAddr rfl fld_27_6 rfl) ?_
 refine DX.take 2 7 (by kernel_rfl) rfl rfl rfl rfl rfl (List.Sublist.refl _) (y_load (i := 1) rfl rfl one_3 rfl rfl) ?_
 refine DX.takeW 3 15 (by kernel_rfl) rfl rfl rfl rfl rfl (yw_field0 rfl fld_100_0 rfl) ?_
 refine DX.takeW 4 31 (by kernel_rfl) rfl rfl rfl rfl rfl (yw_fieldAddr rfl fld_27_6 rfl) ?_
 refine DX.take 5 63 (by kernel_rfl) rfl rfl rfl rfl rfl (List.Sublist.refl _) (y_load (i := 0) rfl rfl one_3 rfl rfl) ?_
 refine DX.takeW 7 191 (by kernel_rfl) rfl rfl rfl rfl rfl (yw_field0 rfl fld_100_0 rfl) ?_
 refine DX.takeW 8 447 (by kernel_rfl) rfl rfl rfl rfl rfl (yw_fieldAddr rfl fld_27_4 rfl) ?_
 refine DX.take 9 959 (by kernel_rfl) rfl rfl rfl rfl rfl (List.Sublist.refl _) (y_load (i := 1) rfl rfl one_3 rfl rfl) ?_
 refine DX.takeW 10 1983 (by kernel_rfl) rfl rfl rfl rfl rfl (yw_field0 rfl fld_100_0 rfl) ?_
 refine DX.takeW 11 4031 (by kernel_rfl) rfl rfl rfl rfl rfl (yw_fieldAddr rfl fld_27_4 rfl) ?_
 refine DX.take 12 8127 (by kernel_rfl) rfl rfl rfl rfl rfl (List.Sublist.refl _) (y_load (i := 0) rfl rfl one_3 rfl rfl) ?_
 refine DX.takeW 14 24511 (by kernel_rfl) rfl rfl rfl rfl rfl (yw_field0 rfl fld_100_0 rfl) ?_
 refine DX.takeW 15 57279 (by kernel_rfl) rfl rfl rfl rfl rfl (yw_fieldAddr rfl fld_27_1 rfl) ?_
 refine DX.take 16 122815 (by kernel_rfl) rfl rfl rfl rfl rfl (List.Sublist.refl _) (y_load (i := 1) rfl rfl one_3 rfl rfl) ?_
 refine DX.takeW 17 253887 (by kernel_rfl) rfl rfl rfl rfl rfl (yw_field0 rfl fld_100_0 rfl) ?_
 refine DX.takeW 18 516031 (by kernel_rfl) rfl rfl rfl rfl rfl (yw_fieldAddr rfl fld_27_1 rfl) ?_
 refine DX.take 19 1040319 (by kernel_rfl) rfl rfl rfl rfl rfl (List.Sublist.refl _) (y_load (i := 0) rfl rfl one_3 rfl rfl) ?_
 refine DX.step 6 1040383 (by kernel_rfl) rfl rfl rfl (op_callV (v := .int .i64 (cmp3 a.device b.device)) rfl rfl rfl rfl rfl ent_38 (fun w _ => w_compare a.device b.device) (DXs.mk (List.Sublist.refl _) ?_))
 refine DX.step 13 1048575 (by kernel_rfl) rfl rfl rfl (op_callV (v := .int .i64 (cmp3 a.second b.second)) rfl rfl rfl rfl rfl ent_38 (fun w _ => w_compare a.second b.second) (DXs.mk (List.Sublist.refl _) ?_))
 refine DX.step 20 2097151 (by kernel_rfl) rfl rfl rfl (op_callV (v := .int .i64 (cmp3 a.id b.id)) rfl rfl rfl rfl rfl ent_38 (fun w _ => w_compare a.id b.id) (DXs.mk (List.Sublist.refl _) ?_))
 refine DX.step 21 4194303 (by kernel_rfl) rfl rfl rfl (op_buildSlice rfl rfl rfl slb_24 rfl rfl (by intro v hv; simp only [List.mem_cons, List.not_mem_nil, or_false] at hv; rcases hv with rfl | rfl | rfl <;> exact ⟨rfl, (plain_of rfl)⟩) (by decide) fun g4 => (DXs.mk (List.Sublist.cons _ (List.Sublist.refl _)) ?_))
 refine DX.step 22 8388607 (by kernel_rfl) rfl rfl rfl (op_callV (v := .int .i64 (firstNZ [cmp3 a.device b.device, cmp3 a.second b.second, cmp3 a.id b.id])) rfl rfl rfl rfl rfl ent_97 (fun w hw => w_or [cmp3 a.device b.device, cmp3 a.second b.second, cmp3 a.id b.id] (Ent.rd (hw.ents _ List.mem_cons_self)) (by simp)) (DXs.mk (List.Sublist.cons _ (List.Sublist.refl _)) ?_))
 refine DX.takeW 23 16777215 (by kernel_rfl) rfl rfl rfl rfl rfl (yw_assign rfl rfl) ?_
 refine DX.done (by kernel_rfl) (XX.next (V' := [(4, .int .i64 (firstNZ [cmp3 a.device b.device, cmp3 a.second b.second, cmp3 a.id b.id]))]) ⟨rfl, trivial⟩ ?_)
 refine CX.ret ?_
 exact ret_tmp rfl rfl fun w1 hw => ⟨rfl, hw.sub (List.nil_sublist _)⟩

set_option maxRecDepth 100000 in
theorem w_of {w : World} (hG : Lens w) (s : Int) (hs : 0 ≤ s ∧ s ≤ 3155759999) :
    Calls Tryz.prog 43 #[.int .i64 s] w (fun e w' => e = .returned (.tuple #[.int .i64 (periodOf s), .int .i64 (dayOf s), .bool true]) ∧ SL w [] w' []) := by
 refine calls_of_CX (O := []) (L := []) (args := [.int .i64 s]) Tryz.func43 rfl (by simp [Tryz.ntmps43]) (SL.refl w) ?_
 refine CX.sub (V' := [(0, .int .i64 s)]) ⟨rfl, trivial⟩ ?_
 refine CX.seq ?_
 refine CX.region ?_
 refine RX.cons rfl rfl (op_w (yw_assign rfl rfl) rfl rfl ?_)
 refine RX.cons rfl rfl (op_w (yw_assign rfl rfl) rfl rfl ?_)
 refine RX.cons rfl rfl (op_w (yw_assign rfl rfl) rfl rfl ?_)
 refine RX.nil (XX.next (V' := [(0, _)]) ⟨rfl, trivial⟩ ?_)
 refine CX.seq ?_
 refine CX.seq ?_
 refine CX.region ?_
 refine RX.cons rfl rfl (op_w (yw_move rfl rfl) rfl rfl ?_)
 refine RX.cons rfl rfl (op_w (yw_lss rfl rfl rfl) rfl rfl ?_)
 refine RX.cons rfl rfl (op_w (yw_move rfl rfl) rfl rfl ?_)
 refine RX.splitD (t := 9) (p := s < 0) rfl (fun d9 => ?_) (fun d9 => ?_)
 ·exfalso; omega
 ·refine RX.consG rfl rfl rfl rfl rfl (op_w (yw_move rfl rfl) rfl rfl ?_)
  refine RX.consG rfl rfl rfl rfl rfl (op_w (yw_geq rfl rfl rfl) rfl rfl ?_)
  refine RX.cons rfl rfl (op_w (yw_pickF rfl rfl rfl) rfl rfl ?_)
  refine RX.nil (XX.next (V' := [(0, _), (12, _)]) ⟨rfl, rfl, trivial⟩ ?_)
  refine CX.condD (p := 3155760000 ≤ s) rfl (fun c12 => ?_) (fun c12 => ?_)
  ·exfalso; omega
  ·refine CX.skip (XX.next (V' := [(0, _)]) ⟨rfl, trivial⟩ ?_)
   refine CX.seq ?_
   refine CX.region ?_
   refine RX.cons rfl rfl (op_w (yw_move rfl rfl) rfl rfl ?_)
   refine RX.cons rfl rfl (op_w (yw_quo rfl rfl rfl (by omega) (by omega) (by omega)) rfl rfl ?_)
   refine RX.cons rfl rfl (op_w (yw_assign rfl rfl) rfl rfl ?_)
   refine RX.nil (XX.next (V' := [(5, _)]) ⟨rfl, trivial⟩ ?_)
   refine CX.seq ?_
   refine CX.region ?_
   refine RX.cons rfl rfl (op_w (yw_move rfl rfl) rfl rfl ?_)
   refine RX.cons rfl rfl (op_w (yw_quo rfl rfl rfl (by omega) (by omega) (by omega)) rfl rfl ?_)
   refine RX.cons rfl rfl (op_w (yw_mul rfl rfl rfl (by omega) (by omega)) rfl rfl ?_)
   refine RX.cons rfl rfl (op_w (yw_assign rfl rfl) rfl rfl ?_)
   refine RX.nil (XX.next (V' := [(5, _), (6, _)]) ⟨rfl, rfl, trivial⟩ ?_)
   refine CX.seq ?_
   refine CX.region ?_
   refine RX.cons rfl rfl (op_w (yw_move rfl rfl) rfl rfl ?_)
   refine RX.cons rfl rfl (op_w (yw_rem rfl rfl rfl (by omega) (by omega)) rfl rfl ?_)
   refine RX.cons rfl rfl (op_w (yw_assign rfl rfl) rfl rfl ?_)
   refine RX.nil (XX.next (V' := [(5, _), (6, _)]) ⟨rfl, rfl, trivial⟩ ?_)
   refine CX.seq ?_
   refine CX.seq ?_
   refine CX.region ?_
   refine RX.cons rfl rfl (op_w (yw_move rfl rfl) rfl rfl ?_)
   refine RX.nil (XX.next (V' := [(5, _), (6, _), (20, _)]) ⟨rfl, rfl, rfl, trivial⟩ ?_)
   refine CX.block ?_
   refine CX.loop (σ := Nat × Int × Int) (fun x => [(5, .int .i64 x.2.1), (6, .int .i64 x.2.2), (20, .int .i64 ((x.1 : Nat) : Int))]) (fun x => []) (fun x => x.1 ≤ 48 ∧ 0 ≤ x.2.1 ∧ x.2.1 ≤ 1461 ∧ 0 ≤ x.2.2 ∧ x.2.2 ≤ 1200 + (x.1 : Int) ∧ stepMonths (48 - x.1) x.2.1 x.2.2 = stepMonths 48 (s / 86400 % 1461) (s / 86400 / 1461 * 48)) (fun x => 48 - x.1) (0, s / 86400 % 1461, s / 86400 / 1461 * 48) ⟨by dsimp only; omega, by dsimp only; omega, by dsimp only; omega, by dsimp only; omega, by dsimp only; omega, rfl⟩ ⟨rfl, rfl, rfl, trivial⟩ rfl (fun x hI => ?_)
   obtain ⟨k, n, p⟩ := x
   dsimp only at hI ⊢
   obtain ⟨hk, hn0, hn1, hp0, hp1, hf⟩ := hI
   have hd := days_nn p
   have hd2 := days_le p
   refine CX.seq ?_
   refine CX.region ?_
   refine RX.cons rfl rfl (op_w (yw_lss rfl rfl rfl) rfl rfl ?_)
   refine RX.nil (XX.next (V' := [(5, _), (6, _), (20, _), (21, _)]) ⟨rfl, rfl, rfl, rfl, trivial⟩ ?_)
   refine CX.seq ?_
   refine CX.condD (p := ((k : Nat) : Int) < 48) rfl (fun c21 => ?_) (fun c21 => ?_)
   ·refine CX.skip (XX.next (V' := [(5, _), (6, _), (20, _)]) ⟨rfl, rfl, rfl, trivial⟩ ?_)
    refine CX.seq ?_
    refine CX.block ?_
    refine CX.seq ?_
    refine CX.seq ?_
    refine CX.region ?_
    refine RX.cons rfl rfl (op_w (yw_move rfl rfl) rfl rfl ?_)
    refine RX.cons rfl rfl (op_w (yw_move rfl rfl) rfl rfl ?_)
    refine RX.cons rfl rfl (op_callV (v := .int .i64 (days p)) rfl rfl rfl rfl rfl ent_95 (fun w hw => w_days (hG.keep hw (by simp)) p) ?_)
    refine RX.cons rfl rfl (op_w (yw_lss rfl rfl rfl) rfl rfl ?_)
    refine RX.nil (XX.next (V' := [(5, _), (6, _), (20, _), (25, _)]) ⟨rfl, rfl, rfl, rfl, trivial⟩ ?_)
    refine CX.condD (p := n < days p) rfl (fun c25 => ?_) (fun c25 => ?_)
    ·refine CX.exit ?_
     refine XX.then_exit ?_
     refine XX.block_pass rfl ?_
     refine XX.then_exit ?_
     refine XX.then_exit ?_
     refine XX.block_exit ?_
     refine XX.next (V' := [(5, _), (6, _)]) ⟨rfl, rfl, trivial⟩ ?_
     refine CX.seq ?_
     refine CX.region ?_
     refine RX.cons rfl rfl (op_w (yw_move rfl rfl) rfl rfl ?_)
     refine RX.cons rfl rfl (op_w (yw_move rfl rfl) rfl rfl ?_)
     refine RX.cons rfl rfl (op_w (yw_add rfl rfl rfl (by omega) (by omega)) rfl rfl ?_)
     refine RX.cons rfl rfl (op_w (yw_assign rfl rfl) rfl rfl ?_)
     refine RX.cons rfl rfl (op_w (yw_assign rfl rfl) rfl rfl ?_)
     refine RX.cons rfl rfl (op_w (yw_assign rfl rfl) rfl rfl ?_)
     refine RX.nil (XX.next (V' := [(2, .int .i64 p), (3, .int .i64 (n + 1)), (4, .bool true)]) ⟨rfl, rfl, rfl, trivial⟩ ?_)
     refine CX.ret ?_
     exact ret_tmp3 rfl rfl rfl rfl fun w1 hw => ⟨by rw [of_done (by omega) hf (.inl c25)], hw.sub (List.nil_sublist _)⟩
    ·refine CX.skip (XX.next (V' := [(5, _), (6, _), (20, _)]) ⟨rfl, rfl, rfl, trivial⟩ ?_)
     refine CX.seq ?_
     refine CX.region ?_
     refine RX.cons rfl rfl (op_w (yw_move rfl rfl) rfl rfl ?_)
     refine RX.cons rfl rfl (op_w (yw_move rfl rfl) rfl rfl ?_)
     refine RX.cons rfl rfl (op_callV (v := .int .i64 (days p)) rfl rfl rfl rfl rfl ent_95 (fun w hw => w_days (hG.keep hw (by simp)) p) ?_)
     refine RX.cons rfl rfl (op_w (yw_sub rfl rfl rfl (by omega) (by omega)) rfl rfl ?_)
     refine RX.cons rfl rfl (op_w (yw_assign rfl rfl) rfl rfl ?_)
     refine RX.nil (XX.next (V' := [(5, _), (6, _), (20, _)]) ⟨rfl, rfl, rfl, trivial⟩ ?_)
     refine CX.region ?_
     refine RX.cons rfl rfl (op_w (yw_move rfl rfl) rfl rfl ?_)
     refine RX.cons rfl rfl (op_w (yw_add rfl rfl rfl (by omega) (by omega)) rfl rfl ?_)
     refine RX.cons rfl rfl (op_w (yw_assign rfl rfl) rfl rfl ?_)
     refine RX.nil (XX.inBlock (V' := [(5, _), (6, _), (20, _)]) ⟨rfl, rfl, rfl, trivial⟩ ?_)
     refine XX.next (V' := [(5, _), (6, _), (20, _)]) ⟨rfl, rfl, rfl, trivial⟩ ?_
     refine CX.region ?_
     refine RX.cons rfl rfl (op_w (yw_add rfl rfl rfl (by omega) (by omega)) rfl rfl ?_)
     refine RX.cons rfl rfl (op_w (yw_move rfl rfl) rfl rfl ?_)
     refine RX.nil (XX.againP ([]) (k + 1, n - days p, p + 1) (by dsimp only; omega) ⟨by dsimp only; omega, by dsimp only; omega, by dsimp only; omega, by dsimp only; omega, by dsimp only; omega, by dsimp only; rw [← hf, step_more (by omega) c25]⟩ ⟨rfl, rfl, rfl, trivial⟩ (List.Perm.refl _))
   ·refine CX.exit ?_
    refine XX.then_exit ?_
    refine XX.then_exit ?_
    refine XX.block_exit ?_
    refine XX.next (V' := [(5, _), (6, _)]) ⟨rfl, rfl, trivial⟩ ?_
    refine CX.seq ?_
    refine CX.region ?_
    refine RX.cons rfl rfl (op_w (yw_move rfl rfl) rfl rfl ?_)
    refine RX.cons rfl rfl (op_w (yw_move rfl rfl) rfl rfl ?_)
    refine RX.cons rfl rfl (op_w (yw_add rfl rfl rfl (by omega) (by omega)) rfl rfl ?_)
    refine RX.cons rfl rfl (op_w (yw_assign rfl rfl) rfl rfl ?_)
    refine RX.cons rfl rfl (op_w (yw_assign rfl rfl) rfl rfl ?_)
    refine RX.cons rfl rfl (op_w (yw_assign rfl rfl) rfl rfl ?_)
    refine RX.nil (XX.next (V' := [(2, .int .i64 p), (3, .int .i64 (n + 1)), (4, .bool true)]) ⟨rfl, rfl, rfl, trivial⟩ ?_)
    refine CX.ret ?_
    exact ret_tmp3 rfl rfl rfl rfl fun w1 hw => ⟨by rw [of_done (by omega) hf (.inr (by omega))], hw.sub (List.nil_sublist _)⟩

end Go.Proofs.YtpcfgoadkfajfaaGreatDoor.Se
namespace Go.Proofs.YtpcfgoadkfajfaaGreatDoor.Se
set_option linter.all false
open Go Go.RowKit
set_option maxRecDepth 100000
theorem fld_99_3 : Fld Tryz.prog 99 3 3 := ⟨_, _, (Tryz.prog.info? 3).get!, Tryz.underlying99, rfl, rfl, by kernel_rfl, by decide +kernel⟩
theorem fld_99_4 : Fld Tryz.prog 99 4 4 := ⟨_, _, (Tryz.prog.info? 97).get!, Tryz.underlying99, rfl, rfl, by kernel_rfl, by decide +kernel⟩
theorem one_97 : One Tryz.prog 97 := ⟨_, Tryz.underlying97, rfl⟩
theorem mapt_97 : MapT Tryz.prog 97 (.int .i64 0) := ⟨_, _, (Tryz.prog.info? 3).get!, Tryz.underlying97, Tryz.underlying3, by kernel_rfl, by kernel_rfl⟩
theorem fld_99_0 : Fld Tryz.prog 99 0 0 := ⟨_, _, (Tryz.prog.info? 3).get!, Tryz.underlying99, rfl, rfl, by kernel_rfl, by decide +kernel⟩
theorem szt_99 : SzT Tryz.prog 99 5 := ⟨(Tryz.prog.info? 99).get!, by kernel_rfl, by kernel_rfl⟩
theorem ent_92 : ∀ args w, (callFunc 92 args).run Tryz.prog w = .ok (.enter 92 args) w := enters_of Tryz.func92 (by kernel_rfl) rfl
theorem fld_99_1 : Fld Tryz.prog 99 1 1 := ⟨_, _, (Tryz.prog.info? 3).get!, Tryz.underlying99, rfl, rfl, by kernel_rfl, by decide +kernel⟩
theorem agg_100 : AggT Tryz.prog 100 18 := ⟨_, _, Tryz.underlying100, rfl, (by kernel_rfl : Tryz.prog.info? 100 = some (Tryz.prog.info? 100).get!), by kernel_rfl⟩
theorem ent_93 : ∀ args w, (callFunc 93 args).run Tryz.prog w = .ok (.enter 93 args) w := enters_of Tryz.func93 (by kernel_rfl) rfl
theorem fld_99_2 : Fld Tryz.prog 99 2 2 := ⟨_, _, (Tryz.prog.info? 3).get!, Tryz.underlying99, rfl, rfl, by kernel_rfl, by decide +kernel⟩
theorem fld_27_7 : Fld Tryz.prog 27 7 7 := ⟨_, _, (Tryz.prog.info? 3).get!, Tryz.underlying27, rfl, rfl, by kernel_rfl, by decide +kernel⟩
theorem ent_94 : ∀ args w, (callFunc 94 args).run Tryz.prog w = .ok (.enter 94 args) w := enters_of Tryz.func94 (by kernel_rfl) rfl
set_option maxRecDepth 100000 in
theorem w_begin {w : World} {g m : Nat} (x : Plr) (hs : SL w [g, m] w [.blk g (.cells (plrCells x m) 99 (0, 0)), .imap m (loopsMap x)]) (h0 : 0 ≤ x.session) (h1 : x.session ≤ 1000000) :
    Calls Tryz.prog 92 #[.pointer (some ⟨g, 0, none⟩)] w (fun e w' => e = .returned (.tuple #[]) ∧ SL w [g, m] w' [.blk g (.cells (plrCells x.begin m) 99 (0, 0)), .imap m (loopsMap x.begin)]) := by
 refine calls_of_CX (O := [g, m]) (L := [.blk g (.cells (plrCells x m) 99 (0, 0)), .imap m (loopsMap x)]) (args := [.pointer (some ⟨g, 0, none⟩)]) Tryz.func92 rfl (by simp [Tryz.ntmps92]) hs ?_
 refine CX.sub (V' := [(0, .pointer (some ⟨g, 0, none⟩))]) ⟨rfl, trivial⟩ ?_
 refine CX.seq ?_
 refine CX.region ?_
 refine RX.cons rfl rfl (op_w (yw_move rfl rfl) rfl rfl ?_)
 refine RX.cons rfl rfl (op_w (yw_nilCheck rfl rfl) rfl rfl ?_)
 refine RX.cons rfl rfl (op_w (yw_fieldAddr rfl fld_99_3 rfl) rfl rfl ?_)
 refine RX.cons rfl rfl (op_yld (y_load (i := 0) rfl rfl one_3 rfl rfl) rfl rfl ?_)
 refine RX.cons rfl rfl (op_w (yw_add rfl rfl rfl (by omega) (by omega)) rfl rfl ?_)
 refine RX.cons rfl rfl (op_w (yw_nilCheck rfl rfl) rfl rfl ?_)
 refine RX.cons rfl rfl (op_w (yw_fieldAddr rfl fld_99_3 rfl) rfl rfl ?_)
 refine RX.cons rfl rfl (op_store1 (i := 0) (cs' := #[.int .i64 x.device, .int .i64 x.last, .int .i64 x.stop, .int .i64 (x.session + 1), .map (some m)]) rfl rfl rfl rfl szt_3 rfl rfl rfl rfl ?_)
 refine RX.nil (XX.next (V' := [(0, _)]) ⟨rfl, trivial⟩ ?_)
 refine CX.region ?_
 refine RX.cons rfl rfl (op_w (yw_move rfl rfl) rfl rfl ?_)
 refine RX.cons rfl rfl (op_w (yw_nilCheck rfl rfl) rfl rfl ?_)
 refine RX.cons rfl rfl (op_w (yw_fieldAddr rfl fld_99_4 rfl) rfl rfl ?_)
 refine RX.cons rfl rfl (op_yld (y_load (i := 0) rfl rfl one_97 rfl rfl) rfl rfl ?_)
 refine RX.cons rfl rfl (op_clearMap (i := 1) rfl rfl rfl mapt_97 rfl ?_)
 refine RX.nil ?_
 exact end_none rfl fun w1 hw => ⟨rfl, hw⟩

set_option maxRecDepth 100000 in
theorem w_look {w : World} {g m : Nat} (x : Plr) (p : Fct) (hs : SL w [g, m] w [.blk g (.cells (plrCells x m) 99 (0, 0)), .imap m (loopsMap x)]) (hx : PlrOk x) (h0 : 0 ≤ p.second) (h1 : p.second ≤ 3155759999) (h2 : 0 ≤ p.amount) (h3 : p.amount ≤ 86400000) :
    Calls Tryz.prog 42 #[.pointer (some ⟨g, 0, none⟩), .agg (Fct.cells p)] w (fun e w' => ∃ m', True ∧ e = .returned (.bool (x.look p).2) ∧ SL w [g, m] w' [.blk g (.cells (plrCells ((x.look p).1) m') 99 (0, 0)), .imap m' (loopsMap ((x.look p).1))]) := by
 refine calls_of_CX (O := [g, m]) (L := [.blk g (.cells (plrCells x m) 99 (0, 0)), .imap m (loopsMap x)]) (args := [.pointer (some ⟨g, 0, none⟩), .agg (Fct.cells p)]) Tryz.func42 rfl (by simp [Tryz.ntmps42]) hs ?_
 refine CX.sub (V' := [(0, .pointer (some ⟨g, 0, none⟩)), (1, .agg (Fct.cells p))]) ⟨rfl, rfl, trivial⟩ ?_
 refine CX.seq ?_
 refine CX.region ?_
 refine RX.cons rfl rfl (op_box rfl rfl rfl rfl fun g1 => ?_)
 refine RX.cons rfl rfl (op_w (yw_assign rfl rfl) rfl rfl ?_)
 refine RX.nil (XX.next (V' := [(0, _), (3, _)]) ⟨rfl, rfl, trivial⟩ ?_)
 refine CX.cut (σ := Nat) (fun m1 => [(0, .pointer (some ⟨g, 0, none⟩)), (3, .pointer (some ⟨g1, 0, none⟩))]) (fun m1 => [.blk g (.cells (plrCells (x.fresh p) m1) 99 (0, 0)), .imap m1 (loopsMap (x.fresh p)), .blk g1 (.cells (Fct.cells p) 100 (0, 0))]) (fun m1 => True) ?_ (fun m1 _ => ?_)
 ·refine CX.seq ?_
  refine CX.draw 8 [(0, 1, 32), (1, 32, 64), (2, 64, 128), (4, 128, 256), (0, 8, 512), (16, 512, 1024), (32, 1024, 2048), (72, 2304, 4096)] (by kernel_rfl) (by kernel_rfl) (by kernel_rfl) ?_
  refine DX.takeW 0 1 (by kernel_rfl) rfl rfl rfl rfl rfl (yw_move rfl rfl) ?_
  refine DX.takeW 1 3 (by kernel_rfl) rfl rfl rfl rfl rfl (yw_nilCheck rfl rfl) ?_
  refine DX.takeW 2 7 (by kernel_rfl) rfl rfl rfl rfl rfl (yw_field0 rfl fld_99_0 rfl) ?_
  refine DX.take 3 15 (by kernel_rfl) rfl rfl rfl rfl rfl (List.Sublist.refl _) (y_load (i := 1) rfl rfl one_3 rfl rfl) ?_
  refine DX.takeW 4 31 (by kernel_rfl) rfl rfl rfl rfl rfl (yw_field0 rfl fld_100_0 rfl) ?_
  refine DX.takeW 5 63 (by kernel_rfl) rfl rfl rfl rfl rfl (yw_fieldAddr rfl fld_27_6 rfl) ?_
  refine DX.take 6 127 (by kernel_rfl) rfl rfl rfl rfl rfl (List.Sublist.refl _) (y_load (i := 0) rfl rfl one_3 rfl rfl) ?_
  refine DX.takeW 7 255 (by kernel_rfl) rfl rfl rfl rfl rfl (yw_neq rfl rfl rfl) ?_
  refine DX.done (by kernel_rfl) (XX.next (V' := [(0, _), (3, _), (12, _)]) ⟨rfl, rfl, rfl, trivial⟩ ?_)
  refine CX.condD (p := x.device ≠ p.device) rfl (fun c12 => ?_) (fun c12 => ?_)
  ·refine CX.seq ?_
   refine CX.region ?_
   refine RX.cons rfl rfl (op_w (yw_move rfl rfl) rfl rfl ?_)
   refine RX.cons rfl rfl (op_w (yw_field0 rfl fld_100_0 rfl) rfl rfl ?_)
   refine RX.cons rfl rfl (op_w (yw_fieldAddr rfl fld_27_6 rfl) rfl rfl ?_)
   refine RX.cons rfl rfl (op_yld (y_load (i := 0) rfl rfl one_3 rfl rfl) rfl rfl ?_)
   refine RX.cons rfl rfl (op_w (yw_field0 rfl fld_100_0 rfl) rfl rfl ?_)
   refine RX.cons rfl rfl (op_w (yw_fieldAddr rfl fld_27_4 rfl) rfl rfl ?_)
   refine RX.cons rfl rfl (op_yld (y_load (i := 0) rfl rfl one_3 rfl rfl) rfl rfl ?_)
   refine RX.cons rfl rfl (op_makeMap rfl rfl rfl fun m' => ?_)
   refine RX.know1 0 (q := .imap m' (loopsMap { device := p.device, last := p.second, stop := 0, session := 0, loops := fun _ => 0 })) rfl rfl ?_
   refine RX.cons rfl rfl (op_w (yw_build (v := .agg (#[.int .i64 p.device, .int .i64 p.second, .int .i64 0, .int .i64 0, .map (some m')])) rfl rfl (fun _ => by kernel_rfl)) rfl rfl ?_)
   refine RX.cons rfl rfl (op_w (yw_nilCheck rfl rfl) rfl rfl ?_)
   refine RX.cons rfl rfl (op_storeAll (i := 2) rfl rfl rfl rfl szt_99 rfl (plain_of rfl) rfl rfl ?_)
   refine RX.nil (XX.next (V' := [(0, _), (3, _)]) ⟨rfl, rfl, trivial⟩ ?_)
   refine CX.region ?_
   refine RX.cons rfl rfl (op_w (yw_move rfl rfl) rfl rfl ?_)
   refine RX.cons rfl rfl (op_callP [.blk g (.cells (#[.int .i64 p.device, .int .i64 p.second, .int .i64 0, .int .i64 0, .map (some m')]) 99 (0, 0)), .imap m' (loopsMap { device := p.device, last := p.second, stop := 0, session := 0, loops := fun _ => 0 })] [.blk g1 (.cells (Fct.cells p) 100 (0, 0)), .imap m (loopsMap x)] rfl rfl rfl rfl rfl ent_92 ((perm_pick 2 rfl).trans (List.Perm.cons _ ((perm_pick 0 rfl).trans (List.Perm.cons _ (List.Perm.refl _))))) (σ := Unit) (val := fun _ => .tuple #[]) (LL := fun _ => [.blk g (.cells (plrCells (({ device := p.device, last := p.second, stop := 0, session := 0, loops := fun _ => 0 } : Plr).begin) m') 99 (0, 0)), .imap m' (loopsMap (({ device := p.device, last := p.second, stop := 0, session := 0, loops := fun _ => 0 } : Plr).begin))]) (post := fun _ => True) (fun w hw hs => (w_begin ({ device := p.device, last := p.second, stop := 0, session := 0, loops := fun _ => 0 } : Plr) hs (Int.le_refl 0) (by decide : (0:Int) ≤ 1000000)).mono fun e w' h => ⟨(), trivial, h⟩) (fun _ _ => ?_))
   refine RX.nil (by rw [fresh_ne p c12]; exact XX.meetP ([.imap m (loopsMap x)]) m' trivial ⟨rfl, rfl, trivial⟩ ((perm_pick 0 rfl).trans (List.Perm.cons _ ((perm_pick 0 rfl).trans (List.Perm.cons _ ((perm_pick 0 rfl).trans (List.Perm.cons _ (List.Perm.refl _))))))))
  ·refine CX.skip (by rw [fresh_eq p (by omega)]; exact XX.meetP ([]) m trivial ⟨rfl, rfl, trivial⟩ ((perm_pick 1 rfl).trans (List.Perm.cons _ ((perm_pick 1 rfl).trans (List.Perm.cons _ ((perm_pick 0 rfl).trans (List.Perm.cons _ (List.Perm.refl _))))))))
 ·have hok := fresh_ok (p := p) hx h0 h1
  refine CX.cut (σ := Unit) (fun _ => [(0, .pointer (some ⟨g, 0, none⟩)), (3, .pointer (some ⟨g1, 0, none⟩))]) (fun _ => [.blk g (.cells (plrCells (x.gap p) m1) 99 (0, 0)), .imap m1 (loopsMap (x.gap p)), .blk g1 (.cells (Fct.cells p) 100 (0, 0))]) (fun _ => True) ?_ (fun _ _ => ?_)
  ·refine CX.seq ?_
   refine CX.draw 9 [(0, 8, 33554432), (1, 33554432, 67108864), (2, 67108864, 134217728), (0, 1, 268435456), (8, 268435456, 536870912), (16, 536870912, 1073741824), (32, 1073741824, 2147483648), (68, 2281701376, 4294967296), (128, 4294967296, 8589934592)] (by kernel_rfl) (by kernel_rfl) (by kernel_rfl) ?_
   refine DX.takeW 0 1 (by kernel_rfl) rfl rfl rfl rfl rfl (yw_field0 rfl fld_100_0 rfl) ?_
   refine DX.takeW 1 3 (by kernel_rfl) rfl rfl rfl rfl rfl (yw_fieldAddr rfl fld_27_4 rfl) ?_
   refine DX.take 2 7 (by kernel_rfl) rfl rfl rfl rfl rfl (List.Sublist.refl _) (y_load (i := 2) rfl rfl one_3 rfl rfl) ?_
   refine DX.takeW 3 15 (by kernel_rfl) rfl rfl rfl rfl rfl (yw_move rfl rfl) ?_
   refine DX.takeW 4 31 (by kernel_rfl) rfl rfl rfl rfl rfl (yw_nilCheck rfl rfl) ?_
   refine DX.takeW 5 63 (by kernel_rfl) rfl rfl rfl rfl rfl (yw_fieldAddr rfl fld_99_1 rfl) ?_
   refine DX.take 6 127 (by kernel_rfl) rfl rfl rfl rfl rfl (List.Sublist.refl _) (y_load (i := 0) rfl rfl one_3 rfl rfl) ?_
   refine DX.takeW 7 255 (by kernel_rfl) rfl rfl rfl rfl rfl (yw_sub rfl rfl rfl (by have := hok.last; have := hok.lastLe; omega) (by have := hok.last; have := hok.lastLe; omega)) ?_
   refine DX.takeW 8 511 (by kernel_rfl) rfl rfl rfl rfl rfl (yw_gtr rfl rfl rfl) ?_
   refine DX.done (by kernel_rfl) (XX.next (V' := [(0, _), (3, _), (33, _)]) ⟨rfl, rfl, rfl, trivial⟩ ?_)
   refine CX.condD (p := 1800 < p.second - ((x.fresh p).last)) rfl (fun c33 => ?_) (fun c33 => ?_)
   ·refine CX.region ?_
    refine RX.cons rfl rfl (op_w (yw_move rfl rfl) rfl rfl ?_)
    refine RX.cons rfl rfl (op_callP [.blk g (.cells (plrCells (x.fresh p) m1) 99 (0, 0)), .imap m1 (loopsMap (x.fresh p))] [.blk g1 (.cells (Fct.cells p) 100 (0, 0))] rfl rfl rfl rfl rfl ent_92 ((perm_pick 0 rfl).trans (List.Perm.cons _ ((perm_pick 0 rfl).trans (List.Perm.cons _ (List.Perm.refl _))))) (σ := Unit) (val := fun _ => .tuple #[]) (LL := fun _ => [.blk g (.cells (plrCells ((x.fresh p).begin) m1) 99 (0, 0)), .imap m1 (loopsMap ((x.fresh p).begin))]) (post := fun _ => True) (fun w hw hs => (w_begin (x.fresh p) hs hok.session hok.sessionLe).mono fun e w' h => ⟨(), trivial, h⟩) (fun _ _ => ?_))
    refine RX.nil (by rw [arrive_gap c33]; exact XX.meetP ([]) () trivial ⟨rfl, rfl, trivial⟩ ((perm_pick 0 rfl).trans (List.Perm.cons _ ((perm_pick 0 rfl).trans (List.Perm.cons _ ((perm_pick 0 rfl).trans (List.Perm.cons _ (List.Perm.refl _))))))))
   ·refine CX.skip (by rw [arrive_near c33]; exact XX.meetP ([]) () trivial ⟨rfl, rfl, trivial⟩ ((perm_pick 0 rfl).trans (List.Perm.cons _ ((perm_pick 0 rfl).trans (List.Perm.cons _ ((perm_pick 0 rfl).trans (List.Perm.cons _ (List.Perm.refl _))))))))
  ·refine CX.seq ?_
   refine CX.region ?_
   refine RX.cons rfl rfl (op_w (yw_move rfl rfl) rfl rfl ?_)
   refine RX.cons rfl rfl (op_w (yw_field0 rfl fld_100_0 rfl) rfl rfl ?_)
   refine RX.cons rfl rfl (op_w (yw_fieldAddr rfl fld_27_4 rfl) rfl rfl ?_)
   refine RX.cons rfl rfl (op_yld (y_load (i := 2) rfl rfl one_3 rfl rfl) rfl rfl ?_)
   refine RX.cons rfl rfl (op_w (yw_nilCheck rfl rfl) rfl rfl ?_)
   refine RX.cons rfl rfl (op_w (yw_fieldAddr rfl fld_99_1 rfl) rfl rfl ?_)
   refine RX.cons rfl rfl (op_store1 (i := 0) (cs' := #[.int .i64 ((x.gap p).device), .int .i64 p.second, .int .i64 ((x.gap p).stop), .int .i64 ((x.gap p).session), .map (some m1)]) rfl rfl rfl rfl szt_3 rfl rfl rfl rfl ?_)
   refine RX.nil (XX.next (V' := [(0, _), (3, _)]) ⟨rfl, rfl, trivial⟩ ?_)
   refine CX.seq ?_
   refine CX.seq ?_
   refine CX.draw 24 [(0, 8, 4398046511104), (1, 4398046511104, 8796093022208), (2, 8796093022208, 17592186044416), (6, 17592186044416, 35184372088832), (8, 35184372088840, 70368744177664), (24, 105553116266496, 140737488355328), (40, 175921860444160, 281474976710656), (8, 35184372088833, 562949953421312), (136, 598134325510144, 1125899906842624), (264, 1161084278931456, 2251799813685248), (520, 2286984185774080, 4503599627370496), (1096, 4820258976169984, 9007199254740992), (2056, 9042383626829824, 18014398509481984), (4104, 18014398509481984, 36028797018963968), (8192, 36028797018963969, 72057594037927936), (24576, 108086391056891904, 144115188075855872), (40960, 180143985094819840, 288230376151711744), (73728, 324259173170675712, 576460752303423488), (8192, 36028797018963976, 1152921504606846976), (270336, 1188950301625810944, 2305843009213693952), (532480, 2341871806232657920, 4611686018427387904), (1187840, 5224175567749775360, 9223372036854775808), (2105344, 9259400833873739776, 18446744073709551616), (4202496, 18482772870728515584, 36893488147419103232)] (by kernel_rfl) (by kernel_rfl) (by kernel_rfl) ?_
   refine DX.take 0 1 (by kernel_rfl) rfl rfl rfl rfl rfl (List.Sublist.refl _) (y_loadA (i := 2) rfl rfl agg_100 rfl rfl) ?_
   refine DX.step 1 3 (by kernel_rfl) rfl rfl rfl (op_callV (v := .bool (Fct.qual p)) rfl rfl rfl rfl rfl ent_93 (fun w _ => w_qualifies p) (DXs.mk (List.Sublist.refl _) ?_))
   refine DX.takeW 2 7 (by kernel_rfl) rfl rfl rfl rfl rfl (yw_not rfl rfl) ?_
   refine DX.takeW 3 15 (by kernel_rfl) rfl rfl rfl rfl rfl (yw_move rfl rfl) ?_
   refine DX.split (t := 45) (b := !(Fct.qual p)) rfl (fun d45 => ?_) (fun d45 => ?_)
   ·refine DX.skip 4 31 (by kernel_rfl) rfl rfl rfl rfl rfl rfl rfl rfl ?_
    refine DX.skip 5 63 (by kernel_rfl) rfl rfl rfl rfl rfl rfl rfl rfl ?_
    refine DX.skip 6 127 (by kernel_rfl) rfl rfl rfl rfl rfl rfl rfl rfl ?_
    refine DX.skip 7 255 (by kernel_rfl) rfl rfl rfl rfl rfl rfl rfl rfl ?_
    refine DX.skip 8 511 (by kernel_rfl) rfl rfl rfl rfl rfl rfl rfl rfl ?_
    refine DX.skip 9 1023 (by kernel_rfl) rfl rfl rfl rfl rfl rfl rfl rfl ?_
    refine DX.skip 10 2047 (by kernel_rfl) rfl rfl rfl rfl rfl rfl rfl rfl ?_
    refine DX.skip 11 4095 (by kernel_rfl) rfl rfl rfl rfl rfl rfl rfl rfl ?_
    refine DX.takeW 12 8191 (by kernel_rfl) rfl rfl rfl rfl rfl (yw_pickT rfl rfl rfl) ?_
    refine DX.takeW 13 16383 (by kernel_rfl) rfl rfl rfl rfl rfl (yw_move rfl rfl) ?_
    refine DX.skip 14 32767 (by kernel_rfl) rfl rfl rfl rfl rfl rfl rfl rfl ?_
    refine DX.skip 15 65535 (by kernel_rfl) rfl rfl rfl rfl rfl rfl rfl rfl ?_
    refine DX.skip 16 131071 (by kernel_rfl) rfl rfl rfl rfl rfl rfl rfl rfl ?_
    refine DX.skip 17 262143 (by kernel_rfl) rfl rfl rfl rfl rfl rfl rfl rfl ?_
    refine DX.skip 18 524287 (by kernel_rfl) rfl rfl rfl rfl rfl rfl rfl rfl ?_
    refine DX.skip 19 1048575 (by kernel_rfl) rfl rfl rfl rfl rfl rfl rfl rfl ?_
    refine DX.skip 20 2097151 (by kernel_rfl) rfl rfl rfl rfl rfl rfl rfl rfl ?_
    refine DX.skip 21 4194303 (by kernel_rfl) rfl rfl rfl rfl rfl rfl rfl rfl ?_
    refine DX.skip 22 8388607 (by kernel_rfl) rfl rfl rfl rfl rfl rfl rfl rfl ?_
    refine DX.takeW 23 16777215 (by kernel_rfl) rfl rfl rfl rfl rfl (yw_pickT rfl rfl rfl) ?_
    refine DX.done (by kernel_rfl) (XX.next (V' := [(0, _), (3, _), (65, _)]) ⟨rfl, rfl, rfl, trivial⟩ ?_)
    refine CX.condT rfl ?_
    refine CX.seq ?_
    refine CX.region ?_
    refine RX.cons rfl rfl (op_w (yw_assign rfl rfl) rfl rfl ?_)
    refine RX.nil (XX.next (V' := [(4, .bool false)]) ⟨rfl, trivial⟩ ?_)
    refine CX.ret ?_
    refine XX.then_ret ?_
    exact ret_tmp rfl rfl fun w1 hw => ⟨m1, trivial, by rw [look_no (takes_no45 d45)], by rw [look_no (takes_no45 d45)]; exact hw.pick ((perm_pick 0 rfl).trans (List.Perm.cons _ ((perm_pick 0 rfl).trans (List.Perm.cons _ (List.Perm.refl _)))))⟩
   ·refine DX.takeWG 4 31 (by kernel_rfl) rfl rfl rfl rfl rfl rfl rfl rfl (yw_field0 rfl fld_100_0 rfl) ?_
    refine DX.takeWG 5 63 (by kernel_rfl) rfl rfl rfl rfl rfl rfl rfl rfl (yw_fieldAddr rfl fld_27_4 rfl) ?_
    refine DX.takeG 6 127 (by kernel_rfl) rfl rfl rfl rfl rfl rfl rfl rfl (List.Sublist.refl _) (y_load (i := 2) rfl rfl one_3 rfl rfl) ?_
    refine DX.takeWG 7 255 (by kernel_rfl) rfl rfl rfl rfl rfl rfl rfl rfl (yw_move rfl rfl) ?_
    refine DX.takeWG 8 511 (by kernel_rfl) rfl rfl rfl rfl rfl rfl rfl rfl (yw_nilCheck rfl rfl) ?_
    refine DX.takeWG 9 1023 (by kernel_rfl) rfl rfl rfl rfl rfl rfl rfl rfl (yw_fieldAddr rfl fld_99_2 rfl) ?_
    refine DX.takeG 10 2047 (by kernel_rfl) rfl rfl rfl rfl rfl rfl rfl rfl (List.Sublist.refl _) (y_load (i := 0) rfl rfl one_3 rfl rfl) ?_
    refine DX.takeWG 11 4095 (by kernel_rfl) rfl rfl rfl rfl rfl rfl rfl rfl (yw_lss rfl rfl rfl) ?_
    refine DX.takeW 12 8191 (by kernel_rfl) rfl rfl rfl rfl rfl (yw_pickF rfl rfl rfl) ?_
    refine DX.takeW 13 16383 (by kernel_rfl) rfl rfl rfl rfl rfl (yw_move rfl rfl) ?_
    refine DX.splitD (t := 55) (p := p.second < (x.gap p).stop) rfl (fun d55 => ?_) (fun d55 => ?_)
    ·refine DX.skip 14 32767 (by kernel_rfl) rfl rfl rfl rfl rfl rfl rfl rfl ?_
     refine DX.skip 15 65535 (by kernel_rfl) rfl rfl rfl rfl rfl rfl rfl rfl ?_
     refine DX.skip 16 131071 (by kernel_rfl) rfl rfl rfl rfl rfl rfl rfl rfl ?_
     refine DX.skip 17 262143 (by kernel_rfl) rfl rfl rfl rfl rfl rfl rfl rfl ?_
     refine DX.skip 18 524287 (by kernel_rfl) rfl rfl rfl rfl rfl rfl rfl rfl ?_
     refine DX.skip 19 1048575 (by kernel_rfl) rfl rfl rfl rfl rfl rfl rfl rfl ?_
     refine DX.skip 20 2097151 (by kernel_rfl) rfl rfl rfl rfl rfl rfl rfl rfl ?_
     refine DX.skip 21 4194303 (by kernel_rfl) rfl rfl rfl rfl rfl rfl rfl rfl ?_
     refine DX.skip 22 8388607 (by kernel_rfl) rfl rfl rfl rfl rfl rfl rfl rfl ?_
     refine DX.takeW 23 16777215 (by kernel_rfl) rfl rfl rfl rfl rfl (yw_pickT rfl rfl rfl) ?_
     refine DX.done (by kernel_rfl) (XX.next (V' := [(0, _), (3, _), (65, _)]) ⟨rfl, rfl, rfl, trivial⟩ ?_)
     refine CX.condT rfl ?_
     refine CX.seq ?_
     refine CX.region ?_
     refine RX.cons rfl rfl (op_w (yw_assign rfl rfl) rfl rfl ?_)
     refine RX.nil (XX.next (V' := [(4, .bool false)]) ⟨rfl, trivial⟩ ?_)
     refine CX.ret ?_
     refine XX.then_ret ?_
     exact ret_tmp rfl rfl fun w1 hw => ⟨m1, trivial, by rw [look_no (takes_no55 d55)], by rw [look_no (takes_no55 d55)]; exact hw.pick ((perm_pick 0 rfl).trans (List.Perm.cons _ ((perm_pick 0 rfl).trans (List.Perm.cons _ (List.Perm.refl _)))))⟩
    ·refine DX.takeWG 14 32767 (by kernel_rfl) rfl rfl rfl rfl rfl rfl rfl rfl (yw_move rfl rfl) ?_
     refine DX.takeWG 15 65535 (by kernel_rfl) rfl rfl rfl rfl rfl rfl rfl rfl (yw_nilCheck rfl rfl) ?_
     refine DX.takeWG 16 131071 (by kernel_rfl) rfl rfl rfl rfl rfl rfl rfl rfl (yw_fieldAddr rfl fld_99_4 rfl) ?_
     refine DX.takeG 17 262143 (by kernel_rfl) rfl rfl rfl rfl rfl rfl rfl rfl (List.Sublist.refl _) (y_load (i := 0) rfl rfl one_97 rfl rfl) ?_
     refine DX.takeWG 18 524287 (by kernel_rfl) rfl rfl rfl rfl rfl rfl rfl rfl (yw_field0 rfl fld_100_0 rfl) ?_
     refine DX.takeWG 19 1048575 (by kernel_rfl) rfl rfl rfl rfl rfl rfl rfl rfl (yw_fieldAddr rfl fld_27_7 rfl) ?_
     refine DX.takeG 20 2097151 (by kernel_rfl) rfl rfl rfl rfl rfl rfl rfl rfl (List.Sublist.refl _) (y_load (i := 2) rfl rfl one_3 rfl rfl) ?_
     refine DX.takeG 21 4194303 (by kernel_rfl) rfl rfl rfl rfl rfl rfl rfl rfl (List.Sublist.refl _) (y_lookupE (i := 1) (v := .int .i64 ((x.arrive p).loops p.recording)) rfl rfl rfl mapt_97 rfl (loops_get _ _)) ?_
     refine DX.takeWG 22 8388607 (by kernel_rfl) rfl rfl rfl rfl rfl rfl rfl rfl (yw_geq rfl rfl rfl) ?_
     refine DX.takeW 23 16777215 (by kernel_rfl) rfl rfl rfl rfl rfl (yw_pickF rfl rfl rfl) ?_
     refine DX.done (by kernel_rfl) (XX.next (V' := [(0, _), (3, _), (65, _)]) ⟨rfl, rfl, rfl, trivial⟩ ?_)
     refine CX.condD (p := 5 ≤ (x.arrive p).loops p.recording) rfl (fun c65 => ?_) (fun c65 => ?_)
     ·refine CX.seq ?_
      refine CX.region ?_
      refine RX.cons rfl rfl (op_w (yw_assign rfl rfl) rfl rfl ?_)
      refine RX.nil (XX.next (V' := [(4, .bool false)]) ⟨rfl, trivial⟩ ?_)
      refine CX.ret ?_
      refine XX.then_ret ?_
      exact ret_tmp rfl rfl fun w1 hw => ⟨m1, trivial, by rw [look_no (takes_no65 c65)], by rw [look_no (takes_no65 c65)]; exact hw.pick ((perm_pick 0 rfl).trans (List.Perm.cons _ ((perm_pick 0 rfl).trans (List.Perm.cons _ (List.Perm.refl _)))))⟩
     ·refine CX.skip (XX.next (V' := [(0, _), (3, _)]) ⟨rfl, rfl, trivial⟩ ?_)
      refine CX.seq ?_
      refine CX.region ?_
      refine RX.cons rfl rfl (op_w (yw_move rfl rfl) rfl rfl ?_)
      refine RX.cons rfl rfl (op_yld (y_loadA (i := 2) rfl rfl agg_100 rfl rfl) rfl rfl ?_)
      refine RX.cons rfl rfl (op_callV (v := .int .i64 (Fct.stop p)) rfl rfl rfl rfl rfl ent_94 (fun w _ => w_end p h0 h1 h2 h3) ?_)
      refine RX.cons rfl rfl (op_w (yw_nilCheck rfl rfl) rfl rfl ?_)
      refine RX.cons rfl rfl (op_w (yw_fieldAddr rfl fld_99_2 rfl) rfl rfl ?_)
      refine RX.cons rfl rfl (op_store1 (i := 0) (cs' := #[.int .i64 ((x.gap p).device), .int .i64 p.second, .int .i64 (Fct.stop p), .int .i64 ((x.gap p).session), .map (some m1)]) rfl rfl rfl rfl szt_3 rfl rfl rfl rfl ?_)
      refine RX.nil (XX.next (V' := [(0, _), (3, _)]) ⟨rfl, rfl, trivial⟩ ?_)
      refine CX.seq ?_
      refine CX.draw 9 [(0, 1, 2361183241434822606848), (1, 2361183241434822606848, 4722366482869645213696), (2, 4722366482869645213696, 9444732965739290427392), (4, 9444732965739290427392, 18889465931478580854784), (0, 8, 37778931862957161709568), (16, 37778931862957161709568, 75557863725914323419136), (32, 75557863725914323419136, 151115727451828646838272), (72, 170005193383307227693056, 302231454903657293676544), (128, 302231454903657293676544, 604462909807314587353088), (511, 774468103190621815046144, 0)] (by kernel_rfl) (by kernel_rfl) (by kernel_rfl) ?_
      refine DX.takeW 0 1 (by kernel_rfl) rfl rfl rfl rfl rfl (yw_move rfl rfl) ?_
      refine DX.takeW 1 3 (by kernel_rfl) rfl rfl rfl rfl rfl (yw_nilCheck rfl rfl) ?_
      refine DX.takeW 2 7 (by kernel_rfl) rfl rfl rfl rfl rfl (yw_fieldAddr rfl fld_99_4 rfl) ?_
      refine DX.take 3 15 (by kernel_rfl) rfl rfl rfl rfl rfl (List.Sublist.refl _) (y_load (i := 0) rfl rfl one_97 rfl rfl) ?_
      refine DX.takeW 4 31 (by kernel_rfl) rfl rfl rfl rfl rfl (yw_field0 rfl fld_100_0 rfl) ?_
      refine DX.takeW 5 63 (by kernel_rfl) rfl rfl rfl rfl rfl (yw_fieldAddr rfl fld_27_7 rfl) ?_
      refine DX.take 6 127 (by kernel_rfl) rfl rfl rfl rfl rfl (List.Sublist.refl _) (y_load (i := 2) rfl rfl one_3 rfl rfl) ?_
      refine DX.take 7 255 (by kernel_rfl) rfl rfl rfl rfl rfl (List.Sublist.refl _) (y_lookupE (i := 1) (v := .int .i64 ((x.arrive p).loops p.recording)) rfl rfl rfl mapt_97 rfl (loops_get _ _)) ?_
      refine DX.takeW 8 511 (by kernel_rfl) rfl rfl rfl rfl rfl (yw_add rfl rfl rfl (by have := arrive_loops hok p.recording; omega) (by have := arrive_loops hok p.recording; omega)) ?_
      refine DX.stepT 9 1023 (by kernel_rfl) rfl rfl rfl rfl (op_mapUpdate (i := 1) (.inl rfl) rfl rfl rfl rfl mapt_97 rfl ?_)
      refine DX.done (by kernel_rfl) (XX.next (V' := []) trivial ?_)
      refine CX.seq ?_
      refine CX.region ?_
      refine RX.cons rfl rfl (op_w (yw_assign rfl rfl) rfl rfl ?_)
      refine RX.nil (XX.next (V' := [(4, .bool true)]) ⟨rfl, trivial⟩ ?_)
      refine CX.ret ?_
      exact ret_tmp rfl rfl fun w1 hw => ⟨m1, trivial, by rw [look_yes (takes_yes d45 d55 c65)], by rw [look_yes (takes_yes d45 d55 c65), ← loops_count p (arrive_loops hok _)]; exact hw.pick ((perm_pick 0 rfl).trans (List.Perm.cons _ ((perm_pick 0 rfl).trans (List.Perm.cons _ (List.Perm.refl _)))))⟩

end Go.Proofs.YtpcfgoadkfajfaaGreatDoor.Se
namespace Go.Proofs.YtpcfgoadkfajfaaGreatDoor.Se
set_option linter.all false
open Go Go.RowKit
set_option maxRecDepth 100000
theorem held_27 : Tryz.prog.stoodInHeld 27 = false := by kernel_rfl
theorem held_39 : Tryz.prog.stoodInHeld 39 = false := by kernel_rfl
theorem eq_fct (f g : Fct) (w : World) : (Op.equalIn 10000 27 (.agg f.cells) (.agg g.cells)).run Tryz.prog w = .ok (f.same g) w :=
  equal_of Tryz.underlying27 held_27 (eqF_int rfl Tryz.underlying3 rfl rfl (eqF_int rfl Tryz.underlying3 rfl rfl (eqF_int rfl Tryz.underlying3 rfl rfl (eqF_int rfl Tryz.underlying3 rfl rfl (eqF_int rfl Tryz.underlying3 rfl rfl (eqF_int rfl Tryz.underlying3 rfl rfl (eqF_int rfl Tryz.underlying3 rfl rfl (eqF_int rfl Tryz.underlying3 rfl rfl (eqF_int rfl Tryz.underlying3 rfl rfl (eqF_int rfl Tryz.underlying3 rfl rfl (eqF_int rfl Tryz.underlying3 rfl rfl (eqF_int rfl Tryz.underlying3 rfl rfl (eqF_int rfl Tryz.underlying3 rfl rfl (eqF_int rfl Tryz.underlying3 rfl rfl (eqF_int rfl Tryz.underlying3 rfl rfl (eqF_int rfl Tryz.underlying3 rfl rfl (eqF_int rfl Tryz.underlying3 rfl rfl (eqF_str rfl Tryz.underlying9 rfl rfl (eqF_nil)))))))))))))))))))
theorem eq_strm (f g : Strm) (w : World) : (Op.equalIn 10000 39 (.agg f.cells) (.agg g.cells)).run Tryz.prog w = .ok (f.same g) w :=
  equal_of Tryz.underlying39 held_39 (eqF_int rfl Tryz.underlying3 rfl rfl (eqF_int rfl Tryz.underlying3 rfl rfl (eqF_int rfl Tryz.underlying3 rfl rfl (eqF_int rfl Tryz.underlying3 rfl rfl (eqF_int rfl Tryz.underlying3 rfl rfl (eqF_int rfl Tryz.underlying3 rfl rfl (eqF_int rfl Tryz.underlying3 rfl rfl (eqF_int rfl Tryz.underlying3 rfl rfl (eqF_int rfl Tryz.underlying3 rfl rfl (eqF_nil))))))))))
end Go.Proofs.YtpcfgoadkfajfaaGreatDoor.Se
namespace Go.Proofs.YtpcfgoadkfajfaaGreatDoor.Se
set_option linter.all false
open Go Go.RowKit
set_option maxRecDepth 100000
theorem zero_84 : Zero Tryz.prog 84 (.agg (#[.pointer none, .int .i64 0, .int .i64 0])) := ⟨(Tryz.prog.info? 84).get!, by kernel_rfl, by kernel_rfl⟩
theorem szt_84 : SzT Tryz.prog 84 3 := ⟨(Tryz.prog.info? 84).get!, by kernel_rfl, by kernel_rfl⟩
theorem agg_84 : AggT Tryz.prog 84 3 := ⟨_, _, Tryz.underlying84, rfl, (by kernel_rfl : Tryz.prog.info? 84 = some (Tryz.prog.info? 84).get!), by kernel_rfl⟩
theorem fld_84_0 : Fld Tryz.prog 84 0 0 := ⟨_, _, (Tryz.prog.info? 82).get!, Tryz.underlying84, rfl, rfl, by kernel_rfl, by decide +kernel⟩
theorem one_82 : One Tryz.prog 82 := ⟨_, Tryz.underlying82, rfl⟩
theorem fld_84_1 : Fld Tryz.prog 84 1 1 := ⟨_, _, (Tryz.prog.info? 3).get!, Tryz.underlying84, rfl, rfl, by kernel_rfl, by decide +kernel⟩
theorem fld_84_2 : Fld Tryz.prog 84 2 2 := ⟨_, _, (Tryz.prog.info? 3).get!, Tryz.underlying84, rfl, rfl, by kernel_rfl, by decide +kernel⟩
theorem mapt_76 : MapT Tryz.prog 76 (.agg (#[.nilFunc, .bool false, .nilFunc])) := ⟨_, _, (Tryz.prog.info? 74).get!, Tryz.underlying76, Tryz.underlying3, by kernel_rfl, by kernel_rfl⟩
theorem fld_80_0 : Fld Tryz.prog 80 0 0 := ⟨_, _, (Tryz.prog.info? 27).get!, Tryz.underlying80, rfl, rfl, by kernel_rfl, by decide +kernel⟩
theorem fld_27_5 : Fld Tryz.prog 27 5 5 := ⟨_, _, (Tryz.prog.info? 3).get!, Tryz.underlying27, rfl, rfl, by kernel_rfl, by decide +kernel⟩
theorem fld_27_8 : Fld Tryz.prog 27 8 8 := ⟨_, _, (Tryz.prog.info? 3).get!, Tryz.underlying27, rfl, rfl, by kernel_rfl, by decide +kernel⟩
theorem ent_104 : ∀ args w, (callFunc 104 args).run Tryz.prog w = .ok (.enter 104 args) w := enters_of Tryz.func104 (by kernel_rfl) rfl
theorem ent_105 : ∀ args w, (callFunc 105 args).run Tryz.prog w = .ok (.enter 105 args) w := enters_of Tryz.func105 (by kernel_rfl) rfl
theorem slb_81 : SlB Tryz.prog 81 84 3 24 (.agg (#[.pointer none, .int .i64 0, .int .i64 0])) := ⟨Tryz.underlying81, ⟨(Tryz.prog.info? 84).get!, by kernel_rfl, by kernel_rfl, by kernel_rfl, by kernel_rfl⟩, by decide, by decide⟩
set_option maxRecDepth 100000 in
theorem w_fid {w : World} (g j : Nat) :
    Calls Tryz.prog 104 #[.pointer (some ⟨g, j, none⟩)] w (fun e w' => e = .returned (.agg (#[.pointer (some ⟨g, j, none⟩), .int .i64 1, .int .i64 1000000])) ∧ SL w [] w' []) := by
 refine calls_of_CX (O := []) (L := []) (args := [.pointer (some ⟨g, j, none⟩)]) Tryz.func104 rfl (by simp [Tryz.ntmps104]) (SL.refl w) ?_
 refine CX.sub (V' := [(0, .pointer (some ⟨g, j, none⟩))]) ⟨rfl, trivial⟩ ?_
 refine CX.seq ?_
 refine CX.region ?_
 refine RX.cons rfl rfl (op_alloc rfl rfl rfl zero_84 fun g1 => ?_)
 refine RX.nil (XX.next (V' := [(0, _), (2, .pointer (some ⟨g1, 0, none⟩))]) ⟨rfl, rfl, trivial⟩ ?_)
 refine CX.seq ?_
 refine CX.region ?_
 refine RX.cons rfl rfl (op_w (yw_move rfl rfl) rfl rfl ?_)
 refine RX.cons rfl rfl (op_w (yw_build (v := .agg (#[.pointer (some ⟨g, j, none⟩), .int .i64 1, .int .i64 1000000])) rfl rfl (fun _ => by kernel_rfl)) rfl rfl ?_)
 refine RX.cons rfl rfl (op_storeAll (i := 0) rfl rfl rfl rfl szt_84 rfl (plain_of rfl) rfl rfl ?_)
 refine RX.nil (XX.next (V' := [(2, .pointer (some ⟨g1, 0, none⟩))]) ⟨rfl, trivial⟩ ?_)
 refine CX.ret ?_
 exact ret_cell (i := 0) rfl rfl agg_84 rfl rfl fun w1 hw => ⟨rfl, hw.sub (List.nil_sublist _)⟩

set_option maxRecDepth 100000 in
theorem w_fterr {w : World} (g j : Nat) :
    Calls Tryz.prog 105 #[.pointer (some ⟨g, j, none⟩)] w (fun e w' => e = .returned (.agg (#[.pointer (some ⟨g, j, none⟩), .int .i64 0, .int .i64 7])) ∧ SL w [] w' []) := by
 refine calls_of_CX (O := []) (L := []) (args := [.pointer (some ⟨g, j, none⟩)]) Tryz.func105 rfl (by simp [Tryz.ntmps105]) (SL.refl w) ?_
 refine CX.sub (V' := [(0, .pointer (some ⟨g, j, none⟩))]) ⟨rfl, trivial⟩ ?_
 refine CX.seq ?_
 refine CX.region ?_
 refine RX.cons rfl rfl (op_alloc rfl rfl rfl zero_84 fun g1 => ?_)
 refine RX.nil (XX.next (V' := [(0, _), (2, .pointer (some ⟨g1, 0, none⟩))]) ⟨rfl, rfl, trivial⟩ ?_)
 refine CX.seq ?_
 refine CX.region ?_
 refine RX.cons rfl rfl (op_w (yw_move rfl rfl) rfl rfl ?_)
 refine RX.cons rfl rfl (op_w (yw_build (v := .agg (#[.pointer (some ⟨g, j, none⟩), .int .i64 0, .int .i64 7])) rfl rfl (fun _ => by kernel_rfl)) rfl rfl ?_)
 refine RX.cons rfl rfl (op_storeAll (i := 0) rfl rfl rfl rfl szt_84 rfl (plain_of rfl) rfl rfl ?_)
 refine RX.nil (XX.next (V' := [(2, .pointer (some ⟨g1, 0, none⟩))]) ⟨rfl, trivial⟩ ?_)
 refine CX.ret ?_
 exact ret_cell (i := 0) rfl rfl agg_84 rfl rfl fun w1 hw => ⟨rfl, hw.sub (List.nil_sublist _)⟩

set_option maxRecDepth 100000 in
theorem w_fper {w : World} (g j : Nat) :
    Calls Tryz.prog 106 #[.pointer (some ⟨g, j, none⟩)] w (fun e w' => e = .returned (.agg (#[.pointer (some ⟨g, j, none⟩), .int .i64 0, .int .i64 1199])) ∧ SL w [] w' []) := by
 refine calls_of_CX (O := []) (L := []) (args := [.pointer (some ⟨g, j, none⟩)]) Tryz.func106 rfl (by simp [Tryz.ntmps106]) (SL.refl w) ?_
 refine CX.sub (V' := [(0, .pointer (some ⟨g, j, none⟩))]) ⟨rfl, trivial⟩ ?_
 refine CX.seq ?_
 refine CX.region ?_
 refine RX.cons rfl rfl (op_alloc rfl rfl rfl zero_84 fun g1 => ?_)
 refine RX.nil (XX.next (V' := [(0, _), (2, .pointer (some ⟨g1, 0, none⟩))]) ⟨rfl, rfl, trivial⟩ ?_)
 refine CX.seq ?_
 refine CX.region ?_
 refine RX.cons rfl rfl (op_w (yw_move rfl rfl) rfl rfl ?_)
 refine RX.cons rfl rfl (op_w (yw_build (v := .agg (#[.pointer (some ⟨g, j, none⟩), .int .i64 0, .int .i64 1199])) rfl rfl (fun _ => by kernel_rfl)) rfl rfl ?_)
 refine RX.cons rfl rfl (op_storeAll (i := 0) rfl rfl rfl rfl szt_84 rfl (plain_of rfl) rfl rfl ?_)
 refine RX.nil (XX.next (V' := [(2, .pointer (some ⟨g1, 0, none⟩))]) ⟨rfl, trivial⟩ ?_)
 refine CX.ret ?_
 exact ret_cell (i := 0) rfl rfl agg_84 rfl rfl fun w1 hw => ⟨rfl, hw.sub (List.nil_sublist _)⟩

set_option maxRecDepth 100000 in
theorem w_isWithin {w : World} {g j : Nat} (v lo hi : Int) (hc : w.cell? ⟨g, j, none⟩ = some (.int .i64 v)) :
    Calls Tryz.prog 33 #[.agg (#[.pointer (some ⟨g, j, none⟩), .int .i64 lo, .int .i64 hi])] w (fun e w' => e = .returned (.bool (within v lo hi)) ∧ SL w [] w' []) := by
 refine calls_of_CX (O := []) (L := []) (args := [.agg (#[.pointer (some ⟨g, j, none⟩), .int .i64 lo, .int .i64 hi])]) Tryz.func33 rfl (by simp [Tryz.ntmps33]) (SL.refl w) ?_
 refine CX.sub (V' := [(0, .agg (#[.pointer (some ⟨g, j, none⟩), .int .i64 lo, .int .i64 hi]))]) ⟨rfl, trivial⟩ ?_
 refine CX.seq ?_
 refine CX.region ?_
 refine RX.cons rfl rfl (op_box rfl rfl rfl rfl fun g1 => ?_)
 refine RX.cons rfl rfl (op_w (yw_assign rfl rfl) rfl rfl ?_)
 refine RX.nil (XX.next (V' := [(1, _)]) ⟨rfl, trivial⟩ ?_)
 refine CX.seq ?_
 refine CX.draw 17 [(0, 2, 8), (1, 8, 16), (2, 16, 32), (4, 32, 64), (0, 2, 128), (16, 128, 256), (40, 320, 512), (64, 512, 1024), (128, 1026, 2048), (384, 3072, 4096), (640, 5120, 8192), (1152, 9216, 16384), (128, 1026, 32768), (4224, 33792, 65536), (10368, 82944, 131072), (16512, 132096, 262144), (65535, 262144, 4)] (by kernel_rfl) (by kernel_rfl) (by kernel_rfl) ?_
 refine DX.takeW 0 1 (by kernel_rfl) rfl rfl rfl rfl rfl (yw_field0 rfl fld_84_0 rfl) ?_
 refine DX.take 1 3 (by kernel_rfl) rfl rfl rfl rfl rfl (List.Sublist.refl _) (y_load (i := 0) rfl rfl one_82 rfl rfl) ?_
 refine DX.takeW 2 7 (by kernel_rfl) rfl rfl rfl rfl rfl (yw_nilCheck rfl rfl) ?_
 refine DX.take 3 15 (by kernel_rfl) rfl rfl rfl rfl rfl (List.Sublist.refl _) (y_loadG (v := .int .i64 v) rfl rfl one_3 hc (by simp)) ?_
 refine DX.takeW 4 31 (by kernel_rfl) rfl rfl rfl rfl rfl (yw_fieldAddr rfl fld_84_1 rfl) ?_
 refine DX.take 5 63 (by kernel_rfl) rfl rfl rfl rfl rfl (List.Sublist.refl _) (y_load (i := 0) rfl rfl one_3 rfl rfl) ?_
 refine DX.takeW 6 127 (by kernel_rfl) rfl rfl rfl rfl rfl (yw_geq rfl rfl rfl) ?_
 refine DX.takeW 7 255 (by kernel_rfl) rfl rfl rfl rfl rfl (yw_move rfl rfl) ?_
 refine DX.splitD (t := 10) (p := lo ≤ v) rfl (fun d10 => ?_) (fun d10 => ?_)
 ·refine DX.takeWG 8 511 (by kernel_rfl) rfl rfl rfl rfl rfl rfl rfl rfl (yw_field0 rfl fld_84_0 rfl) ?_
  refine DX.takeG 9 1023 (by kernel_rfl) rfl rfl rfl rfl rfl rfl rfl rfl (List.Sublist.refl _) (y_load (i := 0) rfl rfl one_82 rfl rfl) ?_
  refine DX.takeWG 10 2047 (by kernel_rfl) rfl rfl rfl rfl rfl rfl rfl rfl (yw_nilCheck rfl rfl) ?_
  refine DX.takeG 11 4095 (by kernel_rfl) rfl rfl rfl rfl rfl rfl rfl rfl (List.Sublist.refl _) (y_loadG (v := .int .i64 v) rfl rfl one_3 hc (by simp)) ?_
  refine DX.takeWG 12 8191 (by kernel_rfl) rfl rfl rfl rfl rfl rfl rfl rfl (yw_fieldAddr rfl fld_84_2 rfl) ?_
  refine DX.takeG 13 16383 (by kernel_rfl) rfl rfl rfl rfl rfl rfl rfl rfl (List.Sublist.refl _) (y_load (i := 0) rfl rfl one_3 rfl rfl) ?_
  refine DX.takeWG 14 32767 (by kernel_rfl) rfl rfl rfl rfl rfl rfl rfl rfl (yw_leq rfl rfl rfl) ?_
  refine DX.takeW 15 65535 (by kernel_rfl) rfl rfl rfl rfl rfl (yw_pickT rfl rfl rfl) ?_
  refine DX.takeW 16 131071 (by kernel_rfl) rfl rfl rfl rfl rfl (yw_assign rfl rfl) ?_
  refine DX.done (by kernel_rfl) (XX.next (V' := [(2, .bool (decide (v ≤ hi)))]) ⟨rfl, trivial⟩ ?_)
  refine CX.ret ?_
  exact ret_tmp rfl rfl fun w1 hw => ⟨by simp [within, *], hw.sub (List.nil_sublist _)⟩
 ·refine DX.skip 8 511 (by kernel_rfl) rfl rfl rfl rfl rfl rfl rfl rfl ?_
  refine DX.skip 9 1023 (by kernel_rfl) rfl rfl rfl rfl rfl rfl rfl rfl ?_
  refine DX.skip 10 2047 (by kernel_rfl) rfl rfl rfl rfl rfl rfl rfl rfl ?_
  refine DX.skip 11 4095 (by kernel_rfl) rfl rfl rfl rfl rfl rfl rfl rfl ?_
  refine DX.skip 12 8191 (by kernel_rfl) rfl rfl rfl rfl rfl rfl rfl rfl ?_
  refine DX.skip 13 16383 (by kernel_rfl) rfl rfl rfl rfl rfl rfl rfl rfl ?_
  refine DX.skip 14 32767 (by kernel_rfl) rfl rfl rfl rfl rfl rfl rfl rfl ?_
  refine DX.takeW 15 65535 (by kernel_rfl) rfl rfl rfl rfl rfl (yw_pickF rfl rfl rfl) ?_
  refine DX.takeW 16 131071 (by kernel_rfl) rfl rfl rfl rfl rfl (yw_assign rfl rfl) ?_
  refine DX.done (by kernel_rfl) (XX.next (V' := [(2, .bool false)]) ⟨rfl, trivial⟩ ?_)
  refine CX.ret ?_
  exact ret_tmp rfl rfl fun w1 hw => ⟨by simp [within, *], hw.sub (List.nil_sublist _)⟩

set_option maxRecDepth 100000 in
theorem w_kinds {w : World} :
    Calls Tryz.prog 32 #[] w (fun e w' => ∃ x : Nat × (Int → Option Value), x.2 1 = some (.agg (#[.func (.func 56) #[] #[], .bool false, .func (.func 57) #[] #[]])) ∧ e = .returned (.map (some x.1)) ∧ SL w [] w' [.imap x.1 x.2]) := by
 refine calls_of_CX (O := []) (L := []) (args := []) Tryz.func32 rfl (by simp [Tryz.ntmps32]) (SL.refl w) ?_
 refine CX.sub (V' := []) trivial ?_
 refine CX.seq ?_
 refine CX.region ?_
 refine RX.cons rfl rfl (op_w (yw_assign rfl rfl) rfl rfl ?_)
 refine RX.nil (XX.next (V' := []) trivial ?_)
 refine CX.seq ?_
 refine CX.region ?_
 refine RX.cons rfl rfl (op_makeMap rfl rfl rfl fun m1 => ?_)
 refine RX.cons rfl rfl (op_w (yw_build (v := .agg (#[.func (.func 56) #[] #[], .bool false, .func (.func 57) #[] #[]])) rfl rfl (fun _ => by kernel_rfl)) rfl rfl ?_)
 refine RX.cons rfl rfl (op_mapUpdate (i := 0) (.inr rfl) rfl rfl rfl rfl mapt_76 rfl ?_)
 refine RX.cons rfl rfl (op_w (yw_build (v := .agg (#[.func (.func 58) #[] #[], .bool false, .func (.func 57) #[] #[]])) rfl rfl (fun _ => by kernel_rfl)) rfl rfl ?_)
 refine RX.cons rfl rfl (op_mapUpdate (i := 0) (.inr rfl) rfl rfl rfl rfl mapt_76 rfl ?_)
 refine RX.cons rfl rfl (op_w (yw_build (v := .agg (#[.func (.func 59) #[] #[], .bool false, .func (.func 60) #[] #[]])) rfl rfl (fun _ => by kernel_rfl)) rfl rfl ?_)
 refine RX.cons rfl rfl (op_mapUpdate (i := 0) (.inr rfl) rfl rfl rfl rfl mapt_76 rfl ?_)
 refine RX.cons rfl rfl (op_w (yw_build (v := .agg (#[.func (.func 61) #[] #[], .bool true, .func (.func 62) #[] #[]])) rfl rfl (fun _ => by kernel_rfl)) rfl rfl ?_)
 refine RX.cons rfl rfl (op_mapUpdate (i := 0) (.inr rfl) rfl rfl rfl rfl mapt_76 rfl ?_)
 refine RX.cons rfl rfl (op_w (yw_build (v := .agg (#[.func (.func 63) #[] #[], .bool false, .func (.func 60) #[] #[]])) rfl rfl (fun _ => by kernel_rfl)) rfl rfl ?_)
 refine RX.cons rfl rfl (op_mapUpdate (i := 0) (.inr rfl) rfl rfl rfl rfl mapt_76 rfl ?_)
 refine RX.cons rfl rfl (op_w (yw_build (v := .agg (#[.func (.func 64) #[] #[], .bool false, .func (.func 65) #[] #[]])) rfl rfl (fun _ => by kernel_rfl)) rfl rfl ?_)
 refine RX.cons rfl rfl (op_mapUpdate (i := 0) (.inr rfl) rfl rfl rfl rfl mapt_76 rfl ?_)
 refine RX.cons rfl rfl (op_w (yw_build (v := .agg (#[.func (.func 66) #[] #[], .bool false, .func (.func 67) #[] #[]])) rfl rfl (fun _ => by kernel_rfl)) rfl rfl ?_)
 refine RX.cons rfl rfl (op_mapUpdate (i := 0) (.inr rfl) rfl rfl rfl rfl mapt_76 rfl ?_)
 refine RX.cons rfl rfl (op_w (yw_build (v := .agg (#[.func (.func 68) #[] #[], .bool false, .func (.func 60) #[] #[]])) rfl rfl (fun _ => by kernel_rfl)) rfl rfl ?_)
 refine RX.cons rfl rfl (op_mapUpdate (i := 0) (.inr rfl) rfl rfl rfl rfl mapt_76 rfl ?_)
 refine RX.cons rfl rfl (op_w (yw_build (v := .agg (#[.func (.func 69) #[] #[], .bool true, .func (.func 70) #[] #[]])) rfl rfl (fun _ => by kernel_rfl)) rfl rfl ?_)
 refine RX.cons rfl rfl (op_mapUpdate (i := 0) (.inr rfl) rfl rfl rfl rfl mapt_76 rfl ?_)
 refine RX.cons rfl rfl (op_w (yw_build (v := .agg (#[.func (.func 71) #[] #[], .bool false, .func (.func 72) #[] #[]])) rfl rfl (fun _ => by kernel_rfl)) rfl rfl ?_)
 refine RX.cons rfl rfl (op_mapUpdate (i := 0) (.inr rfl) rfl rfl rfl rfl mapt_76 rfl ?_)
 refine RX.cons rfl rfl (op_w (yw_move rfl rfl) rfl rfl ?_)
 refine RX.cons rfl rfl (op_w (yw_assign rfl rfl) rfl rfl ?_)
 refine RX.nil (XX.next (V' := [(0, .map (some m1))]) ⟨rfl, trivial⟩ ?_)
 refine CX.ret ?_
 refine ret_tmp rfl rfl fun w1 hw => ⟨(_, _), ?_, rfl, hw⟩
 rfl

set_option maxRecDepth 100000 in
theorem w_fplay {w : World} (g : Nat) :
    Calls Tryz.prog 56 #[.pointer (some ⟨g, 0, none⟩)] w (fun e w' => ∃ g' : Nat, True ∧ e = .returned (.slice (some ⟨g', 0, none⟩) 8 8) ∧ SL w [] w' [.row (some ⟨g', 0, none⟩) 8 84 3 (fieldsRow g)]) := by
 refine calls_of_CX (O := []) (L := []) (args := [.pointer (some ⟨g, 0, none⟩)]) Tryz.func56 rfl (by simp [Tryz.ntmps56]) (SL.refl w) ?_
 refine CX.sub (V' := [(0, .pointer (some ⟨g, 0, none⟩))]) ⟨rfl, trivial⟩ ?_
 refine CX.seq ?_
 refine CX.region ?_
 refine RX.cons rfl rfl (op_w (yw_assign rfl rfl) rfl rfl ?_)
 refine RX.nil (XX.next (V' := [(0, _)]) ⟨rfl, trivial⟩ ?_)
 refine CX.seq ?_
 refine CX.draw 42 [(0, 1, 8), (1, 8, 16), (2, 16, 32), (4, 32, 64), (8, 64, 128), (0, 1, 256), (32, 256, 512), (64, 512, 1024), (128, 1024, 2048), (272, 2048, 4096), (0, 1, 8192), (1024, 8192, 16384), (2048, 16384, 32768), (4096, 32768, 65536), (8704, 65536, 131072), (0, 1, 262144), (32768, 262144, 524288), (65536, 524288, 1048576), (131072, 1048576, 2097152), (278528, 2097152, 4194304), (0, 1, 8388608), (1048576, 8388608, 16777216), (2097152, 16777216, 33554432), (4194304, 33554432, 67108864), (8912896, 67108864, 134217728), (0, 1, 268435456), (33554432, 268435456, 536870912), (67108864, 536870912, 1073741824), (134217728, 1073741824, 2147483648), (268435456, 2147483648, 4294967296), (0, 1, 8589934592), (1073741824, 8589934592, 17179869184), (2147483648, 17179869184, 34359738368), (4294967296, 34359738368, 68719476736), (8589934592, 68719476736, 137438953472), (0, 1, 274877906944), (34359738368, 274877906944, 549755813888), (68719476736, 549755813888, 1099511627776), (137438953472, 1099511627776, 2199023255552), (274877906944, 2199023255552, 4398046511104), (567489872400, 4539918979200, 8796093022208), (2199023255551, 8796093022208, 4)] (by kernel_rfl) (by kernel_rfl) (by kernel_rfl) ?_
 refine DX.takeW 0 1 (by kernel_rfl) rfl rfl rfl rfl rfl (yw_move rfl rfl) ?_
 refine DX.takeW 1 3 (by kernel_rfl) rfl rfl rfl rfl rfl (yw_nilCheck rfl rfl) ?_
 refine DX.takeW 2 7 (by kernel_rfl) rfl rfl rfl rfl rfl (yw_field0 rfl fld_80_0 rfl) ?_
 refine DX.takeW 3 15 (by kernel_rfl) rfl rfl rfl rfl rfl (yw_fieldAddr rfl fld_27_1 rfl) ?_
 refine DX.takeW 5 47 (by kernel_rfl) rfl rfl rfl rfl rfl (yw_move rfl rfl) ?_
 refine DX.takeW 6 111 (by kernel_rfl) rfl rfl rfl rfl rfl (yw_nilCheck rfl rfl) ?_
 refine DX.takeW 7 239 (by kernel_rfl) rfl rfl rfl rfl rfl (yw_field0 rfl fld_80_0 rfl) ?_
 refine DX.takeW 8 495 (by kernel_rfl) rfl rfl rfl rfl rfl (yw_fieldAddr rfl fld_27_5 rfl) ?_
 refine DX.takeW 10 1519 (by kernel_rfl) rfl rfl rfl rfl rfl (yw_move rfl rfl) ?_
 refine DX.takeW 11 3567 (by kernel_rfl) rfl rfl rfl rfl rfl (yw_nilCheck rfl rfl) ?_
 refine DX.takeW 12 7663 (by kernel_rfl) rfl rfl rfl rfl rfl (yw_field0 rfl fld_80_0 rfl) ?_
 refine DX.takeW 13 15855 (by kernel_rfl) rfl rfl rfl rfl rfl (yw_fieldAddr rfl fld_27_6 rfl) ?_
 refine DX.takeW 15 48623 (by kernel_rfl) rfl rfl rfl rfl rfl (yw_move rfl rfl) ?_
 refine DX.takeW 16 114159 (by kernel_rfl) rfl rfl rfl rfl rfl (yw_nilCheck rfl rfl) ?_
 refine DX.takeW 17 245231 (by kernel_rfl) rfl rfl rfl rfl rfl (yw_field0 rfl fld_80_0 rfl) ?_
 refine DX.takeW 18 507375 (by kernel_rfl) rfl rfl rfl rfl rfl (yw_fieldAddr rfl fld_27_7 rfl) ?_
 refine DX.takeW 20 1555951 (by kernel_rfl) rfl rfl rfl rfl rfl (yw_move rfl rfl) ?_
 refine DX.takeW 21 3653103 (by kernel_rfl) rfl rfl rfl rfl rfl (yw_nilCheck rfl rfl) ?_
 refine DX.takeW 22 7847407 (by kernel_rfl) rfl rfl rfl rfl rfl (yw_field0 rfl fld_80_0 rfl) ?_
 refine DX.takeW 23 16236015 (by kernel_rfl) rfl rfl rfl rfl rfl (yw_fieldAddr rfl fld_27_8 rfl) ?_
 refine DX.takeW 25 49790447 (by kernel_rfl) rfl rfl rfl rfl rfl (yw_move rfl rfl) ?_
 refine DX.takeW 26 116899311 (by kernel_rfl) rfl rfl rfl rfl rfl (yw_nilCheck rfl rfl) ?_
 refine DX.takeW 27 251117039 (by kernel_rfl) rfl rfl rfl rfl rfl (yw_field0 rfl fld_80_0 rfl) ?_
 refine DX.takeW 28 519552495 (by kernel_rfl) rfl rfl rfl rfl rfl (yw_fieldAddr rfl fld_27_4 rfl) ?_
 refine DX.takeW 29 1056423407 (by kernel_rfl) rfl rfl rfl rfl rfl (yw_build (v := .agg (#[.pointer (some ⟨g, 4, none⟩), .int .i64 0, .int .i64 3155759999])) rfl rfl (fun _ => by kernel_rfl)) ?_
 refine DX.takeW 30 2130165231 (by kernel_rfl) rfl rfl rfl rfl rfl (yw_move rfl rfl) ?_
 refine DX.takeW 31 4277648879 (by kernel_rfl) rfl rfl rfl rfl rfl (yw_nilCheck rfl rfl) ?_
 refine DX.takeW 32 8572616175 (by kernel_rfl) rfl rfl rfl rfl rfl (yw_field0 rfl fld_80_0 rfl) ?_
 refine DX.takeW 33 17162550767 (by kernel_rfl) rfl rfl rfl rfl rfl (yw_fieldAddr rfl fld_27_13 rfl) ?_
 refine DX.takeW 34 34342419951 (by kernel_rfl) rfl rfl rfl rfl rfl (yw_build (v := .agg (#[.pointer (some ⟨g, 13, none⟩), .int .i64 0, .int .i64 86400000])) rfl rfl (fun _ => by kernel_rfl)) ?_
 refine DX.takeW 35 68702158319 (by kernel_rfl) rfl rfl rfl rfl rfl (yw_move rfl rfl) ?_
 refine DX.takeW 36 137421635055 (by kernel_rfl) rfl rfl rfl rfl rfl (yw_nilCheck rfl rfl) ?_
 refine DX.takeW 37 274860588527 (by kernel_rfl) rfl rfl rfl rfl rfl (yw_field0 rfl fld_80_0 rfl) ?_
 refine DX.takeW 38 549738495471 (by kernel_rfl) rfl rfl rfl rfl rfl (yw_fieldAddr rfl fld_27_16 rfl) ?_
 refine DX.takeW 39 1099494309359 (by kernel_rfl) rfl rfl rfl rfl rfl (yw_build (v := .agg (#[.pointer (some ⟨g, 16, none⟩), .int .i64 0, .int .i64 1])) rfl rfl (fun _ => by kernel_rfl)) ?_
 refine DX.step 4 1099494309375 (by kernel_rfl) rfl rfl rfl (op_callV (v := .agg (#[.pointer (some ⟨g, 1, none⟩), .int .i64 1, .int .i64 1000000])) rfl rfl rfl rfl rfl ent_104 (fun w _ => w_fid g 1) (DXs.mk (List.nil_sublist _) ?_))
 refine DX.step 9 1099494309887 (by kernel_rfl) rfl rfl rfl (op_callV (v := .agg (#[.pointer (some ⟨g, 5, none⟩), .int .i64 1, .int .i64 1000000])) rfl rfl rfl rfl rfl ent_104 (fun w _ => w_fid g 5) (DXs.mk (List.nil_sublist _) ?_))
 refine DX.step 14 1099494326271 (by kernel_rfl) rfl rfl rfl (op_callV (v := .agg (#[.pointer (some ⟨g, 6, none⟩), .int .i64 1, .int .i64 1000000])) rfl rfl rfl rfl rfl ent_104 (fun w _ => w_fid g 6) (DXs.mk (List.nil_sublist _) ?_))
 refine DX.step 19 1099494850559 (by kernel_rfl) rfl rfl rfl (op_callV (v := .agg (#[.pointer (some ⟨g, 7, none⟩), .int .i64 1, .int .i64 1000000])) rfl rfl rfl rfl rfl ent_104 (fun w _ => w_fid g 7) (DXs.mk (List.nil_sublist _) ?_))
 refine DX.step 24 1099511627775 (by kernel_rfl) rfl rfl rfl (op_callV (v := .agg (#[.pointer (some ⟨g, 8, none⟩), .int .i64 0, .int .i64 7])) rfl rfl rfl rfl rfl ent_105 (fun w _ => w_fterr g 8) (DXs.mk (List.nil_sublist _) ?_))
 refine DX.step 40 2199023255551 (by kernel_rfl) rfl rfl rfl (op_buildSlice rfl rfl rfl slb_81 rfl rfl (by intro v hv; simp only [List.mem_cons, List.not_mem_nil, or_false] at hv; rcases hv with rfl | rfl | rfl | rfl | rfl | rfl | rfl | rfl <;> exact ⟨rfl, (plain_of rfl)⟩) (by decide) fun g2 => (DXs.mk (List.nil_sublist _) ?_))
 refine DX.takeW 41 4398046511103 (by kernel_rfl) rfl rfl rfl rfl rfl (yw_assign rfl rfl) ?_
 refine DX.done (by kernel_rfl) (XX.next (V' := [(2, .slice (some ⟨g2, 0, none⟩) 8 8)]) ⟨rfl, trivial⟩ ?_)
 refine CX.ret ?_
 exact ret_tmp rfl rfl fun w1 hw => ⟨_, trivial, rfl, hw⟩

end Go.Proofs.YtpcfgoadkfajfaaGreatDoor.Se
