/- Walks, printed by a program. -/
import Derived.Test.YtnadipjlhlbfoaaDoorK13
namespace Go.Proofs.YtnadipjlhlbfoaaDoor
set_option linter.all false
open Go Go.RowKit
set_option maxRecDepth 100000
theorem ent_29 : ∀ args w, (callFunc 29 args).run Tryd.prog w = .ok (.enter 29 args) w := enters_of Tryd.func29 (by kernel_rfl) rfl
theorem ent_27 : ∀ args w, (callFunc 27 args).run Tryd.prog w = .ok (.enter 27 args) w := enters_of Tryd.func27 (by kernel_rfl) rfl
theorem Rd.dropIf {α : Type} {f : α → Array Value} {w : World} {A : Option Addr} {cap sz : Nat} {xs : List α} (h : Rd w A sz (xs.map f)) (hc : xs.length ≤ cap) (k : Nat) : Rd w (if cap = k then A else Option.map (fun q => q.add (k * sz)) A) sz ((xs.drop k).map f) := by
  by_cases hd : xs.length ≤ k
  · rw [List.drop_eq_nil_of_le hd]; exact Rd.nil _ _ _
  · rw [if_neg (by omega)]
    obtain ⟨b, q0, hA⟩ := Rd.some (k := 0) h (by rw [List.length_map]; omega)
    rw [hA, Option.map_some, add_none]
    exact h.dropM hA k
theorem mem_turn {α : Type} {l : List α} {h : Nat} {x : α} (hx : x ∈ (([] ++ List.drop h l) ++ List.take h l)) : x ∈ l := by
  rcases List.mem_append.1 hx with hx | hx
  · exact List.mem_of_mem_drop (by simpa using hx)
  · exact List.mem_of_mem_take hx
theorem mem_same {α : Type} {l : List α} {x : α} (hx : x ∈ ([] ++ l)) : x ∈ l := by simpa using hx
theorem hashed_small {l : List ByteArray} (h : ∀ s ∈ l, s.size ≤ 4294967296) : ∀ x ∈ hashed l, x.size ≤ 17592186044416 := fun x hx => by
  have := hashed_sizes (b := 4294967296) (by decide) _ _ h x hx
  omega
/-- Logs with one root have the same statements, or two different strings have the same digest. -/
theorem equal_law {X Y : List SX} (hX : ∀ x ∈ X, okS x.2 = true) (hY : ∀ x ∈ Y, okS x.2 = true) (h : root sum (entsX X) = root sum (entsX Y)) : X.map (fun x : SX => x.2) = Y.map (fun x : SX => x.2) ∨ collB (hashed (entsX X)) (hashed (entsX Y)) = true := by
  have h1 := equal_or sum sum_size (max (entsX X).length (entsX Y).length) (entsX X) (entsX Y) (Nat.le_max_left _ _) (Nat.le_max_right _ _) h
  rcases h1 with h1 | h1
  · left
    have h2 : encsX X = encsX Y := entsF_inj h1
    have : ∀ (l m : List Stm), (∀ s ∈ l, okS s = true) → (∀ s ∈ m, okS s = true) → l.map encS = m.map encS → l = m := by
      intro l
      induction l with
      | nil => intro m _ _ e; cases m with | nil => rfl | cons => simp at e
      | cons a l ih =>
        intro m hl hm e
        cases m with
        | nil => simp at e
        | cons b m =>
          simp only [List.map_cons, List.cons.injEq] at e
          rw [encS_inj (hl a List.mem_cons_self) (hm b List.mem_cons_self) e.1, ih m (fun s hs => hl s (List.mem_cons_of_mem _ hs)) (fun s hs => hm s (List.mem_cons_of_mem _ hs)) e.2]
    refine this _ _ (fun s hs => ?_) (fun s hs => ?_) ?_
    · obtain ⟨x, hx, rfl⟩ := List.mem_map.1 hs; exact hX x hx
    · obtain ⟨x, hx, rfl⟩ := List.mem_map.1 hs; exact hY x hx
    · have e1 : ∀ Z : List SX, (Z.map (fun x : SX => x.2)).map encS = encsX Z := fun Z => by simp [encsX]
      rw [e1, e1, h2]
  · right
    rw [hashed_fuel sum _ (entsX X).length (entsX X) (Nat.le_max_left _ _) (Nat.le_refl _), hashed_fuel sum _ (entsX Y).length (entsX Y) (Nat.le_max_right _ _) (Nat.le_refl _)] at h1
    exact collB_of h1
attribute [local irreducible] sum root entsX hashed
set_option maxRecDepth 100000 in
theorem w_equal {w : World} {A B : Option Addr} {cap capB : Nat} (X Y : List SX) (hr : Rd w A 3 (X.map stC)) (hX : ∀ x ∈ X, Rd w x.1.1 3 (x.2.ls.map lnC)) (hXc : ∀ x ∈ X, x.2.ls.length ≤ x.1.2) (hX8 : X.length ≤ 9223372036854775807) (hXl : ∀ x ∈ X, x.2.ls.length ≤ 9223372036854775807) (hrY : Rd w B 3 (Y.map stC)) (hY : ∀ x ∈ Y, Rd w x.1.1 3 (x.2.ls.map lnC)) (hYc : ∀ x ∈ Y, x.2.ls.length ≤ x.1.2) (hY8 : Y.length ≤ 9223372036854775807) (hYl : ∀ x ∈ Y, x.2.ls.length ≤ 9223372036854775807) (hG : Rounds w) (c : Int) (hc1 : -9223372036854775808 ≤ c) (hc2 : c ≤ 9223372036854775807) :
    Calls Tryd.prog 6 #[.slice A X.length cap, .slice B Y.length capB, .int .i64 c] w (fun e w' => e = .returned (.bool true) ∧ SL w [] w' []) := by
  refine calls_of_CX (O := []) (L := []) (args := [.slice A X.length cap, .slice B Y.length capB, .int .i64 c]) Tryd.func6 rfl (by simp [Tryd.ntmps6]) (SL.refl w) ?_
  refine CX.sub (V' := [(0, .slice A X.length cap), (1, .slice B Y.length capB), (2, .int .i64 c)]) ⟨rfl, rfl, rfl, trivial⟩ ?_
  refine CX.seq ?_
  refine CX.region ?_
  refine RX.cons rfl rfl (op_w (yw_assign rfl rfl) rfl rfl ?_)
  refine RX.nil (XX.next (V' := [(0, _), (1, _), (2, _)]) ⟨rfl, rfl, rfl, trivial⟩ ?_)
  refine CX.seq ?_
  refine CX.region ?_
  refine RX.cons rfl rfl (op_callV (v := .bool true) rfl rfl rfl rfl rfl ent_9 (fun w hw => w_sane (hG.keep hw (by simp))) ?_)
  refine RX.cons rfl rfl (op_w (yw_assign rfl rfl) rfl rfl ?_)
  refine RX.nil (XX.next (V' := [(0, _), (1, _), (2, _), (7, _)]) ⟨rfl, rfl, rfl, rfl, trivial⟩ ?_)
  refine CX.seq ?_
  refine CX.region ?_
  refine RX.cons rfl rfl (op_w (yw_move rfl rfl) rfl rfl ?_)
  refine RX.cons rfl rfl (op_callE rfl rfl rfl rfl rfl ent_10 (fun w hw => w_validX X (hw.rd hr (by simp)) (fun x hx => hw.rd (hX x hx) (by simp)) hXc hX8 hXl 12 (by decide)) (fun zv hzv => ?_))
  have hvs := of_snd (p := fun s => s.ls.length ≤ 1000000) hzv (fun s hs => by have := valL_short X 12 s hs; omega)
  have hvo := of_snd (p := fun s => okS s = true) hzv (valL_ok X 12)
  have hvn : zv.2.length ≤ 12 := by rw [len_snd hzv]; exact valL_length X 12
  refine RX.cons rfl rfl (op_w (yw_assign rfl rfl) rfl rfl ?_)
  refine RX.nil (XX.next (V' := [(0, _), (1, _), (2, _), (7, _)]) ⟨rfl, rfl, rfl, rfl, trivial⟩ ?_)
  refine CX.seq ?_
  refine CX.region ?_
  refine RX.cons rfl rfl (op_w (yw_move rfl rfl) rfl rfl ?_)
  refine RX.cons rfl rfl (op_callE rfl rfl rfl rfl rfl ent_10 (fun w hw => w_validX Y (hw.rd hrY (by simp)) (fun x hx => hw.rd (hY x hx) (by simp)) hYc hY8 hYl 12 (by decide)) (fun zu hzu => ?_))
  have hvsu := of_snd (p := fun s => s.ls.length ≤ 1000000) hzu (fun s hs => by have := valL_short Y 12 s hs; omega)
  have hvou := of_snd (p := fun s => okS s = true) hzu (valL_ok Y 12)
  have hvnu : zu.2.length ≤ 12 := by rw [len_snd hzu]; exact valL_length Y 12
  refine RX.cons rfl rfl (op_w (yw_assign rfl rfl) rfl rfl ?_)
  refine RX.nil (XX.next (V' := [(0, _), (1, _), (2, _), (7, _)]) ⟨rfl, rfl, rfl, rfl, trivial⟩ ?_)
  refine CX.seq ?_
  refine CX.seq ?_
  refine CX.region ?_
  refine RX.cons rfl rfl (op_w (yw_move rfl rfl) rfl rfl ?_)
  refine RX.cons rfl rfl (op_callV (v := .int .i64 ((pickN c 4 : Nat) : Int)) rfl rfl rfl rfl rfl ent_20 (fun w hw => w_pick c 4 hc1 hc2 (by decide)) ?_)
  refine RX.nil (XX.next (V' := [(0, _), (1, _), (7, _), (16, _)]) ⟨rfl, rfl, rfl, rfl, trivial⟩ ?_)
  refine CX.block ?_
  refine CX.seq ?_
  refine CX.region ?_
  refine RX.cons rfl rfl (op_w (yw_eql rfl rfl rfl) rfl rfl ?_)
  refine RX.cons rfl rfl (op_w (yw_assign rfl rfl) rfl rfl ?_)
  refine RX.nil (XX.next (V' := [(0, _), (1, _), (7, _), (16, _), (17, _)]) ⟨rfl, rfl, rfl, rfl, rfl, trivial⟩ ?_)
  refine CX.condD (p := ((pickN c 4 : Nat) : Int) = 0) rfl (fun c17 => ?_) (fun c17 => ?_)
  · obtain ⟨h, hh⟩ : ∃ h, zv.2.length / 2 = h := ⟨_, rfl⟩
    refine CX.rowCap 2 rfl (fun hcV => ?_)
    refine CX.region ?_
    refine RX.cons rfl rfl (op_w (yw_move rfl rfl) rfl rfl ?_)
    refine RX.cons rfl rfl (op_w (yw_move rfl rfl) rfl rfl ?_)
    refine RX.cons rfl rfl (op_w (yw_lenS rfl Tryd.underlying22 rfl) rfl rfl ?_)
    refine RX.cons rfl rfl (op_w (yw_quo rfl rfl rfl (by omega) (by omega) (by omega)) rfl rfl ?_)
    refine RX.know (t := 22) (u := .int .i64 ((h : Nat) : Int)) rfl (congrArg (Value.int .i64) (by omega)) ?_
    refine RX.cons rfl rfl (op_w (yw_sliceTo (k := h) rfl slt_22 rfl rfl (by omega) (by omega)) rfl rfl ?_)
    refine RX.know (t := 23) (u := .slice zv.1.1 ((List.take h zv.2).length) zv.1.2) rfl (congrArg (fun n : Nat => Value.slice zv.1.1 n zv.1.2) (by rw [List.length_take]; omega)) ?_
    refine RX.cons rfl rfl (op_w (yw_assign rfl rfl) rfl rfl ?_)
    refine RX.nil (XX.inBlock (V' := [(0, _), (1, _), (7, _)]) ⟨rfl, rfl, rfl, trivial⟩ ?_)
    refine XX.next (V' := [(0, _), (1, _), (7, _)]) ⟨rfl, rfl, rfl, trivial⟩ ?_
    refine CX.seq ?_
    refine CX.region ?_
    refine RX.cons rfl rfl (op_w (yw_move rfl rfl) rfl rfl ?_)
    refine RX.cons rfl rfl (op_callE rfl rfl rfl rfl rfl ent_19 (fun w hw => w_logged zv.2 (Ent.rd (hw.ents _ (List.mem_of_getElem? (i := 2) rfl))) (lnsRd hw (i := 3) rfl) hvs (by omega) (hG.keep hw (by simp)) hvo) (fun zl hzl => ?_))
    have hL0 : (zl.2 : List SX).map (fun x : SX => x.2) = zv.2.map (fun x : SX => x.2) := hzl
    have hXl0 := of_snd (p := fun s => s.ls.length ≤ 1000000) hL0 (fun s hs => by obtain ⟨y, hy, rfl⟩ := List.mem_map.1 hs; exact hvs y hy)
    have hn0 : (zl.2 : List SX).length = zv.2.length := by have := congrArg List.length hL0; simpa using this
    refine RX.cons rfl rfl (op_w (yw_assign rfl rfl) rfl rfl ?_)
    refine RX.nil (XX.next (V' := [(0, _), (1, _), (7, _), (8, _)]) ⟨rfl, rfl, rfl, rfl, trivial⟩ ?_)
    refine CX.seq ?_
    refine CX.region ?_
    refine RX.cons rfl rfl (op_w (yw_move rfl rfl) rfl rfl ?_)
    refine RX.cons rfl rfl (op_callE rfl rfl rfl rfl rfl ent_19 (fun w hw => w_logged (List.take h zv.2) (Rd.takeM (Ent.rd (hw.ents _ (List.mem_of_getElem? (i := 3) rfl))) h) (fun x hx => (lnsRd hw (i := 4) rfl) x (List.mem_of_mem_take hx)) (fun x hx => hvs x (List.mem_of_mem_take hx)) (by rw [List.length_take]; omega) (hG.keep hw (by simp)) (fun x hx => hvo x (List.mem_of_mem_take hx))) (fun zm hzm => ?_))
    have hLm : (zm.2 : List SX).map (fun x : SX => x.2) = (List.take h zv.2).map (fun x : SX => x.2) := hzm
    have hXlm := of_snd (p := fun s => s.ls.length ≤ 1000000) hLm (fun s hs => by obtain ⟨y, hy, rfl⟩ := List.mem_map.1 hs; exact (fun x hx => hvs x (List.mem_of_mem_take hx)) y hy)
    have hnm : (zm.2 : List SX).length = (List.take h zv.2).length := by have := congrArg List.length hLm; simpa using this
    have hmn : zm.2.length ≤ 1000000 := by rw [hnm]; exact (by rw [List.length_take]; omega)
    refine RX.cons rfl rfl (op_w (yw_assign rfl rfl) rfl rfl ?_)
    refine RX.nil (XX.next (V' := [(0, _), (1, _), (7, _), (8, _), (9, _)]) ⟨rfl, rfl, rfl, rfl, rfl, trivial⟩ ?_)
    refine CX.seq ?_
    refine CX.seq ?_
    refine CX.region ?_
    refine RX.cons rfl rfl (op_w (yw_move rfl rfl) rfl rfl ?_)
    refine RX.cons rfl rfl (op_w (yw_move rfl rfl) rfl rfl ?_)
    refine RX.cons rfl rfl (op_callV (v := .bool (decide (List.map (fun x : SX => x.2) zv.2 = List.map (fun x : SX => x.2) (List.take h zv.2)))) rfl rfl rfl rfl rfl ent_13 (fun w hw => w_sameList zv.2 (List.take h zv.2) (Ent.rd (hw.ents _ (List.mem_of_getElem? (i := 4) rfl))) (lnsRd hw (i := 5) rfl) (Rd.takeM (Ent.rd (hw.ents _ (List.mem_of_getElem? (i := 4) rfl))) h) (fun x hx => (lnsRd hw (i := 5) rfl) x (List.mem_of_mem_take hx)) hvs (by omega)) ?_)
    refine RX.nil (XX.next (V' := [(0, _), (1, _), (7, _), (8, _), (9, _), (50, _)]) ⟨rfl, rfl, rfl, rfl, rfl, rfl, trivial⟩ ?_)
    refine CX.condD (p := List.map (fun x : SX => x.2) zv.2 = List.map (fun x : SX => x.2) (List.take h zv.2)) rfl (fun c50 => ?_) (fun c50 => ?_)
    · refine CX.seq ?_
      refine CX.region ?_
      refine RX.cons rfl rfl (op_w (yw_move rfl rfl) rfl rfl ?_)
      refine RX.cons rfl rfl (op_w (yw_move rfl rfl) rfl rfl ?_)
      refine RX.consG rfl rfl rfl rfl rfl (op_w (yw_move rfl rfl) rfl rfl ?_)
      refine RX.consG rfl rfl rfl rfl rfl (op_callV (v := .string (root sum (entsX zl.2))) rfl rfl rfl rfl rfl ent_15 (fun w hw => w_rootE zl.2 (hw.logAt (i := 1) rfl) hXl0 (by omega) (hG.keep hw (by simp))) ?_)
      refine RX.consG rfl rfl rfl rfl rfl (op_w (yw_move rfl rfl) rfl rfl ?_)
      refine RX.consG rfl rfl rfl rfl rfl (op_callV (v := .string (root sum (entsX zm.2))) rfl rfl rfl rfl rfl ent_15 (fun w hw => w_rootE zm.2 (hw.logAt (i := 0) rfl) hXlm hmn (hG.keep hw (by simp))) ?_)
      refine RX.consG rfl rfl rfl rfl rfl (op_w (yw_streq rfl rfl rfl) rfl rfl ?_)
      refine RX.know (t := 57) (u := .bool true) rfl (congrArg Value.bool (decide_eq_true (by rw [entsX_of (hzl.trans (c50.trans hzm.symm))]))) ?_
      refine RX.cons rfl rfl (op_w (yw_pickT rfl rfl rfl) rfl rfl ?_)
      refine RX.cons rfl rfl (op_w (yw_assign rfl rfl) rfl rfl ?_)
      refine RX.nil (XX.next (V' := [(6, .bool true)]) ⟨rfl, trivial⟩ ?_)
      refine CX.ret ?_
      refine XX.then_ret ?_
      exact ret_tmp rfl rfl fun w1 hw => ⟨rfl, hw.sub (List.nil_sublist _)⟩
    · refine CX.skip (XX.next (V' := [(0, _), (1, _), (7, _), (8, _), (9, _)]) ⟨rfl, rfl, rfl, rfl, rfl, trivial⟩ ?_)
      refine CX.seq ?_
      refine CX.region ?_
      refine RX.cons rfl rfl (op_w (yw_move rfl rfl) rfl rfl ?_)
      refine RX.cons rfl rfl (op_w (yw_move rfl rfl) rfl rfl ?_)
      refine RX.consG rfl rfl rfl rfl rfl (op_w (yw_move rfl rfl) rfl rfl ?_)
      refine RX.consG rfl rfl rfl rfl rfl (op_callV (v := .string (root sum (entsX zl.2))) rfl rfl rfl rfl rfl ent_15 (fun w hw => w_rootE zl.2 (hw.logAt (i := 1) rfl) hXl0 (by omega) (hG.keep hw (by simp))) ?_)
      refine RX.consG rfl rfl rfl rfl rfl (op_w (yw_move rfl rfl) rfl rfl ?_)
      refine RX.consG rfl rfl rfl rfl rfl (op_callV (v := .string (root sum (entsX zm.2))) rfl rfl rfl rfl rfl ent_15 (fun w hw => w_rootE zm.2 (hw.logAt (i := 0) rfl) hXlm hmn (hG.keep hw (by simp))) ?_)
      refine RX.consG rfl rfl rfl rfl rfl (op_w (yw_strneq rfl rfl rfl) rfl rfl ?_)
      refine RX.consG rfl rfl rfl rfl rfl (op_w (yw_move rfl rfl) rfl rfl ?_)
      refine RX.splitD (t := 66) (p := ByteArray.toList (root sum (entsX zl.2)) ≠ ByteArray.toList (root sum (entsX zm.2))) rfl (fun d66 => ?_) (fun d66 => ?_)
      · refine RX.skip rfl rfl rfl rfl rfl rfl rfl ?_
        refine RX.skip rfl rfl rfl rfl rfl rfl rfl ?_
        refine RX.skip rfl rfl rfl rfl rfl rfl rfl ?_
        refine RX.skip rfl rfl rfl rfl rfl rfl rfl ?_
        refine RX.skip rfl rfl rfl rfl rfl rfl rfl ?_
        refine RX.skip rfl rfl rfl rfl rfl rfl rfl ?_
        refine RX.skip rfl rfl rfl rfl rfl rfl rfl ?_
        refine RX.consG rfl rfl rfl rfl rfl (op_w (yw_pickT rfl rfl rfl) rfl rfl ?_)
        refine RX.cons rfl rfl (op_w (yw_pickT rfl rfl rfl) rfl rfl ?_)
        refine RX.cons rfl rfl (op_w (yw_assign rfl rfl) rfl rfl ?_)
        refine RX.nil (XX.next (V' := [(6, .bool true)]) ⟨rfl, trivial⟩ ?_)
        refine CX.ret ?_
        exact ret_tmp rfl rfl fun w1 hw => ⟨rfl, hw.sub (List.nil_sublist _)⟩
      · refine RX.consG rfl rfl rfl rfl rfl (op_w (yw_move rfl rfl) rfl rfl ?_)
        refine RX.consG rfl rfl rfl rfl rfl (op_callE rfl rfl rfl rfl rfl ent_29 (fun w hw => w_entries24 zv.2 (Ent.rd (hw.ents _ (List.mem_of_getElem? (i := 4) rfl))) (lnsRd hw (i := 5) rfl) hvs (by omega) hvo) (fun ze _ => ?_))
        refine RX.consG rfl rfl rfl rfl rfl (op_callE rfl rfl rfl rfl rfl ent_28 (fun w hw => w_hashed02 (entsX zv.2) (Ent.rd (hw.ents _ (List.mem_of_getElem? (i := 0) rfl))) (by have h8 := Ent.capLe (hw.ents _ (List.mem_of_getElem? (i := 0) rfl)); rwa [List.length_map] at h8) (by rw [entsX_length]; omega) (entsX_sizes hvs)) (fun zh _ => ?_))
        refine RX.consG rfl rfl rfl rfl rfl (op_w (yw_move rfl rfl) rfl rfl ?_)
        refine RX.consG rfl rfl rfl rfl rfl (op_callE rfl rfl rfl rfl rfl ent_29 (fun w hw => w_entries24 (List.take h zv.2) (Rd.takeM (Ent.rd (hw.ents _ (List.mem_of_getElem? (i := 6) rfl))) h) (fun x hx => (lnsRd hw (i := 7) rfl) x (List.mem_of_mem_take hx)) (fun x hx => hvs x (List.mem_of_mem_take hx)) (by rw [List.length_take]; omega) (fun x hx => hvo x (List.mem_of_mem_take hx))) (fun zf _ => ?_))
        refine RX.consG rfl rfl rfl rfl rfl (op_callE rfl rfl rfl rfl rfl ent_28 (fun w hw => w_hashed02 (entsX (List.take h zv.2)) (Ent.rd (hw.ents _ (List.mem_of_getElem? (i := 0) rfl))) (by have h8 := Ent.capLe (hw.ents _ (List.mem_of_getElem? (i := 0) rfl)); rwa [List.length_map] at h8) (by rw [entsX_length]; exact (by rw [List.length_take]; omega)) (entsX_sizes (fun x hx => hvs x (List.mem_of_mem_take hx)))) (fun zi _ => ?_))
        refine RX.consG rfl rfl rfl rfl rfl (op_callV (v := .bool (collB (hashed (entsX zv.2)) (hashed (entsX (List.take h zv.2))))) rfl rfl rfl rfl rfl ent_27 (fun w hw => w_collided (hashed (entsX zv.2)) (hashed (entsX (List.take h zv.2))) (Ent.rd (hw.ents _ (List.mem_of_getElem? (i := 2) rfl))) (Ent.rd (hw.ents _ (List.mem_of_getElem? (i := 0) rfl))) (by have := hashed_le (entsX zv.2); rw [entsX_length] at this; omega) (by have := hashed_le (entsX (List.take h zv.2)); rw [entsX_length, ← hnm] at this; have h9 : zm.2.length ≤ 12 := (by rw [hnm]; exact (by rw [List.length_take]; omega)); omega) (hashed_small (entsX_sizes hvs)) (hashed_small (entsX_sizes (fun x hx => hvs x (List.mem_of_mem_take hx))))) ?_)
        refine RX.know (t := 73) (u := .bool true) rfl (congrArg Value.bool ((equal_law hvo (fun x hx => hvo x (List.mem_of_mem_take hx)) (by rw [← entsX_of hzl, ← entsX_of hzm]; exact toList_inj.1 (Decidable.not_not.1 d66))).resolve_left c50)) ?_
        refine RX.consG rfl rfl rfl rfl rfl (op_w (yw_pickF rfl rfl rfl) rfl rfl ?_)
        refine RX.cons rfl rfl (op_w (yw_pickT rfl rfl rfl) rfl rfl ?_)
        refine RX.cons rfl rfl (op_w (yw_assign rfl rfl) rfl rfl ?_)
        refine RX.nil (XX.next (V' := [(6, .bool true)]) ⟨rfl, trivial⟩ ?_)
        refine CX.ret ?_
        exact ret_tmp rfl rfl fun w1 hw => ⟨rfl, hw.sub (List.nil_sublist _)⟩
  · refine CX.seq ?_
    refine CX.region ?_
    refine RX.cons rfl rfl (op_w (yw_eql rfl rfl rfl) rfl rfl ?_)
    refine RX.cons rfl rfl (op_w (yw_assign rfl rfl) rfl rfl ?_)
    refine RX.nil (XX.next (V' := [(0, _), (1, _), (7, _), (16, _), (24, _)]) ⟨rfl, rfl, rfl, rfl, rfl, trivial⟩ ?_)
    refine CX.condD (p := ((pickN c 4 : Nat) : Int) = 1) rfl (fun c24 => ?_) (fun c24 => ?_)
    · obtain ⟨h, hh⟩ : ∃ h, zv.2.length / 2 = h := ⟨_, rfl⟩
      refine CX.rowCap 2 rfl (fun hcV => ?_)
      refine CX.draw 6 [(0, 0, 67108864), (0, 1, 134217728), (0, 1, 268435456), (4, 268435456, 536870912), (8, 536870912, 1073741824), (18, 1207959552, 2147483648), (33, 2214592512, 4294967296), (0, 1, 8589934592), (0, 1, 17179869184), (256, 17179869184, 34359738368), (512, 34359738368, 68719476736), (1152, 77309411328, 137438953472), (2112, 141733920768, 274877906944), (8191, 274877906944, 2)] (by kernel_rfl) (by kernel_rfl) (by kernel_rfl) ?_
      refine DX.takeW 1 2 (by kernel_rfl) rfl rfl rfl rfl rfl (yw_move rfl rfl) ?_
      refine DX.takeW 2 6 (by kernel_rfl) rfl rfl rfl rfl rfl (yw_move rfl rfl) ?_
      refine DX.takeW 3 14 (by kernel_rfl) rfl rfl rfl rfl rfl (yw_lenS rfl Tryd.underlying22 rfl) ?_
      refine DX.takeW 4 30 (by kernel_rfl) rfl rfl rfl rfl rfl (yw_quo rfl rfl rfl (by omega) (by omega) (by omega)) ?_
      refine DX.know (t := 30) (u := .int .i64 ((h : Nat) : Int)) rfl (congrArg (Value.int .i64) (by omega)) ?_
      refine DX.takeW 5 62 (by kernel_rfl) rfl rfl rfl rfl rfl (yw_sliceFrom (k := h) rfl slt_22 rfl rfl (by omega) (by omega)) ?_
      refine DX.know (t := 31) (u := .slice (if zv.1.2 = h then zv.1.1 else Option.map (fun q => q.add (h * 3)) zv.1.1) ((List.drop h zv.2).length) (zv.1.2 - h)) rfl (congrArg (fun n : Nat => Value.slice (if zv.1.2 = h then zv.1.1 else Option.map (fun q => q.add (h * 3)) zv.1.1) n (zv.1.2 - h)) (by rw [List.length_drop])) ?_
      refine DX.takeW 7 190 (by kernel_rfl) rfl rfl rfl rfl rfl (yw_move rfl rfl) ?_
      refine DX.takeW 8 446 (by kernel_rfl) rfl rfl rfl rfl rfl (yw_move rfl rfl) ?_
      refine DX.takeW 9 958 (by kernel_rfl) rfl rfl rfl rfl rfl (yw_lenS rfl Tryd.underlying22 rfl) ?_
      refine DX.takeW 10 1982 (by kernel_rfl) rfl rfl rfl rfl rfl (yw_quo rfl rfl rfl (by omega) (by omega) (by omega)) ?_
      refine DX.know (t := 36) (u := .int .i64 ((h : Nat) : Int)) rfl (congrArg (Value.int .i64) (by omega)) ?_
      refine DX.takeW 11 4030 (by kernel_rfl) rfl rfl rfl rfl rfl (yw_sliceTo (k := h) rfl slt_22 rfl rfl (by omega) (by omega)) ?_
      refine DX.know (t := 37) (u := .slice zv.1.1 ((List.take h zv.2).length) zv.1.2) rfl (congrArg (fun n : Nat => Value.slice zv.1.1 n zv.1.2) (by rw [List.length_take]; omega)) ?_
      refine DX.step 0 4031 (by kernel_rfl) rfl rfl rfl (op_buildSlice rfl rfl rfl slb_22 rfl rfl (by intro v hv; simp at hv) (by decide) fun or0 => (DXs.mk (List.Sublist.cons _ (List.Sublist.refl _)) ?_))
      refine DX.stepT 6 4095 (by kernel_rfl) rfl rfl rfl rfl (op_appendMR stC (i := 0) (xs := []) (List.drop h zv.2) rfl rfl rfl slb_22 rfl rfl rfl rfl (fun w hw => Rd.dropIf (Ent.rd (hw.ents _ (List.mem_of_getElem? (i := 3) rfl))) hcV h) (by rw [List.length_nil, List.length_drop]; omega) (by rw [List.length_nil, List.length_drop]; omega) fun A8 c8 => ?_)
      refine DX.stepT 12 8191 (by kernel_rfl) rfl rfl rfl rfl (op_appendMR stC (i := 0) (xs := ([] ++ (List.drop h zv.2))) (List.take h zv.2) rfl rfl rfl slb_22 rfl rfl rfl rfl (fun w hw => Rd.takeM (Ent.rd (hw.ents _ (List.mem_of_getElem? (i := 3) rfl))) h) (by rw [List.nil_append, List.length_drop, List.length_take]; omega) (by rw [List.nil_append, List.length_drop, List.length_take]; omega) fun A9 c9 => ?_)
      refine DX.takeW 13 16383 (by kernel_rfl) rfl rfl rfl rfl rfl (yw_assign rfl rfl) ?_
      refine DX.done (by kernel_rfl) (XX.inBlock (V' := [(0, _), (1, _), (7, _)]) ⟨rfl, rfl, rfl, trivial⟩ ?_)
      refine XX.next (V' := [(0, _), (1, _), (7, _)]) ⟨rfl, rfl, rfl, trivial⟩ ?_
      refine CX.seq ?_
      refine CX.region ?_
      refine RX.cons rfl rfl (op_w (yw_move rfl rfl) rfl rfl ?_)
      refine RX.cons rfl rfl (op_callE rfl rfl rfl rfl rfl ent_19 (fun w hw => w_logged zv.2 (Ent.rd (hw.ents _ (List.mem_of_getElem? (i := 3) rfl))) (lnsRd hw (i := 4) rfl) hvs (by omega) (hG.keep hw (by simp)) hvo) (fun zl hzl => ?_))
      have hL0 : (zl.2 : List SX).map (fun x : SX => x.2) = zv.2.map (fun x : SX => x.2) := hzl
      have hXl0 := of_snd (p := fun s => s.ls.length ≤ 1000000) hL0 (fun s hs => by obtain ⟨y, hy, rfl⟩ := List.mem_map.1 hs; exact hvs y hy)
      have hn0 : (zl.2 : List SX).length = zv.2.length := by have := congrArg List.length hL0; simpa using this
      refine RX.cons rfl rfl (op_w (yw_assign rfl rfl) rfl rfl ?_)
      refine RX.nil (XX.next (V' := [(0, _), (1, _), (7, _), (8, _)]) ⟨rfl, rfl, rfl, rfl, trivial⟩ ?_)
      refine CX.seq ?_
      refine CX.region ?_
      refine RX.cons rfl rfl (op_w (yw_move rfl rfl) rfl rfl ?_)
      refine RX.cons rfl rfl (op_callE rfl rfl rfl rfl rfl ent_19 (fun w hw => w_logged (([] ++ (List.drop h zv.2)) ++ (List.take h zv.2)) (Ent.rd (hw.ents _ (List.mem_of_getElem? (i := 1) rfl))) (fun x hx => (lnsRd hw (i := 5) rfl) x (mem_turn hx)) (fun x hx => hvs x (mem_turn hx)) (by rw [List.length_append, List.nil_append, List.length_drop, List.length_take]; omega) (hG.keep hw (by simp)) (fun x hx => hvo x (mem_turn hx))) (fun zm hzm => ?_))
      have hLm : (zm.2 : List SX).map (fun x : SX => x.2) = (([] ++ List.drop h zv.2) ++ List.take h zv.2).map (fun x : SX => x.2) := hzm
      have hXlm := of_snd (p := fun s => s.ls.length ≤ 1000000) hLm (fun s hs => by obtain ⟨y, hy, rfl⟩ := List.mem_map.1 hs; exact (fun x hx => hvs x (mem_turn hx)) y hy)
      have hnm : (zm.2 : List SX).length = (([] ++ List.drop h zv.2) ++ List.take h zv.2).length := by have := congrArg List.length hLm; simpa using this
      have hmn : zm.2.length ≤ 1000000 := by rw [hnm]; exact (by rw [List.length_append, List.nil_append, List.length_drop, List.length_take]; omega)
      refine RX.cons rfl rfl (op_w (yw_assign rfl rfl) rfl rfl ?_)
      refine RX.nil (XX.next (V' := [(0, _), (1, _), (7, _), (8, _), (9, _)]) ⟨rfl, rfl, rfl, rfl, rfl, trivial⟩ ?_)
      refine CX.seq ?_
      refine CX.seq ?_
      refine CX.region ?_
      refine RX.cons rfl rfl (op_w (yw_move rfl rfl) rfl rfl ?_)
      refine RX.cons rfl rfl (op_w (yw_move rfl rfl) rfl rfl ?_)
      refine RX.cons rfl rfl (op_callV (v := .bool (decide (List.map (fun x : SX => x.2) zv.2 = List.map (fun x : SX => x.2) (([] ++ (List.drop h zv.2)) ++ (List.take h zv.2))))) rfl rfl rfl rfl rfl ent_13 (fun w hw => w_sameList zv.2 (([] ++ (List.drop h zv.2)) ++ (List.take h zv.2)) (Ent.rd (hw.ents _ (List.mem_of_getElem? (i := 5) rfl))) (lnsRd hw (i := 6) rfl) (Ent.rd (hw.ents _ (List.mem_of_getElem? (i := 2) rfl))) (fun x hx => (lnsRd hw (i := 6) rfl) x (mem_turn hx)) hvs (by omega)) ?_)
      refine RX.nil (XX.next (V' := [(0, _), (1, _), (7, _), (8, _), (9, _), (50, _)]) ⟨rfl, rfl, rfl, rfl, rfl, rfl, trivial⟩ ?_)
      refine CX.condD (p := List.map (fun x : SX => x.2) zv.2 = List.map (fun x : SX => x.2) (([] ++ (List.drop h zv.2)) ++ (List.take h zv.2))) rfl (fun c50 => ?_) (fun c50 => ?_)
      · refine CX.seq ?_
        refine CX.region ?_
        refine RX.cons rfl rfl (op_w (yw_move rfl rfl) rfl rfl ?_)
        refine RX.cons rfl rfl (op_w (yw_move rfl rfl) rfl rfl ?_)
        refine RX.consG rfl rfl rfl rfl rfl (op_w (yw_move rfl rfl) rfl rfl ?_)
        refine RX.consG rfl rfl rfl rfl rfl (op_callV (v := .string (root sum (entsX zl.2))) rfl rfl rfl rfl rfl ent_15 (fun w hw => w_rootE zl.2 (hw.logAt (i := 1) rfl) hXl0 (by omega) (hG.keep hw (by simp))) ?_)
        refine RX.consG rfl rfl rfl rfl rfl (op_w (yw_move rfl rfl) rfl rfl ?_)
        refine RX.consG rfl rfl rfl rfl rfl (op_callV (v := .string (root sum (entsX zm.2))) rfl rfl rfl rfl rfl ent_15 (fun w hw => w_rootE zm.2 (hw.logAt (i := 0) rfl) hXlm hmn (hG.keep hw (by simp))) ?_)
        refine RX.consG rfl rfl rfl rfl rfl (op_w (yw_streq rfl rfl rfl) rfl rfl ?_)
        refine RX.know (t := 57) (u := .bool true) rfl (congrArg Value.bool (decide_eq_true (by rw [entsX_of (hzl.trans (c50.trans hzm.symm))]))) ?_
        refine RX.cons rfl rfl (op_w (yw_pickT rfl rfl rfl) rfl rfl ?_)
        refine RX.cons rfl rfl (op_w (yw_assign rfl rfl) rfl rfl ?_)
        refine RX.nil (XX.next (V' := [(6, .bool true)]) ⟨rfl, trivial⟩ ?_)
        refine CX.ret ?_
        refine XX.then_ret ?_
        exact ret_tmp rfl rfl fun w1 hw => ⟨rfl, hw.sub (List.nil_sublist _)⟩
      · refine CX.skip (XX.next (V' := [(0, _), (1, _), (7, _), (8, _), (9, _)]) ⟨rfl, rfl, rfl, rfl, rfl, trivial⟩ ?_)
        refine CX.seq ?_
        refine CX.region ?_
        refine RX.cons rfl rfl (op_w (yw_move rfl rfl) rfl rfl ?_)
        refine RX.cons rfl rfl (op_w (yw_move rfl rfl) rfl rfl ?_)
        refine RX.consG rfl rfl rfl rfl rfl (op_w (yw_move rfl rfl) rfl rfl ?_)
        refine RX.consG rfl rfl rfl rfl rfl (op_callV (v := .string (root sum (entsX zl.2))) rfl rfl rfl rfl rfl ent_15 (fun w hw => w_rootE zl.2 (hw.logAt (i := 1) rfl) hXl0 (by omega) (hG.keep hw (by simp))) ?_)
        refine RX.consG rfl rfl rfl rfl rfl (op_w (yw_move rfl rfl) rfl rfl ?_)
        refine RX.consG rfl rfl rfl rfl rfl (op_callV (v := .string (root sum (entsX zm.2))) rfl rfl rfl rfl rfl ent_15 (fun w hw => w_rootE zm.2 (hw.logAt (i := 0) rfl) hXlm hmn (hG.keep hw (by simp))) ?_)
        refine RX.consG rfl rfl rfl rfl rfl (op_w (yw_strneq rfl rfl rfl) rfl rfl ?_)
        refine RX.consG rfl rfl rfl rfl rfl (op_w (yw_move rfl rfl) rfl rfl ?_)
        refine RX.splitD (t := 66) (p := ByteArray.toList (root sum (entsX zl.2)) ≠ ByteArray.toList (root sum (entsX zm.2))) rfl (fun d66 => ?_) (fun d66 => ?_)
        · refine RX.skip rfl rfl rfl rfl rfl rfl rfl ?_
          refine RX.skip rfl rfl rfl rfl rfl rfl rfl ?_
          refine RX.skip rfl rfl rfl rfl rfl rfl rfl ?_
          refine RX.skip rfl rfl rfl rfl rfl rfl rfl ?_
          refine RX.skip rfl rfl rfl rfl rfl rfl rfl ?_
          refine RX.skip rfl rfl rfl rfl rfl rfl rfl ?_
          refine RX.skip rfl rfl rfl rfl rfl rfl rfl ?_
          refine RX.consG rfl rfl rfl rfl rfl (op_w (yw_pickT rfl rfl rfl) rfl rfl ?_)
          refine RX.cons rfl rfl (op_w (yw_pickT rfl rfl rfl) rfl rfl ?_)
          refine RX.cons rfl rfl (op_w (yw_assign rfl rfl) rfl rfl ?_)
          refine RX.nil (XX.next (V' := [(6, .bool true)]) ⟨rfl, trivial⟩ ?_)
          refine CX.ret ?_
          exact ret_tmp rfl rfl fun w1 hw => ⟨rfl, hw.sub (List.nil_sublist _)⟩
        · refine RX.consG rfl rfl rfl rfl rfl (op_w (yw_move rfl rfl) rfl rfl ?_)
          refine RX.consG rfl rfl rfl rfl rfl (op_callE rfl rfl rfl rfl rfl ent_29 (fun w hw => w_entries24 zv.2 (Ent.rd (hw.ents _ (List.mem_of_getElem? (i := 5) rfl))) (lnsRd hw (i := 6) rfl) hvs (by omega) hvo) (fun ze _ => ?_))
          refine RX.consG rfl rfl rfl rfl rfl (op_callE rfl rfl rfl rfl rfl ent_28 (fun w hw => w_hashed02 (entsX zv.2) (Ent.rd (hw.ents _ (List.mem_of_getElem? (i := 0) rfl))) (by have h8 := Ent.capLe (hw.ents _ (List.mem_of_getElem? (i := 0) rfl)); rwa [List.length_map] at h8) (by rw [entsX_length]; omega) (entsX_sizes hvs)) (fun zh _ => ?_))
          refine RX.consG rfl rfl rfl rfl rfl (op_w (yw_move rfl rfl) rfl rfl ?_)
          refine RX.consG rfl rfl rfl rfl rfl (op_callE rfl rfl rfl rfl rfl ent_29 (fun w hw => w_entries24 (([] ++ (List.drop h zv.2)) ++ (List.take h zv.2)) (Ent.rd (hw.ents _ (List.mem_of_getElem? (i := 4) rfl))) (fun x hx => (lnsRd hw (i := 8) rfl) x (mem_turn hx)) (fun x hx => hvs x (mem_turn hx)) (by rw [List.length_append, List.nil_append, List.length_drop, List.length_take]; omega) (fun x hx => hvo x (mem_turn hx))) (fun zf _ => ?_))
          refine RX.consG rfl rfl rfl rfl rfl (op_callE rfl rfl rfl rfl rfl ent_28 (fun w hw => w_hashed02 (entsX (([] ++ (List.drop h zv.2)) ++ (List.take h zv.2))) (Ent.rd (hw.ents _ (List.mem_of_getElem? (i := 0) rfl))) (by have h8 := Ent.capLe (hw.ents _ (List.mem_of_getElem? (i := 0) rfl)); rwa [List.length_map] at h8) (by rw [entsX_length]; exact (by rw [List.length_append, List.nil_append, List.length_drop, List.length_take]; omega)) (entsX_sizes (fun x hx => hvs x (mem_turn hx)))) (fun zi _ => ?_))
          refine RX.consG rfl rfl rfl rfl rfl (op_callV (v := .bool (collB (hashed (entsX zv.2)) (hashed (entsX (([] ++ (List.drop h zv.2)) ++ (List.take h zv.2)))))) rfl rfl rfl rfl rfl ent_27 (fun w hw => w_collided (hashed (entsX zv.2)) (hashed (entsX (([] ++ (List.drop h zv.2)) ++ (List.take h zv.2)))) (Ent.rd (hw.ents _ (List.mem_of_getElem? (i := 2) rfl))) (Ent.rd (hw.ents _ (List.mem_of_getElem? (i := 0) rfl))) (by have := hashed_le (entsX zv.2); rw [entsX_length] at this; omega) (by have := hashed_le (entsX (([] ++ List.drop h zv.2) ++ List.take h zv.2)); rw [entsX_length, ← hnm] at this; have h9 : zm.2.length ≤ 12 := (by rw [hnm]; exact (by rw [List.length_append, List.nil_append, List.length_drop, List.length_take]; omega)); omega) (hashed_small (entsX_sizes hvs)) (hashed_small (entsX_sizes (fun x hx => hvs x (mem_turn hx))))) ?_)
          refine RX.know (t := 73) (u := .bool true) rfl (congrArg Value.bool ((equal_law hvo (fun x hx => hvo x (mem_turn hx)) (by rw [← entsX_of hzl, ← entsX_of hzm]; exact toList_inj.1 (Decidable.not_not.1 d66))).resolve_left c50)) ?_
          refine RX.consG rfl rfl rfl rfl rfl (op_w (yw_pickF rfl rfl rfl) rfl rfl ?_)
          refine RX.cons rfl rfl (op_w (yw_pickT rfl rfl rfl) rfl rfl ?_)
          refine RX.cons rfl rfl (op_w (yw_assign rfl rfl) rfl rfl ?_)
          refine RX.nil (XX.next (V' := [(6, .bool true)]) ⟨rfl, trivial⟩ ?_)
          refine CX.ret ?_
          exact ret_tmp rfl rfl fun w1 hw => ⟨rfl, hw.sub (List.nil_sublist _)⟩
    · refine CX.seq ?_
      refine CX.region ?_
      refine RX.cons rfl rfl (op_w (yw_eql rfl rfl rfl) rfl rfl ?_)
      refine RX.cons rfl rfl (op_w (yw_assign rfl rfl) rfl rfl ?_)
      refine RX.nil (XX.next (V' := [(0, _), (1, _), (7, _), (39, _)]) ⟨rfl, rfl, rfl, rfl, trivial⟩ ?_)
      refine CX.condD (p := ((pickN c 4 : Nat) : Int) = 2) rfl (fun c39 => ?_) (fun c39 => ?_)
      · refine CX.region ?_
        refine RX.cons rfl rfl (op_buildSlice rfl rfl rfl slb_22 rfl rfl (by intro v hv; simp at hv) (by decide) fun or0 => ?_)
        refine RX.cons rfl rfl (op_w (yw_move rfl rfl) rfl rfl ?_)
        refine RX.cons rfl rfl (op_appendM stC (i := 0) (j := 3) (xs := []) zv.2 rfl rfl rfl slb_22 rfl rfl rfl rfl rfl rfl (by rw [List.length_nil]; omega) (by rw [List.length_nil]; omega) fun A8 c8 => ?_)
        refine RX.cons rfl rfl (op_w (yw_assign rfl rfl) rfl rfl ?_)
        refine RX.nil (XX.inBlock (V' := [(0, _), (1, _), (7, _)]) ⟨rfl, rfl, rfl, trivial⟩ ?_)
        refine XX.next (V' := [(0, _), (1, _), (7, _)]) ⟨rfl, rfl, rfl, trivial⟩ ?_
        refine CX.seq ?_
        refine CX.region ?_
        refine RX.cons rfl rfl (op_w (yw_move rfl rfl) rfl rfl ?_)
        refine RX.cons rfl rfl (op_callE rfl rfl rfl rfl rfl ent_19 (fun w hw => w_logged zv.2 (Ent.rd (hw.ents _ (List.mem_of_getElem? (i := 3) rfl))) (lnsRd hw (i := 4) rfl) hvs (by omega) (hG.keep hw (by simp)) hvo) (fun zl hzl => ?_))
        have hL0 : (zl.2 : List SX).map (fun x : SX => x.2) = zv.2.map (fun x : SX => x.2) := hzl
        have hXl0 := of_snd (p := fun s => s.ls.length ≤ 1000000) hL0 (fun s hs => by obtain ⟨y, hy, rfl⟩ := List.mem_map.1 hs; exact hvs y hy)
        have hn0 : (zl.2 : List SX).length = zv.2.length := by have := congrArg List.length hL0; simpa using this
        refine RX.cons rfl rfl (op_w (yw_assign rfl rfl) rfl rfl ?_)
        refine RX.nil (XX.next (V' := [(0, _), (1, _), (7, _), (8, _)]) ⟨rfl, rfl, rfl, rfl, trivial⟩ ?_)
        refine CX.seq ?_
        refine CX.region ?_
        refine RX.cons rfl rfl (op_w (yw_move rfl rfl) rfl rfl ?_)
        refine RX.cons rfl rfl (op_callE rfl rfl rfl rfl rfl ent_19 (fun w hw => w_logged ([] ++ zv.2) (Ent.rd (hw.ents _ (List.mem_of_getElem? (i := 1) rfl))) (fun x hx => (lnsRd hw (i := 5) rfl) x (mem_same hx)) (fun x hx => hvs x (mem_same hx)) (by rw [List.nil_append]; omega) (hG.keep hw (by simp)) (fun x hx => hvo x (mem_same hx))) (fun zm hzm => ?_))
        have hLm : (zm.2 : List SX).map (fun x : SX => x.2) = ([] ++ zv.2).map (fun x : SX => x.2) := hzm
        have hXlm := of_snd (p := fun s => s.ls.length ≤ 1000000) hLm (fun s hs => by obtain ⟨y, hy, rfl⟩ := List.mem_map.1 hs; exact (fun x hx => hvs x (mem_same hx)) y hy)
        have hnm : (zm.2 : List SX).length = ([] ++ zv.2).length := by have := congrArg List.length hLm; simpa using this
        have hmn : zm.2.length ≤ 1000000 := by rw [hnm]; exact (by rw [List.nil_append]; omega)
        refine RX.cons rfl rfl (op_w (yw_assign rfl rfl) rfl rfl ?_)
        refine RX.nil (XX.next (V' := [(0, _), (1, _), (7, _), (8, _), (9, _)]) ⟨rfl, rfl, rfl, rfl, rfl, trivial⟩ ?_)
        refine CX.seq ?_
        refine CX.seq ?_
        refine CX.region ?_
        refine RX.cons rfl rfl (op_w (yw_move rfl rfl) rfl rfl ?_)
        refine RX.cons rfl rfl (op_w (yw_move rfl rfl) rfl rfl ?_)
        refine RX.cons rfl rfl (op_callV (v := .bool (decide (List.map (fun x : SX => x.2) zv.2 = List.map (fun x : SX => x.2) ([] ++ zv.2)))) rfl rfl rfl rfl rfl ent_13 (fun w hw => w_sameList zv.2 ([] ++ zv.2) (Ent.rd (hw.ents _ (List.mem_of_getElem? (i := 5) rfl))) (lnsRd hw (i := 6) rfl) (Ent.rd (hw.ents _ (List.mem_of_getElem? (i := 2) rfl))) (fun x hx => (lnsRd hw (i := 6) rfl) x (mem_same hx)) hvs (by omega)) ?_)
        refine RX.nil (XX.next (V' := [(0, _), (1, _), (7, _), (8, _), (9, _), (50, _)]) ⟨rfl, rfl, rfl, rfl, rfl, rfl, trivial⟩ ?_)
        refine CX.condD (p := List.map (fun x : SX => x.2) zv.2 = List.map (fun x : SX => x.2) ([] ++ zv.2)) rfl (fun c50 => ?_) (fun c50 => ?_)
        · refine CX.seq ?_
          refine CX.region ?_
          refine RX.cons rfl rfl (op_w (yw_move rfl rfl) rfl rfl ?_)
          refine RX.cons rfl rfl (op_w (yw_move rfl rfl) rfl rfl ?_)
          refine RX.consG rfl rfl rfl rfl rfl (op_w (yw_move rfl rfl) rfl rfl ?_)
          refine RX.consG rfl rfl rfl rfl rfl (op_callV (v := .string (root sum (entsX zl.2))) rfl rfl rfl rfl rfl ent_15 (fun w hw => w_rootE zl.2 (hw.logAt (i := 1) rfl) hXl0 (by omega) (hG.keep hw (by simp))) ?_)
          refine RX.consG rfl rfl rfl rfl rfl (op_w (yw_move rfl rfl) rfl rfl ?_)
          refine RX.consG rfl rfl rfl rfl rfl (op_callV (v := .string (root sum (entsX zm.2))) rfl rfl rfl rfl rfl ent_15 (fun w hw => w_rootE zm.2 (hw.logAt (i := 0) rfl) hXlm hmn (hG.keep hw (by simp))) ?_)
          refine RX.consG rfl rfl rfl rfl rfl (op_w (yw_streq rfl rfl rfl) rfl rfl ?_)
          refine RX.know (t := 57) (u := .bool true) rfl (congrArg Value.bool (decide_eq_true (by rw [entsX_of (hzl.trans (c50.trans hzm.symm))]))) ?_
          refine RX.cons rfl rfl (op_w (yw_pickT rfl rfl rfl) rfl rfl ?_)
          refine RX.cons rfl rfl (op_w (yw_assign rfl rfl) rfl rfl ?_)
          refine RX.nil (XX.next (V' := [(6, .bool true)]) ⟨rfl, trivial⟩ ?_)
          refine CX.ret ?_
          refine XX.then_ret ?_
          exact ret_tmp rfl rfl fun w1 hw => ⟨rfl, hw.sub (List.nil_sublist _)⟩
        · refine CX.skip (XX.next (V' := [(0, _), (1, _), (7, _), (8, _), (9, _)]) ⟨rfl, rfl, rfl, rfl, rfl, trivial⟩ ?_)
          refine CX.seq ?_
          refine CX.region ?_
          refine RX.cons rfl rfl (op_w (yw_move rfl rfl) rfl rfl ?_)
          refine RX.cons rfl rfl (op_w (yw_move rfl rfl) rfl rfl ?_)
          refine RX.consG rfl rfl rfl rfl rfl (op_w (yw_move rfl rfl) rfl rfl ?_)
          refine RX.consG rfl rfl rfl rfl rfl (op_callV (v := .string (root sum (entsX zl.2))) rfl rfl rfl rfl rfl ent_15 (fun w hw => w_rootE zl.2 (hw.logAt (i := 1) rfl) hXl0 (by omega) (hG.keep hw (by simp))) ?_)
          refine RX.consG rfl rfl rfl rfl rfl (op_w (yw_move rfl rfl) rfl rfl ?_)
          refine RX.consG rfl rfl rfl rfl rfl (op_callV (v := .string (root sum (entsX zm.2))) rfl rfl rfl rfl rfl ent_15 (fun w hw => w_rootE zm.2 (hw.logAt (i := 0) rfl) hXlm hmn (hG.keep hw (by simp))) ?_)
          refine RX.consG rfl rfl rfl rfl rfl (op_w (yw_strneq rfl rfl rfl) rfl rfl ?_)
          refine RX.consG rfl rfl rfl rfl rfl (op_w (yw_move rfl rfl) rfl rfl ?_)
          refine RX.splitD (t := 66) (p := ByteArray.toList (root sum (entsX zl.2)) ≠ ByteArray.toList (root sum (entsX zm.2))) rfl (fun d66 => ?_) (fun d66 => ?_)
          · refine RX.skip rfl rfl rfl rfl rfl rfl rfl ?_
            refine RX.skip rfl rfl rfl rfl rfl rfl rfl ?_
            refine RX.skip rfl rfl rfl rfl rfl rfl rfl ?_
            refine RX.skip rfl rfl rfl rfl rfl rfl rfl ?_
            refine RX.skip rfl rfl rfl rfl rfl rfl rfl ?_
            refine RX.skip rfl rfl rfl rfl rfl rfl rfl ?_
            refine RX.skip rfl rfl rfl rfl rfl rfl rfl ?_
            refine RX.consG rfl rfl rfl rfl rfl (op_w (yw_pickT rfl rfl rfl) rfl rfl ?_)
            refine RX.cons rfl rfl (op_w (yw_pickT rfl rfl rfl) rfl rfl ?_)
            refine RX.cons rfl rfl (op_w (yw_assign rfl rfl) rfl rfl ?_)
            refine RX.nil (XX.next (V' := [(6, .bool true)]) ⟨rfl, trivial⟩ ?_)
            refine CX.ret ?_
            exact ret_tmp rfl rfl fun w1 hw => ⟨rfl, hw.sub (List.nil_sublist _)⟩
          · refine RX.consG rfl rfl rfl rfl rfl (op_w (yw_move rfl rfl) rfl rfl ?_)
            refine RX.consG rfl rfl rfl rfl rfl (op_callE rfl rfl rfl rfl rfl ent_29 (fun w hw => w_entries24 zv.2 (Ent.rd (hw.ents _ (List.mem_of_getElem? (i := 5) rfl))) (lnsRd hw (i := 6) rfl) hvs (by omega) hvo) (fun ze _ => ?_))
            refine RX.consG rfl rfl rfl rfl rfl (op_callE rfl rfl rfl rfl rfl ent_28 (fun w hw => w_hashed02 (entsX zv.2) (Ent.rd (hw.ents _ (List.mem_of_getElem? (i := 0) rfl))) (by have h8 := Ent.capLe (hw.ents _ (List.mem_of_getElem? (i := 0) rfl)); rwa [List.length_map] at h8) (by rw [entsX_length]; omega) (entsX_sizes hvs)) (fun zh _ => ?_))
            refine RX.consG rfl rfl rfl rfl rfl (op_w (yw_move rfl rfl) rfl rfl ?_)
            refine RX.consG rfl rfl rfl rfl rfl (op_callE rfl rfl rfl rfl rfl ent_29 (fun w hw => w_entries24 ([] ++ zv.2) (Ent.rd (hw.ents _ (List.mem_of_getElem? (i := 4) rfl))) (fun x hx => (lnsRd hw (i := 8) rfl) x (mem_same hx)) (fun x hx => hvs x (mem_same hx)) (by rw [List.nil_append]; omega) (fun x hx => hvo x (mem_same hx))) (fun zf _ => ?_))
            refine RX.consG rfl rfl rfl rfl rfl (op_callE rfl rfl rfl rfl rfl ent_28 (fun w hw => w_hashed02 (entsX ([] ++ zv.2)) (Ent.rd (hw.ents _ (List.mem_of_getElem? (i := 0) rfl))) (by have h8 := Ent.capLe (hw.ents _ (List.mem_of_getElem? (i := 0) rfl)); rwa [List.length_map] at h8) (by rw [entsX_length]; exact (by rw [List.nil_append]; omega)) (entsX_sizes (fun x hx => hvs x (mem_same hx)))) (fun zi _ => ?_))
            refine RX.consG rfl rfl rfl rfl rfl (op_callV (v := .bool (collB (hashed (entsX zv.2)) (hashed (entsX ([] ++ zv.2))))) rfl rfl rfl rfl rfl ent_27 (fun w hw => w_collided (hashed (entsX zv.2)) (hashed (entsX ([] ++ zv.2))) (Ent.rd (hw.ents _ (List.mem_of_getElem? (i := 2) rfl))) (Ent.rd (hw.ents _ (List.mem_of_getElem? (i := 0) rfl))) (by have := hashed_le (entsX zv.2); rw [entsX_length] at this; omega) (by have := hashed_le (entsX ([] ++ zv.2)); rw [entsX_length, ← hnm] at this; have h9 : zm.2.length ≤ 12 := (by rw [hnm]; exact (by rw [List.nil_append]; omega)); omega) (hashed_small (entsX_sizes hvs)) (hashed_small (entsX_sizes (fun x hx => hvs x (mem_same hx))))) ?_)
            refine RX.know (t := 73) (u := .bool true) rfl (congrArg Value.bool ((equal_law hvo (fun x hx => hvo x (mem_same hx)) (by rw [← entsX_of hzl, ← entsX_of hzm]; exact toList_inj.1 (Decidable.not_not.1 d66))).resolve_left c50)) ?_
            refine RX.consG rfl rfl rfl rfl rfl (op_w (yw_pickF rfl rfl rfl) rfl rfl ?_)
            refine RX.cons rfl rfl (op_w (yw_pickT rfl rfl rfl) rfl rfl ?_)
            refine RX.cons rfl rfl (op_w (yw_assign rfl rfl) rfl rfl ?_)
            refine RX.nil (XX.next (V' := [(6, .bool true)]) ⟨rfl, trivial⟩ ?_)
            refine CX.ret ?_
            exact ret_tmp rfl rfl fun w1 hw => ⟨rfl, hw.sub (List.nil_sublist _)⟩
      · refine CX.skip (XX.inBlock (V' := [(0, _), (1, _), (7, _)]) ⟨rfl, rfl, rfl, trivial⟩ ?_)
        refine XX.next (V' := [(0, _), (1, _), (7, _)]) ⟨rfl, rfl, rfl, trivial⟩ ?_
        refine CX.seq ?_
        refine CX.region ?_
        refine RX.cons rfl rfl (op_w (yw_move rfl rfl) rfl rfl ?_)
        refine RX.cons rfl rfl (op_callE rfl rfl rfl rfl rfl ent_19 (fun w hw => w_logged zv.2 (Ent.rd (hw.ents _ (List.mem_of_getElem? (i := 2) rfl))) (lnsRd hw (i := 3) rfl) hvs (by omega) (hG.keep hw (by simp)) hvo) (fun zl hzl => ?_))
        have hL0 : (zl.2 : List SX).map (fun x : SX => x.2) = zv.2.map (fun x : SX => x.2) := hzl
        have hXl0 := of_snd (p := fun s => s.ls.length ≤ 1000000) hL0 (fun s hs => by obtain ⟨y, hy, rfl⟩ := List.mem_map.1 hs; exact hvs y hy)
        have hn0 : (zl.2 : List SX).length = zv.2.length := by have := congrArg List.length hL0; simpa using this
        refine RX.cons rfl rfl (op_w (yw_assign rfl rfl) rfl rfl ?_)
        refine RX.nil (XX.next (V' := [(0, _), (1, _), (7, _), (8, _)]) ⟨rfl, rfl, rfl, rfl, trivial⟩ ?_)
        refine CX.seq ?_
        refine CX.region ?_
        refine RX.cons rfl rfl (op_w (yw_move rfl rfl) rfl rfl ?_)
        refine RX.cons rfl rfl (op_callE rfl rfl rfl rfl rfl ent_19 (fun w hw => w_logged zu.2 (Ent.rd (hw.ents _ (List.mem_of_getElem? (i := 1) rfl))) (fun x hx => (lnsRd hw (i := 2) rfl) x hx) (fun x hx => hvsu x hx) (by omega) (hG.keep hw (by simp)) (fun x hx => hvou x hx)) (fun zm hzm => ?_))
        have hLm : (zm.2 : List SX).map (fun x : SX => x.2) = zu.2.map (fun x : SX => x.2) := hzm
        have hXlm := of_snd (p := fun s => s.ls.length ≤ 1000000) hLm (fun s hs => by obtain ⟨y, hy, rfl⟩ := List.mem_map.1 hs; exact (fun x hx => hvsu x hx) y hy)
        have hnm : (zm.2 : List SX).length = zu.2.length := by have := congrArg List.length hLm; simpa using this
        have hmn : zm.2.length ≤ 1000000 := by rw [hnm]; exact (by omega)
        refine RX.cons rfl rfl (op_w (yw_assign rfl rfl) rfl rfl ?_)
        refine RX.nil (XX.next (V' := [(0, _), (1, _), (7, _), (8, _), (9, _)]) ⟨rfl, rfl, rfl, rfl, rfl, trivial⟩ ?_)
        refine CX.seq ?_
        refine CX.seq ?_
        refine CX.region ?_
        refine RX.cons rfl rfl (op_w (yw_move rfl rfl) rfl rfl ?_)
        refine RX.cons rfl rfl (op_w (yw_move rfl rfl) rfl rfl ?_)
        refine RX.cons rfl rfl (op_callV (v := .bool (decide (List.map (fun x : SX => x.2) zv.2 = List.map (fun x : SX => x.2) zu.2))) rfl rfl rfl rfl rfl ent_13 (fun w hw => w_sameList zv.2 zu.2 (Ent.rd (hw.ents _ (List.mem_of_getElem? (i := 4) rfl))) (lnsRd hw (i := 5) rfl) (Ent.rd (hw.ents _ (List.mem_of_getElem? (i := 2) rfl))) (fun x hx => (lnsRd hw (i := 3) rfl) x hx) hvs (by omega)) ?_)
        refine RX.nil (XX.next (V' := [(0, _), (1, _), (7, _), (8, _), (9, _), (50, _)]) ⟨rfl, rfl, rfl, rfl, rfl, rfl, trivial⟩ ?_)
        refine CX.condD (p := List.map (fun x : SX => x.2) zv.2 = List.map (fun x : SX => x.2) zu.2) rfl (fun c50 => ?_) (fun c50 => ?_)
        · refine CX.seq ?_
          refine CX.region ?_
          refine RX.cons rfl rfl (op_w (yw_move rfl rfl) rfl rfl ?_)
          refine RX.cons rfl rfl (op_w (yw_move rfl rfl) rfl rfl ?_)
          refine RX.consG rfl rfl rfl rfl rfl (op_w (yw_move rfl rfl) rfl rfl ?_)
          refine RX.consG rfl rfl rfl rfl rfl (op_callV (v := .string (root sum (entsX zl.2))) rfl rfl rfl rfl rfl ent_15 (fun w hw => w_rootE zl.2 (hw.logAt (i := 1) rfl) hXl0 (by omega) (hG.keep hw (by simp))) ?_)
          refine RX.consG rfl rfl rfl rfl rfl (op_w (yw_move rfl rfl) rfl rfl ?_)
          refine RX.consG rfl rfl rfl rfl rfl (op_callV (v := .string (root sum (entsX zm.2))) rfl rfl rfl rfl rfl ent_15 (fun w hw => w_rootE zm.2 (hw.logAt (i := 0) rfl) hXlm hmn (hG.keep hw (by simp))) ?_)
          refine RX.consG rfl rfl rfl rfl rfl (op_w (yw_streq rfl rfl rfl) rfl rfl ?_)
          refine RX.know (t := 57) (u := .bool true) rfl (congrArg Value.bool (decide_eq_true (by rw [entsX_of (hzl.trans (c50.trans hzm.symm))]))) ?_
          refine RX.cons rfl rfl (op_w (yw_pickT rfl rfl rfl) rfl rfl ?_)
          refine RX.cons rfl rfl (op_w (yw_assign rfl rfl) rfl rfl ?_)
          refine RX.nil (XX.next (V' := [(6, .bool true)]) ⟨rfl, trivial⟩ ?_)
          refine CX.ret ?_
          refine XX.then_ret ?_
          exact ret_tmp rfl rfl fun w1 hw => ⟨rfl, hw.sub (List.nil_sublist _)⟩
        · refine CX.skip (XX.next (V' := [(0, _), (1, _), (7, _), (8, _), (9, _)]) ⟨rfl, rfl, rfl, rfl, rfl, trivial⟩ ?_)
          refine CX.seq ?_
          refine CX.region ?_
          refine RX.cons rfl rfl (op_w (yw_move rfl rfl) rfl rfl ?_)
          refine RX.cons rfl rfl (op_w (yw_move rfl rfl) rfl rfl ?_)
          refine RX.consG rfl rfl rfl rfl rfl (op_w (yw_move rfl rfl) rfl rfl ?_)
          refine RX.consG rfl rfl rfl rfl rfl (op_callV (v := .string (root sum (entsX zl.2))) rfl rfl rfl rfl rfl ent_15 (fun w hw => w_rootE zl.2 (hw.logAt (i := 1) rfl) hXl0 (by omega) (hG.keep hw (by simp))) ?_)
          refine RX.consG rfl rfl rfl rfl rfl (op_w (yw_move rfl rfl) rfl rfl ?_)
          refine RX.consG rfl rfl rfl rfl rfl (op_callV (v := .string (root sum (entsX zm.2))) rfl rfl rfl rfl rfl ent_15 (fun w hw => w_rootE zm.2 (hw.logAt (i := 0) rfl) hXlm hmn (hG.keep hw (by simp))) ?_)
          refine RX.consG rfl rfl rfl rfl rfl (op_w (yw_strneq rfl rfl rfl) rfl rfl ?_)
          refine RX.consG rfl rfl rfl rfl rfl (op_w (yw_move rfl rfl) rfl rfl ?_)
          refine RX.splitD (t := 66) (p := ByteArray.toList (root sum (entsX zl.2)) ≠ ByteArray.toList (root sum (entsX zm.2))) rfl (fun d66 => ?_) (fun d66 => ?_)
          · refine RX.skip rfl rfl rfl rfl rfl rfl rfl ?_
            refine RX.skip rfl rfl rfl rfl rfl rfl rfl ?_
            refine RX.skip rfl rfl rfl rfl rfl rfl rfl ?_
            refine RX.skip rfl rfl rfl rfl rfl rfl rfl ?_
            refine RX.skip rfl rfl rfl rfl rfl rfl rfl ?_
            refine RX.skip rfl rfl rfl rfl rfl rfl rfl ?_
            refine RX.skip rfl rfl rfl rfl rfl rfl rfl ?_
            refine RX.consG rfl rfl rfl rfl rfl (op_w (yw_pickT rfl rfl rfl) rfl rfl ?_)
            refine RX.cons rfl rfl (op_w (yw_pickT rfl rfl rfl) rfl rfl ?_)
            refine RX.cons rfl rfl (op_w (yw_assign rfl rfl) rfl rfl ?_)
            refine RX.nil (XX.next (V' := [(6, .bool true)]) ⟨rfl, trivial⟩ ?_)
            refine CX.ret ?_
            exact ret_tmp rfl rfl fun w1 hw => ⟨rfl, hw.sub (List.nil_sublist _)⟩
          · refine RX.consG rfl rfl rfl rfl rfl (op_w (yw_move rfl rfl) rfl rfl ?_)
            refine RX.consG rfl rfl rfl rfl rfl (op_callE rfl rfl rfl rfl rfl ent_29 (fun w hw => w_entries24 zv.2 (Ent.rd (hw.ents _ (List.mem_of_getElem? (i := 4) rfl))) (lnsRd hw (i := 5) rfl) hvs (by omega) hvo) (fun ze _ => ?_))
            refine RX.consG rfl rfl rfl rfl rfl (op_callE rfl rfl rfl rfl rfl ent_28 (fun w hw => w_hashed02 (entsX zv.2) (Ent.rd (hw.ents _ (List.mem_of_getElem? (i := 0) rfl))) (by have h8 := Ent.capLe (hw.ents _ (List.mem_of_getElem? (i := 0) rfl)); rwa [List.length_map] at h8) (by rw [entsX_length]; omega) (entsX_sizes hvs)) (fun zh _ => ?_))
            refine RX.consG rfl rfl rfl rfl rfl (op_w (yw_move rfl rfl) rfl rfl ?_)
            refine RX.consG rfl rfl rfl rfl rfl (op_callE rfl rfl rfl rfl rfl ent_29 (fun w hw => w_entries24 zu.2 (Ent.rd (hw.ents _ (List.mem_of_getElem? (i := 4) rfl))) (fun x hx => (lnsRd hw (i := 5) rfl) x hx) (fun x hx => hvsu x hx) (by omega) (fun x hx => hvou x hx)) (fun zf _ => ?_))
            refine RX.consG rfl rfl rfl rfl rfl (op_callE rfl rfl rfl rfl rfl ent_28 (fun w hw => w_hashed02 (entsX zu.2) (Ent.rd (hw.ents _ (List.mem_of_getElem? (i := 0) rfl))) (by have h8 := Ent.capLe (hw.ents _ (List.mem_of_getElem? (i := 0) rfl)); rwa [List.length_map] at h8) (by rw [entsX_length]; exact (by omega)) (entsX_sizes (fun x hx => hvsu x hx))) (fun zi _ => ?_))
            refine RX.consG rfl rfl rfl rfl rfl (op_callV (v := .bool (collB (hashed (entsX zv.2)) (hashed (entsX zu.2)))) rfl rfl rfl rfl rfl ent_27 (fun w hw => w_collided (hashed (entsX zv.2)) (hashed (entsX zu.2)) (Ent.rd (hw.ents _ (List.mem_of_getElem? (i := 2) rfl))) (Ent.rd (hw.ents _ (List.mem_of_getElem? (i := 0) rfl))) (by have := hashed_le (entsX zv.2); rw [entsX_length] at this; omega) (by have := hashed_le (entsX zu.2); rw [entsX_length, ← hnm] at this; have h9 : zm.2.length ≤ 12 := (by rw [hnm]; exact (by omega)); omega) (hashed_small (entsX_sizes hvs)) (hashed_small (entsX_sizes (fun x hx => hvsu x hx)))) ?_)
            refine RX.know (t := 73) (u := .bool true) rfl (congrArg Value.bool ((equal_law hvo (fun x hx => hvou x hx) (by rw [← entsX_of hzl, ← entsX_of hzm]; exact toList_inj.1 (Decidable.not_not.1 d66))).resolve_left c50)) ?_
            refine RX.consG rfl rfl rfl rfl rfl (op_w (yw_pickF rfl rfl rfl) rfl rfl ?_)
            refine RX.cons rfl rfl (op_w (yw_pickT rfl rfl rfl) rfl rfl ?_)
            refine RX.cons rfl rfl (op_w (yw_assign rfl rfl) rfl rfl ?_)
            refine RX.nil (XX.next (V' := [(6, .bool true)]) ⟨rfl, trivial⟩ ?_)
            refine CX.ret ?_
            exact ret_tmp rfl rfl fun w1 hw => ⟨rfl, hw.sub (List.nil_sublist _)⟩

end Go.Proofs.YtnadipjlhlbfoaaDoor
