/- Walks, printed by a program. -/
import Derived.Test.YtnadipjlhlbfoaaDoorK12
namespace Go.Proofs.YtnadipjlhlbfoaaDoor
set_option linter.all false
open Go Go.RowKit
set_option maxRecDepth 100000
theorem lnsCap {w0 w : World} {O : List Nat} {L : List Ent} (hw : SL w0 O w L) {i : Nat} {X : List SX} (hL : L[i]? = some (pack (lns X))) : ∀ x ∈ X, x.2.ls.length ≤ x.1.2 := by
  intro x hx
  have h : ∀ e ∈ lns X, e.sat w := hw.ents _ (List.mem_of_getElem? hL)
  have := Ent.capLe (h (.row x.1.1 x.1.2 57 3 (x.2.ls.map lnC)) (List.mem_map.2 ⟨x, hx, rfl⟩))
  rwa [List.length_map] at this
theorem cutS_id {s : Stm} (h : s.ls.length ≤ 8) : cutS s = s := by
  cases s
  simp only [cutS] at *
  rw [List.take_of_length_le h]
theorem cutL_id {Z : List SX} {n : Nat} (h : ∀ x ∈ Z, x.2.ls.length ≤ 8) (hn : Z.length ≤ n) : cutL Z n = Z.map (·.2) := by
  rw [cutL, List.take_of_length_le hn]
  exact List.map_congr_left fun x hx => cutS_id (h x hx)
theorem valL_all {Z : List SX} {n : Nat} (h : ∀ x ∈ Z, x.2.ls.length ≤ 8) (hn : Z.length ≤ n) (hok : ∀ x ∈ Z, okS x.2 = true) : (valL Z n).length = Z.length := by
  rw [valL, cutL_id h hn, List.filter_eq_self.2, List.length_map]
  intro s hs
  obtain ⟨x, hx, rfl⟩ := List.mem_map.1 hs
  exact hok x hx
theorem valL_some {Z : List SX} {n : Nat} (h : ∀ x ∈ Z, x.2.ls.length ≤ 8) (hn : Z.length ≤ n) (hok : ¬ ∀ x ∈ Z, okS x.2 = true) : (valL Z n).length ≠ Z.length := by
  intro e
  apply hok
  have e2 : Z.length = (Z.map (fun x : SX => x.2)).length := by rw [List.length_map]
  rw [valL, cutL_id h hn, e2] at e
  have := List.length_filter_eq_length_iff.1 e
  exact fun x hx => this _ (List.mem_map.2 ⟨x, hx, rfl⟩)
attribute [local irreducible] sum root entsX
set_option maxRecDepth 100000 in
theorem w_grows {w : World} {A B : Option Addr} {cap capB : Nat} (X Y : List SX) (hr : Rd w A 3 (X.map stC)) (hX : ∀ x ∈ X, Rd w x.1.1 3 (x.2.ls.map lnC)) (hXc : ∀ x ∈ X, x.2.ls.length ≤ x.1.2) (hX8 : X.length ≤ 9223372036854775807) (hXl : ∀ x ∈ X, x.2.ls.length ≤ 9223372036854775807) (hrY : Rd w B 3 (Y.map stC)) (hY : ∀ x ∈ Y, Rd w x.1.1 3 (x.2.ls.map lnC)) (hYc : ∀ x ∈ Y, x.2.ls.length ≤ x.1.2) (hY8 : Y.length ≤ 9223372036854775807) (hYl : ∀ x ∈ Y, x.2.ls.length ≤ 9223372036854775807) (hG : Rounds w) (c : Int) (hc1 : -9223372036854775808 ≤ c) (hc2 : c ≤ 9223372036854775807) :
    Calls Tryd.prog 5 #[.slice A X.length cap, .slice B Y.length capB, .int .i64 c] w (fun e w' => e = .returned (.bool true) ∧ SL w [] w' []) := by
  refine calls_of_CX (O := []) (L := []) (args := [.slice A X.length cap, .slice B Y.length capB, .int .i64 c]) Tryd.func5 rfl (by simp [Tryd.ntmps5]) (SL.refl w) ?_
  refine CX.sub (V' := [(0, .slice A X.length cap), (1, .slice B Y.length capB), (2, .int .i64 c)]) ⟨rfl, rfl, rfl, trivial⟩ ?_
  refine CX.seq ?_
  refine CX.region ?_
  refine RX.cons rfl rfl (op_w (yw_assign rfl rfl) rfl rfl ?_)
  refine RX.nil (XX.next (V' := [(0, .slice A X.length cap), (1, .slice B Y.length capB), (2, .int .i64 c)]) ⟨rfl, rfl, rfl, trivial⟩ ?_)
  refine CX.seq ?_
  refine CX.region ?_
  refine RX.cons rfl rfl (op_callV (v := .bool true) rfl rfl rfl rfl rfl ent_9 (fun w hw => w_sane (hG.keep hw (by simp))) ?_)
  refine RX.cons rfl rfl (op_w (yw_assign rfl rfl) rfl rfl ?_)
  refine RX.nil (XX.next (V' := [(0, .slice A X.length cap), (1, .slice B Y.length capB), (2, .int .i64 c), (7, .bool true)]) ⟨rfl, rfl, rfl, rfl, trivial⟩ ?_)
  refine CX.seq ?_
  refine CX.region ?_
  refine RX.cons rfl rfl (op_w (yw_move rfl rfl) rfl rfl ?_)
  refine RX.cons rfl rfl (op_callE rfl rfl rfl rfl rfl ent_10 (fun w hw => w_validX X (hw.rd hr (by simp)) (fun x hx => hw.rd (hX x hx) (by simp)) hXc hX8 hXl 12 (by decide)) (fun zv hzv => ?_))
  have hvs := of_snd (p := fun s => s.ls.length ≤ 1000000) hzv (fun s hs => by have := valL_short X 12 s hs; omega)
  have hvo := of_snd (p := fun s => okS s = true) hzv (valL_ok X 12)
  have hvn : zv.2.length ≤ 12 := by rw [len_snd hzv]; exact valL_length X 12
  refine RX.cons rfl rfl (op_w (yw_assign rfl rfl) rfl rfl ?_)
  refine RX.nil (XX.next (V' := [(0, .slice zv.1.1 zv.2.length zv.1.2), (1, .slice B Y.length capB), (2, .int .i64 c), (7, .bool true)]) ⟨rfl, rfl, rfl, rfl, trivial⟩ ?_)
  refine CX.seq ?_
  refine CX.region ?_
  refine RX.cons rfl rfl (op_w (yw_move rfl rfl) rfl rfl ?_)
  refine RX.cons rfl rfl (op_callE rfl rfl rfl rfl rfl ent_21 (fun w hw => w_cut Y (hw.rd hrY (by simp)) (fun x hx => hw.rd (hY x hx) (by simp)) hYc hY8 hYl 5 (by decide)) (fun zk hzk => ?_))
  have hks := of_snd (p := fun s => s.ls.length ≤ 8) hzk (cutL_short Y 5)
  have hks6 : ∀ x ∈ zk.2, x.2.ls.length ≤ 1000000 := fun x hx => by have := hks x hx; omega
  have hkn : zk.2.length ≤ 5 := by rw [len_snd hzk]; exact cutL_length Y 5
  refine RX.cons rfl rfl (op_w (yw_assign rfl rfl) rfl rfl ?_)
  refine RX.nil (XX.next (V' := [(0, .slice zv.1.1 zv.2.length zv.1.2), (1, .slice zk.1.1 zk.2.length zk.1.2), (2, .int .i64 c), (7, .bool true)]) ⟨rfl, rfl, rfl, rfl, trivial⟩ ?_)
  refine CX.seq ?_
  refine CX.region ?_
  refine RX.cons rfl rfl (op_w (yw_move rfl rfl) rfl rfl ?_)
  refine RX.cons rfl rfl (op_callE rfl rfl rfl rfl rfl ent_19 (fun w hw => w_logged zv.2 (Ent.rd (hw.ents _ (List.mem_of_getElem? (i := 2) rfl))) (lnsRd hw (i := 3) rfl) hvs (by omega) (hG.keep hw (by simp)) hvo) (fun zl hzl => ?_))
  have hL0 : (zl.2 : List SX).map (fun x : SX => x.2) = zv.2.map (fun x : SX => x.2) := hzl
  have hXl0 := of_snd (p := fun s => s.ls.length ≤ 1000000) hL0 (fun s hs => by obtain ⟨y, hy, rfl⟩ := List.mem_map.1 hs; exact hvs y hy)
  have hn0 : (zl.2 : List SX).length = zv.2.length := by have := congrArg List.length hL0; simpa using this
  refine RX.cons rfl rfl (op_w (yw_assign rfl rfl) rfl rfl ?_)
  refine RX.nil (XX.next (V' := [(0, .slice zv.1.1 zv.2.length zv.1.2), (1, .slice zk.1.1 zk.2.length zk.1.2), (2, .int .i64 c), (7, .bool true), (8, .pointer (some ⟨zl.1.1, 0, none⟩))]) ⟨rfl, rfl, rfl, rfl, rfl, trivial⟩ ?_)
  refine CX.seq ?_
  refine CX.region ?_
  refine RX.cons rfl rfl (op_w (yw_move rfl rfl) rfl rfl ?_)
  refine RX.cons rfl rfl (op_callV (v := .string (root sum (entsX zl.2))) rfl rfl rfl rfl rfl ent_15 (fun w hw => w_rootE zl.2 (hw.logAt (i := 0) rfl) hXl0 (by omega) (hG.keep hw (by simp))) ?_)
  refine RX.cons rfl rfl (op_w (yw_assign rfl rfl) rfl rfl ?_)
  refine RX.nil (XX.next (V' := [(0, .slice zv.1.1 zv.2.length zv.1.2), (1, .slice zk.1.1 zk.2.length zk.1.2), (2, .int .i64 c), (7, .bool true), (8, .pointer (some ⟨zl.1.1, 0, none⟩)), (9, .string (root sum (entsX zl.2)))]) ⟨rfl, rfl, rfl, rfl, rfl, rfl, trivial⟩ ?_)
  refine CX.seq ?_
  by_cases hgood : ∀ x ∈ zk.2, okS x.2 = true
  · refine CX.region ?_
    refine RX.cons rfl rfl (op_w (yw_move rfl rfl) rfl rfl ?_)
    refine RX.cons rfl rfl (op_w (yw_move rfl rfl) rfl rfl ?_)
    refine RX.cons rfl rfl (op_callP [logE zl.1.1 zl.1.2 zl.2] [.row zk.1.1 zk.1.2 34 3 (List.map stC zk.2), pack (lns zk.2), .row zv.1.1 zv.1.2 34 3 (List.map stC zv.2), pack (lns zv.2)] rfl rfl rfl rfl rfl ent_12 ((perm_pick 0 rfl).trans (List.Perm.cons _ (List.Perm.refl _))) (σ := LZ × List SX) (val := fun _ => .int .i64 0) (LL := fun y => [logE zl.1.1 y.1 (zl.2 ++ y.2)]) (post := fun y => y.2.map (fun x : SX => x.2) = zk.2.map (fun x : SX => x.2)) (fun w hw hs => w_appendE zl.2 zk.2 (Ent.rd (hw.ents _ (List.mem_of_getElem? (i := 1) rfl))) (lnsRd hw (i := 2) rfl) (fun _ => hw.apartA (hw.no0 (by simp) hG) 0 rfl) (fun x hx _ => apartL hw (hw.no0 (by simp) hG) 1 rfl x hx) hks6 (by omega) hs (hG.keep hw (by simp)) (hw.no0 (by simp) hG) hgood (by omega)) (fun za hza => ?_))
    obtain ⟨T, hT, hTo, hTl⟩ : ∃ T : List Stm, ((zl.2 ++ za.2) : List SX).map (fun x : SX => x.2) = zv.2.map (fun x : SX => x.2) ++ T ∧ (∀ s ∈ T, okS s = true ∧ s.ls.length ≤ 8) ∧ T.length ≤ 5 := ⟨zk.2.map (fun x : SX => x.2), by rw [List.map_append, hzl, hza], (fun s hs => by obtain ⟨x, hx, rfl⟩ := List.mem_map.1 hs; exact ⟨hgood x hx, hks x hx⟩), by rw [List.length_map]; exact hkn⟩
    have hLn : ((zl.2 ++ za.2) : List SX).length = zv.2.length + T.length := by have := congrArg List.length hT; simpa using this
    have hLa : ∀ s ∈ ((zl.2 ++ za.2) : List SX).map (fun x : SX => x.2), okS s = true ∧ s.ls.length ≤ 1000000 := by
      rw [hT]
      intro s hs
      rcases List.mem_append.1 hs with hs | hs
      · obtain ⟨x, hx, rfl⟩ := List.mem_map.1 hs
        exact ⟨hvo x hx, hvs x hx⟩
      · exact ⟨(hTo s hs).1, by have := (hTo s hs).2; omega⟩
    have hXlL : ∀ x ∈ ((zl.2 ++ za.2) : List SX), x.2.ls.length ≤ 1000000 := fun x hx => (hLa _ (List.mem_map.2 ⟨x, hx, rfl⟩)).2
    have hLt : (((zl.2 ++ za.2) : List SX).take zv.2.length).map (fun x : SX => x.2) = zv.2.map (fun x : SX => x.2) := by rw [List.map_take, hT]; exact List.take_left' (by rw [List.length_map])
    refine RX.cons rfl rfl (op_w (yw_assign rfl rfl) rfl rfl ?_)
    refine RX.nil (XX.next (V' := [(0, .slice zv.1.1 zv.2.length zv.1.2), (1, .slice zk.1.1 zk.2.length zk.1.2), (2, .int .i64 c), (7, .bool true), (8, .pointer (some ⟨zl.1.1, 0, none⟩)), (9, .string (root sum (entsX zl.2))), (10, .int .i64 0)]) ⟨rfl, rfl, rfl, rfl, rfl, rfl, rfl, trivial⟩ ?_)
    refine CX.seq ?_
    refine CX.region ?_
    refine RX.cons rfl rfl (op_w (yw_move rfl rfl) rfl rfl ?_)
    refine RX.cons rfl rfl (op_callE rfl rfl rfl rfl rfl ent_14 (fun w hw => w_stmtsE (zl.2 ++ za.2) (hw.logAt (i := 0) rfl) hXlL (by omega)) (fun zs hzs => ?_))
    have hsn : zs.2.length = ((zl.2 ++ za.2) : List SX).length := by rw [len_snd hzs, List.length_map]
    have hsa := of_snd (p := fun s => okS s = true ∧ s.ls.length ≤ 1000000) hzs hLa
    refine RX.cons rfl rfl (op_w (yw_assign rfl rfl) rfl rfl ?_)
    refine RX.nil (XX.next (V' := [(0, .slice zv.1.1 zv.2.length zv.1.2), (1, .slice zk.1.1 zk.2.length zk.1.2), (2, .int .i64 c), (7, .bool true), (8, .pointer (some ⟨zl.1.1, 0, none⟩)), (9, .string (root sum (entsX zl.2))), (10, .int .i64 0), (11, .slice zs.1.1 zs.2.length zs.1.2)]) ⟨rfl, rfl, rfl, rfl, rfl, rfl, rfl, rfl, trivial⟩ ?_)
    refine CX.seq ?_
    refine CX.region ?_
    refine RX.cons rfl rfl (op_w (yw_move rfl rfl) rfl rfl ?_)
    refine RX.cons rfl rfl (op_callE rfl rfl rfl rfl rfl ent_10 (fun w hw => w_validX zk.2 (Ent.rd (hw.ents _ (List.mem_of_getElem? (i := 3) rfl))) (lnsRd hw (i := 4) rfl) (lnsCap hw (i := 4) rfl) (by omega) (fun x hx => by have := hks x hx; omega) 5 (by decide)) (fun zw hzw => ?_))
    refine RX.cons rfl rfl (op_w (yw_lenS rfl Tryd.underlying22 rfl) rfl rfl ?_)
    refine RX.cons rfl rfl (op_w (yw_move rfl rfl) rfl rfl ?_)
    refine RX.cons rfl rfl (op_w (yw_lenS rfl Tryd.underlying22 rfl) rfl rfl ?_)
    refine RX.cons rfl rfl (op_w (yw_eql rfl rfl rfl) rfl rfl ?_)
    refine RX.know (t := 36) (u := .bool true) rfl (congrArg Value.bool (decide_eq_true (by rw [len_snd hzw, valL_all hks hkn hgood]))) ?_
    refine RX.cons rfl rfl (op_w (yw_assign rfl rfl) rfl rfl ?_)
    refine RX.nil (XX.next (V' := [(0, .slice zv.1.1 zv.2.length zv.1.2), (2, .int .i64 c), (7, .bool true), (8, .pointer (some ⟨zl.1.1, 0, none⟩)), (9, .string (root sum (entsX zl.2))), (10, .int .i64 0), (11, .slice zs.1.1 zs.2.length zs.1.2), (12, .bool true)]) ⟨rfl, rfl, rfl, rfl, rfl, rfl, rfl, rfl, trivial⟩ ?_)
    refine CX.seq ?_
    refine CX.seq ?_
    refine CX.region ?_
    refine RX.cons rfl rfl (op_w (yw_move rfl rfl) rfl rfl ?_)
    refine RX.cons rfl rfl (op_w (yw_eql rfl rfl rfl) rfl rfl ?_)
    refine RX.know (t := 38) (u := .bool true) rfl (congrArg Value.bool (by decide)) ?_
    refine RX.cons rfl rfl (op_w (yw_move rfl rfl) rfl rfl ?_)
    refine RX.cons rfl rfl (op_w (yw_bneq rfl Tryd.underlying4 rfl rfl) rfl rfl ?_)
    refine RX.cons rfl rfl (op_w (yw_move rfl rfl) rfl rfl ?_)
    refine RX.consG rfl rfl rfl rfl rfl (op_w (yw_move rfl rfl) rfl rfl ?_)
    refine RX.consG rfl rfl rfl rfl rfl (op_w (yw_not rfl rfl) rfl rfl ?_)
    refine RX.consG rfl rfl rfl rfl rfl (op_w (yw_move rfl rfl) rfl rfl ?_)
    refine RX.skip rfl rfl rfl rfl rfl rfl rfl ?_
    refine RX.skip rfl rfl rfl rfl rfl rfl rfl ?_
    refine RX.skip rfl rfl rfl rfl rfl rfl rfl ?_
    refine RX.skip rfl rfl rfl rfl rfl rfl rfl ?_
    refine RX.skip rfl rfl rfl rfl rfl rfl rfl ?_
    refine RX.skip rfl rfl rfl rfl rfl rfl rfl ?_
    refine RX.skip rfl rfl rfl rfl rfl rfl rfl ?_
    refine RX.skip rfl rfl rfl rfl rfl rfl rfl ?_
    refine RX.skip rfl rfl rfl rfl rfl rfl rfl ?_
    refine RX.skip rfl rfl rfl rfl rfl rfl rfl ?_
    refine RX.skip rfl rfl rfl rfl rfl rfl rfl ?_
    refine RX.skip rfl rfl rfl rfl rfl rfl rfl ?_
    refine RX.skip rfl rfl rfl rfl rfl rfl rfl ?_
    refine RX.skip rfl rfl rfl rfl rfl rfl rfl ?_
    refine RX.skip rfl rfl rfl rfl rfl rfl rfl ?_
    refine RX.consG rfl rfl rfl rfl rfl (op_w (yw_pickF rfl rfl rfl) rfl rfl ?_)
    refine RX.cons rfl rfl (op_w (yw_pickF rfl rfl rfl) rfl rfl ?_)
    refine RX.nil (XX.next (V' := [(0, .slice zv.1.1 zv.2.length zv.1.2), (2, .int .i64 c), (7, .bool true), (8, .pointer (some ⟨zl.1.1, 0, none⟩)), (9, .string (root sum (entsX zl.2))), (11, .slice zs.1.1 zs.2.length zs.1.2), (61, .bool false)]) ⟨rfl, rfl, rfl, rfl, rfl, rfl, rfl, trivial⟩ ?_)
    refine CX.condF rfl ?_
    refine CX.skip (XX.next (V' := [(0, .slice zv.1.1 zv.2.length zv.1.2), (2, .int .i64 c), (7, .bool true), (8, .pointer (some ⟨zl.1.1, 0, none⟩)), (9, .string (root sum (entsX zl.2))), (11, .slice zs.1.1 zs.2.length zs.1.2)]) ⟨rfl, rfl, rfl, rfl, rfl, rfl, trivial⟩ ?_)
    refine CX.seq ?_
    refine CX.seq ?_
    refine CX.rowCap 2 rfl (fun hcT => ?_)
    refine CX.region ?_
    refine RX.cons rfl rfl (op_w (yw_move rfl rfl) rfl rfl ?_)
    refine RX.cons rfl rfl (op_w (yw_lenS rfl Tryd.underlying22 rfl) rfl rfl ?_)
    refine RX.cons rfl rfl (op_w (yw_move rfl rfl) rfl rfl ?_)
    refine RX.cons rfl rfl (op_w (yw_lenS rfl Tryd.underlying22 rfl) rfl rfl ?_)
    refine RX.cons rfl rfl (op_w (yw_lss rfl rfl rfl) rfl rfl ?_)
    refine RX.know (t := 66) (u := .bool false) rfl (congrArg Value.bool (decide_eq_false (by omega))) ?_
    refine RX.cons rfl rfl (op_w (yw_move rfl rfl) rfl rfl ?_)
    refine RX.consG rfl rfl rfl rfl rfl (op_w (yw_move rfl rfl) rfl rfl ?_)
    refine RX.consG rfl rfl rfl rfl rfl (op_w (yw_move rfl rfl) rfl rfl ?_)
    refine RX.consG rfl rfl rfl rfl rfl (op_w (yw_lenS rfl Tryd.underlying22 rfl) rfl rfl ?_)
    refine RX.consG rfl rfl rfl rfl rfl (op_w (yw_sliceTo (k := zv.2.length) rfl slt_22 rfl rfl (by omega) (by omega)) rfl rfl ?_)
    refine RX.know (t := 71) (u := .slice zs.1.1 ((List.take zv.2.length zs.2).length) zs.1.2) rfl (congrArg (fun n : Nat => Value.slice zs.1.1 n zs.1.2) (by rw [List.length_take]; omega)) ?_
    refine RX.consG rfl rfl rfl rfl rfl (op_w (yw_move rfl rfl) rfl rfl ?_)
    refine RX.consG rfl rfl rfl rfl rfl (op_callV (v := .bool (decide (List.map (fun x : SX => x.2) (List.take zv.2.length zs.2) = List.map (fun x : SX => x.2) zv.2))) rfl rfl rfl rfl rfl ent_13 (fun w hw => w_sameList (List.take zv.2.length zs.2) zv.2 (Rd.takeM (Ent.rd (hw.ents _ (List.mem_of_getElem? (i := 2) rfl))) zv.2.length) (fun x hx => lnsRd hw (i := 3) rfl x (List.mem_of_mem_take hx)) (Ent.rd (hw.ents _ (List.mem_of_getElem? (i := 7) rfl))) (lnsRd hw (i := 8) rfl) (fun x hx => (hsa x (List.mem_of_mem_take hx)).2) (by rw [List.length_take]; omega)) ?_)
    refine RX.know (t := 73) (u := .bool true) rfl (congrArg Value.bool (decide_eq_true (by rw [List.map_take, hzs, ← List.map_take, hLt]))) ?_
    refine RX.consG rfl rfl rfl rfl rfl (op_w (yw_not rfl rfl) rfl rfl ?_)
    refine RX.cons rfl rfl (op_w (yw_pickF rfl rfl rfl) rfl rfl ?_)
    refine RX.nil (XX.next (V' := [(0, .slice zv.1.1 zv.2.length zv.1.2), (2, .int .i64 c), (7, .bool true), (8, .pointer (some ⟨zl.1.1, 0, none⟩)), (9, .string (root sum (entsX zl.2))), (11, .slice zs.1.1 zs.2.length zs.1.2), (75, .bool false)]) ⟨rfl, rfl, rfl, rfl, rfl, rfl, rfl, trivial⟩ ?_)
    refine CX.condF rfl ?_
    refine CX.skip (XX.next (V' := [(0, .slice zv.1.1 zv.2.length zv.1.2), (2, .int .i64 c), (7, .bool true), (8, .pointer (some ⟨zl.1.1, 0, none⟩)), (9, .string (root sum (entsX zl.2))), (11, .slice zs.1.1 zs.2.length zs.1.2)]) ⟨rfl, rfl, rfl, rfl, rfl, rfl, trivial⟩ ?_)
    refine CX.seq ?_
    refine CX.region ?_
    refine RX.cons rfl rfl (op_w (yw_move rfl rfl) rfl rfl ?_)
    refine RX.cons rfl rfl (op_w (yw_move rfl rfl) rfl rfl ?_)
    refine RX.cons rfl rfl (op_w (yw_lenS rfl Tryd.underlying22 rfl) rfl rfl ?_)
    refine RX.cons rfl rfl (op_callE rfl rfl rfl rfl rfl ent_25 (fun w hw => w_logExt (zl.2 ++ za.2) (hw.logAt (i := 4) rfl) hXlL (by omega) (hG.keep hw (by simp)) zv.2.length (by omega)) (fun ze _ => ?_))
    refine RX.cons rfl rfl (op_w (yw_move rfl rfl) rfl rfl ?_)
    refine RX.cons rfl rfl (op_w (yw_extract rfl rfl rfl) rfl rfl ?_)
    refine RX.cons rfl rfl (op_w (yw_extract rfl rfl rfl) rfl rfl ?_)
    refine RX.cons rfl rfl (op_w (yw_assign rfl rfl) rfl rfl ?_)
    refine RX.cons rfl rfl (op_w (yw_assign rfl rfl) rfl rfl ?_)
    refine RX.nil (XX.next (V' := [(0, .slice zv.1.1 zv.2.length zv.1.2), (2, .int .i64 c), (7, .bool true), (8, .pointer (some ⟨zl.1.1, 0, none⟩)), (9, .string (root sum (entsX zl.2))), (11, .slice zs.1.1 zs.2.length zs.1.2), (13, .slice ze.1 (List.length (extX (zl.2 ++ za.2) zv.2.length : List ByteArray)) ze.2), (14, .int .i64 0)]) ⟨rfl, rfl, rfl, rfl, rfl, rfl, rfl, rfl, trivial⟩ ?_)
    refine CX.seq ?_
    refine CX.seq ?_
    refine CX.region ?_
    refine RX.cons rfl rfl (op_w (yw_move rfl rfl) rfl rfl ?_)
    refine RX.cons rfl rfl (op_w (yw_neq rfl rfl rfl) rfl rfl ?_)
    refine RX.know (t := 84) (u := .bool false) rfl (congrArg Value.bool (by decide)) ?_
    refine RX.cons rfl rfl (op_w (yw_move rfl rfl) rfl rfl ?_)
    refine RX.consG rfl rfl rfl rfl rfl (op_w (yw_move rfl rfl) rfl rfl ?_)
    refine RX.consG rfl rfl rfl rfl rfl (op_w (yw_move rfl rfl) rfl rfl ?_)
    refine RX.consG rfl rfl rfl rfl rfl (op_w (yw_lenS rfl Tryd.underlying22 rfl) rfl rfl ?_)
    refine RX.consG rfl rfl rfl rfl rfl (op_w (yw_move rfl rfl) rfl rfl ?_)
    refine RX.consG rfl rfl rfl rfl rfl (op_callV (v := .string (root sum (entsX (zl.2 ++ za.2)))) rfl rfl rfl rfl rfl ent_15 (fun w hw => w_rootE (zl.2 ++ za.2) (hw.logAt (i := 5) rfl) hXlL (by omega) (hG.keep hw (by simp))) ?_)
    refine RX.consG rfl rfl rfl rfl rfl (op_w (yw_move rfl rfl) rfl rfl ?_)
    refine RX.consG rfl rfl rfl rfl rfl (op_w (yw_lenS rfl Tryd.underlying22 rfl) rfl rfl ?_)
    refine RX.consG rfl rfl rfl rfl rfl (op_w (yw_move rfl rfl) rfl rfl ?_)
    refine RX.consG rfl rfl rfl rfl rfl (op_callV (v := .bool (verX (root sum (entsX zl.2)) zv.2.length (root sum (entsX (zl.2 ++ za.2))) zs.2.length (extX (zl.2 ++ za.2) zv.2.length))) rfl rfl rfl rfl rfl ent_26 (fun w hw => w_verX (root sum (entsX zl.2)) zv.2.length (root sum (entsX (zl.2 ++ za.2))) zs.2.length (extX (zl.2 ++ za.2) zv.2.length) (hG.keep hw (by simp)) (Ent.rd (hw.ents _ (List.mem_of_getElem? (i := 0) rfl))) (by have h8 := Ent.capLe (hw.ents _ (List.mem_of_getElem? (i := 0) rfl)); rwa [List.length_map] at h8) (by have := extX_length (zl.2 ++ za.2) zv.2.length; omega) (by omega) (by omega) (extX_sizes _ _) (root_size' _) (root_size' _)) ?_)
    refine RX.know (t := 94) (u := .bool true) rfl (congrArg Value.bool (by rw [hsn]; exact ext_verifies (by omega) (by rw [hzl, hLt]))) ?_
    refine RX.consG rfl rfl rfl rfl rfl (op_w (yw_not rfl rfl) rfl rfl ?_)
    refine RX.cons rfl rfl (op_w (yw_pickF rfl rfl rfl) rfl rfl ?_)
    refine RX.nil (XX.next (V' := [(2, .int .i64 c), (7, .bool true), (8, .pointer (some ⟨zl.1.1, 0, none⟩)), (11, .slice zs.1.1 zs.2.length zs.1.2), (96, .bool false)]) ⟨rfl, rfl, rfl, rfl, rfl, trivial⟩ ?_)
    refine CX.condF rfl ?_
    refine CX.skip (XX.next (V' := [(2, .int .i64 c), (7, .bool true), (8, .pointer (some ⟨zl.1.1, 0, none⟩)), (11, .slice zs.1.1 zs.2.length zs.1.2)]) ⟨rfl, rfl, rfl, rfl, trivial⟩ ?_)
    refine CX.seq ?_
    obtain ⟨k, hk⟩ : ∃ k, pickN c (zs.2.length + 1) = k := ⟨_, rfl⟩
    have hkl : k ≤ zs.2.length := by rw [← hk]; have := pickN_lt c (n := zs.2.length + 1) (by omega); omega
    refine CX.region ?_
    refine RX.cons rfl rfl (op_w (yw_move rfl rfl) rfl rfl ?_)
    refine RX.cons rfl rfl (op_w (yw_move rfl rfl) rfl rfl ?_)
    refine RX.cons rfl rfl (op_w (yw_lenS rfl Tryd.underlying22 rfl) rfl rfl ?_)
    refine RX.cons rfl rfl (op_w (yw_add rfl rfl rfl (by omega) (by omega)) rfl rfl ?_)
    refine RX.know (t := 100) (u := .int .i64 (((zs.2.length + 1) : Nat) : Int)) rfl (congrArg (Value.int .i64) (by omega)) ?_
    refine RX.cons rfl rfl (op_callV (v := .int .i64 ((pickN c (zs.2.length + 1) : Nat) : Int)) rfl rfl rfl rfl rfl ent_20 (fun w hw => w_pick c (zs.2.length + 1) hc1 hc2 (by omega)) ?_)
    refine RX.know (t := 101) (u := .int .i64 ((k : Nat) : Int)) rfl (congrArg (fun n : Nat => Value.int .i64 ((n : Nat) : Int)) hk) ?_
    refine RX.cons rfl rfl (op_w (yw_assign rfl rfl) rfl rfl ?_)
    refine RX.nil (XX.next (V' := [(2, .int .i64 ((k : Nat) : Int)), (7, .bool true), (8, .pointer (some ⟨zl.1.1, 0, none⟩)), (11, .slice zs.1.1 zs.2.length zs.1.2)]) ⟨rfl, rfl, rfl, rfl, trivial⟩ ?_)
    refine CX.seq ?_
    refine CX.region ?_
    refine RX.cons rfl rfl (op_w (yw_move rfl rfl) rfl rfl ?_)
    refine RX.cons rfl rfl (op_w (yw_move rfl rfl) rfl rfl ?_)
    refine RX.cons rfl rfl (op_w (yw_sliceTo (k := k) rfl slt_22 rfl rfl (by omega) (by omega)) rfl rfl ?_)
    refine RX.know (t := 104) (u := .slice zs.1.1 ((List.take k zs.2).length) zs.1.2) rfl (congrArg (fun n : Nat => Value.slice zs.1.1 n zs.1.2) (by rw [List.length_take]; omega)) ?_
    refine RX.cons rfl rfl (op_callE rfl rfl rfl rfl rfl ent_19 (fun w hw => w_logged (List.take k zs.2) (Rd.takeM (Ent.rd (hw.ents _ (List.mem_of_getElem? (i := 3) rfl))) k) (fun x hx => lnsRd hw (i := 4) rfl x (List.mem_of_mem_take hx)) (fun x hx => (hsa x (List.mem_of_mem_take hx)).2) (by rw [List.length_take]; omega) (hG.keep hw (by simp)) (fun x hx => (hsa x (List.mem_of_mem_take hx)).1)) (fun zm hzm => ?_))
    have hm1 : zm.2.length = k := by have := congrArg List.length hzm; simp at this; omega
    have hXlm : ∀ x ∈ zm.2, x.2.ls.length ≤ 1000000 := of_snd (p := fun s => s.ls.length ≤ 1000000) hzm (fun s hs => by obtain ⟨y, hy, rfl⟩ := List.mem_map.1 hs; exact (hsa y (List.mem_of_mem_take hy)).2)
    refine RX.cons rfl rfl (op_w (yw_assign rfl rfl) rfl rfl ?_)
    refine RX.nil (XX.next (V' := [(2, .int .i64 ((k : Nat) : Int)), (7, .bool true), (8, .pointer (some ⟨zl.1.1, 0, none⟩)), (11, .slice zs.1.1 zs.2.length zs.1.2), (15, .pointer (some ⟨zm.1.1, 0, none⟩))]) ⟨rfl, rfl, rfl, rfl, rfl, trivial⟩ ?_)
    refine CX.seq ?_
    refine CX.region ?_
    refine RX.cons rfl rfl (op_w (yw_move rfl rfl) rfl rfl ?_)
    refine RX.cons rfl rfl (op_w (yw_move rfl rfl) rfl rfl ?_)
    refine RX.cons rfl rfl (op_callE rfl rfl rfl rfl rfl ent_25 (fun w hw => w_logExt (zl.2 ++ za.2) (hw.logAt (i := 6) rfl) hXlL (by omega) (hG.keep hw (by simp)) k (by omega)) (fun zf _ => ?_))
    refine RX.cons rfl rfl (op_w (yw_move rfl rfl) rfl rfl ?_)
    refine RX.cons rfl rfl (op_w (yw_extract rfl rfl rfl) rfl rfl ?_)
    refine RX.cons rfl rfl (op_w (yw_extract rfl rfl rfl) rfl rfl ?_)
    refine RX.cons rfl rfl (op_w (yw_assign rfl rfl) rfl rfl ?_)
    refine RX.cons rfl rfl (op_w (yw_assign rfl rfl) rfl rfl ?_)
    refine RX.nil (XX.next (V' := [(2, .int .i64 ((k : Nat) : Int)), (7, .bool true), (8, .pointer (some ⟨zl.1.1, 0, none⟩)), (11, .slice zs.1.1 zs.2.length zs.1.2), (13, .slice zf.1 (List.length (extX (zl.2 ++ za.2) k : List ByteArray)) zf.2), (15, .pointer (some ⟨zm.1.1, 0, none⟩)), (16, .int .i64 0)]) ⟨rfl, rfl, rfl, rfl, rfl, rfl, rfl, trivial⟩ ?_)
    refine CX.seq ?_
    refine CX.region ?_
    refine RX.cons rfl rfl (op_w (yw_move rfl rfl) rfl rfl ?_)
    refine RX.cons rfl rfl (op_w (yw_move rfl rfl) rfl rfl ?_)
    refine RX.consG rfl rfl rfl rfl rfl (op_w (yw_move rfl rfl) rfl rfl ?_)
    refine RX.consG rfl rfl rfl rfl rfl (op_w (yw_eql rfl rfl rfl) rfl rfl ?_)
    refine RX.know (t := 115) (u := .bool true) rfl (congrArg Value.bool (by decide)) ?_
    refine RX.cons rfl rfl (op_w (yw_pickT rfl rfl rfl) rfl rfl ?_)
    refine RX.cons rfl rfl (op_w (yw_move rfl rfl) rfl rfl ?_)
    refine RX.consG rfl rfl rfl rfl rfl (op_w (yw_move rfl rfl) rfl rfl ?_)
    refine RX.consG rfl rfl rfl rfl rfl (op_callV (v := .string (root sum (entsX zm.2))) rfl rfl rfl rfl rfl ent_15 (fun w hw => w_rootE zm.2 (hw.logAt (i := 1) rfl) hXlm (by omega) (hG.keep hw (by simp))) ?_)
    refine RX.consG rfl rfl rfl rfl rfl (op_w (yw_move rfl rfl) rfl rfl ?_)
    refine RX.consG rfl rfl rfl rfl rfl (op_w (yw_move rfl rfl) rfl rfl ?_)
    refine RX.consG rfl rfl rfl rfl rfl (op_callV (v := .string (root sum (entsX (zl.2 ++ za.2)))) rfl rfl rfl rfl rfl ent_15 (fun w hw => w_rootE (zl.2 ++ za.2) (hw.logAt (i := 7) rfl) hXlL (by omega) (hG.keep hw (by simp))) ?_)
    refine RX.consG rfl rfl rfl rfl rfl (op_w (yw_move rfl rfl) rfl rfl ?_)
    refine RX.consG rfl rfl rfl rfl rfl (op_w (yw_lenS rfl Tryd.underlying22 rfl) rfl rfl ?_)
    refine RX.consG rfl rfl rfl rfl rfl (op_w (yw_move rfl rfl) rfl rfl ?_)
    refine RX.consG rfl rfl rfl rfl rfl (op_callV (v := .bool (verX (root sum (entsX zm.2)) k (root sum (entsX (zl.2 ++ za.2))) zs.2.length (extX (zl.2 ++ za.2) k))) rfl rfl rfl rfl rfl ent_26 (fun w hw => w_verX (root sum (entsX zm.2)) k (root sum (entsX (zl.2 ++ za.2))) zs.2.length (extX (zl.2 ++ za.2) k) (hG.keep hw (by simp)) (Ent.rd (hw.ents _ (List.mem_of_getElem? (i := 0) rfl))) (by have h8 := Ent.capLe (hw.ents _ (List.mem_of_getElem? (i := 0) rfl)); rwa [List.length_map] at h8) (by have := extX_length (zl.2 ++ za.2) k; omega) (by omega) hkl (extX_sizes _ _) (root_size' _) (root_size' _)) ?_)
    refine RX.know (t := 126) (u := .bool true) rfl (congrArg Value.bool (by rw [hsn]; exact ext_verifies (by omega) (by rw [hzm, List.map_take, hzs, ← List.map_take]))) ?_
    refine RX.cons rfl rfl (op_w (yw_pickT rfl rfl rfl) rfl rfl ?_)
    refine RX.cons rfl rfl (op_w (yw_assign rfl rfl) rfl rfl ?_)
    refine RX.nil (XX.next (V' := [(6, .bool true)]) ⟨rfl, trivial⟩ ?_)
    refine CX.ret ?_
    exact ret_tmp rfl rfl fun w1 hw => ⟨rfl, hw.sub (List.nil_sublist _)⟩
  · refine CX.region ?_
    refine RX.cons rfl rfl (op_w (yw_move rfl rfl) rfl rfl ?_)
    refine RX.cons rfl rfl (op_w (yw_move rfl rfl) rfl rfl ?_)
    refine RX.cons rfl rfl (op_callP [logE zl.1.1 zl.1.2 zl.2] [.row zk.1.1 zk.1.2 34 3 (List.map stC zk.2), pack (lns zk.2), .row zv.1.1 zv.1.2 34 3 (List.map stC zv.2), pack (lns zv.2)] rfl rfl rfl rfl rfl ent_12 ((perm_pick 0 rfl).trans (List.Perm.cons _ (List.Perm.refl _))) (σ := Unit) (val := fun _ => .int .i64 240) (LL := fun _ => [logE zl.1.1 zl.1.2 zl.2]) (post := fun _ => True) (fun w hw hs => (w_appendBadE zl.2 zk.2 (Ent.rd (hw.ents _ (List.mem_of_getElem? (i := 1) rfl))) (lnsRd hw (i := 2) rfl) (fun _ => hw.apartA (hw.no0 (by simp) hG) 0 rfl) (fun x hx _ => apartL hw (hw.no0 (by simp) hG) 1 rfl x hx) hks6 (by omega) hs hgood).mono fun e w' h => ⟨(), trivial, h⟩) (fun _ _ => ?_))
    obtain ⟨T, hT, hTo, hTl⟩ : ∃ T : List Stm, (zl.2 : List SX).map (fun x : SX => x.2) = zv.2.map (fun x : SX => x.2) ++ T ∧ (∀ s ∈ T, okS s = true ∧ s.ls.length ≤ 8) ∧ T.length ≤ 5 := ⟨[], by rw [List.append_nil]; exact hzl, by simp, by simp⟩
    have hLn : (zl.2 : List SX).length = zv.2.length + T.length := by have := congrArg List.length hT; simpa using this
    have hLa : ∀ s ∈ (zl.2 : List SX).map (fun x : SX => x.2), okS s = true ∧ s.ls.length ≤ 1000000 := by
      rw [hT]
      intro s hs
      rcases List.mem_append.1 hs with hs | hs
      · obtain ⟨x, hx, rfl⟩ := List.mem_map.1 hs
        exact ⟨hvo x hx, hvs x hx⟩
      · exact ⟨(hTo s hs).1, by have := (hTo s hs).2; omega⟩
    have hXlL : ∀ x ∈ (zl.2 : List SX), x.2.ls.length ≤ 1000000 := fun x hx => (hLa _ (List.mem_map.2 ⟨x, hx, rfl⟩)).2
    have hLt : ((zl.2 : List SX).take zv.2.length).map (fun x : SX => x.2) = zv.2.map (fun x : SX => x.2) := by rw [List.map_take, hT]; exact List.take_left' (by rw [List.length_map])
    refine RX.cons rfl rfl (op_w (yw_assign rfl rfl) rfl rfl ?_)
    refine RX.nil (XX.next (V' := [(0, .slice zv.1.1 zv.2.length zv.1.2), (1, .slice zk.1.1 zk.2.length zk.1.2), (2, .int .i64 c), (7, .bool true), (8, .pointer (some ⟨zl.1.1, 0, none⟩)), (9, .string (root sum (entsX zl.2))), (10, .int .i64 240)]) ⟨rfl, rfl, rfl, rfl, rfl, rfl, rfl, trivial⟩ ?_)
    refine CX.seq ?_
    refine CX.region ?_
    refine RX.cons rfl rfl (op_w (yw_move rfl rfl) rfl rfl ?_)
    refine RX.cons rfl rfl (op_callE rfl rfl rfl rfl rfl ent_14 (fun w hw => w_stmtsE zl.2 (hw.logAt (i := 0) rfl) hXlL (by omega)) (fun zs hzs => ?_))
    have hsn : zs.2.length = (zl.2 : List SX).length := by rw [len_snd hzs, List.length_map]
    have hsa := of_snd (p := fun s => okS s = true ∧ s.ls.length ≤ 1000000) hzs hLa
    refine RX.cons rfl rfl (op_w (yw_assign rfl rfl) rfl rfl ?_)
    refine RX.nil (XX.next (V' := [(0, .slice zv.1.1 zv.2.length zv.1.2), (1, .slice zk.1.1 zk.2.length zk.1.2), (2, .int .i64 c), (7, .bool true), (8, .pointer (some ⟨zl.1.1, 0, none⟩)), (9, .string (root sum (entsX zl.2))), (10, .int .i64 240), (11, .slice zs.1.1 zs.2.length zs.1.2)]) ⟨rfl, rfl, rfl, rfl, rfl, rfl, rfl, rfl, trivial⟩ ?_)
    refine CX.seq ?_
    refine CX.region ?_
    refine RX.cons rfl rfl (op_w (yw_move rfl rfl) rfl rfl ?_)
    refine RX.cons rfl rfl (op_callE rfl rfl rfl rfl rfl ent_10 (fun w hw => w_validX zk.2 (Ent.rd (hw.ents _ (List.mem_of_getElem? (i := 3) rfl))) (lnsRd hw (i := 4) rfl) (lnsCap hw (i := 4) rfl) (by omega) (fun x hx => by have := hks x hx; omega) 5 (by decide)) (fun zw hzw => ?_))
    refine RX.cons rfl rfl (op_w (yw_lenS rfl Tryd.underlying22 rfl) rfl rfl ?_)
    refine RX.cons rfl rfl (op_w (yw_move rfl rfl) rfl rfl ?_)
    refine RX.cons rfl rfl (op_w (yw_lenS rfl Tryd.underlying22 rfl) rfl rfl ?_)
    refine RX.cons rfl rfl (op_w (yw_eql rfl rfl rfl) rfl rfl ?_)
    refine RX.know (t := 36) (u := .bool false) rfl (congrArg Value.bool (decide_eq_false (by rw [len_snd hzw]; have := valL_some hks hkn hgood; omega))) ?_
    refine RX.cons rfl rfl (op_w (yw_assign rfl rfl) rfl rfl ?_)
    refine RX.nil (XX.next (V' := [(0, .slice zv.1.1 zv.2.length zv.1.2), (2, .int .i64 c), (7, .bool true), (8, .pointer (some ⟨zl.1.1, 0, none⟩)), (9, .string (root sum (entsX zl.2))), (10, .int .i64 240), (11, .slice zs.1.1 zs.2.length zs.1.2), (12, .bool false)]) ⟨rfl, rfl, rfl, rfl, rfl, rfl, rfl, rfl, trivial⟩ ?_)
    refine CX.seq ?_
    refine CX.seq ?_
    refine CX.region ?_
    refine RX.cons rfl rfl (op_w (yw_move rfl rfl) rfl rfl ?_)
    refine RX.cons rfl rfl (op_w (yw_eql rfl rfl rfl) rfl rfl ?_)
    refine RX.know (t := 38) (u := .bool false) rfl (congrArg Value.bool (by decide)) ?_
    refine RX.cons rfl rfl (op_w (yw_move rfl rfl) rfl rfl ?_)
    refine RX.cons rfl rfl (op_w (yw_bneq rfl Tryd.underlying4 rfl rfl) rfl rfl ?_)
    refine RX.cons rfl rfl (op_w (yw_move rfl rfl) rfl rfl ?_)
    refine RX.consG rfl rfl rfl rfl rfl (op_w (yw_move rfl rfl) rfl rfl ?_)
    refine RX.consG rfl rfl rfl rfl rfl (op_w (yw_not rfl rfl) rfl rfl ?_)
    refine RX.consG rfl rfl rfl rfl rfl (op_w (yw_move rfl rfl) rfl rfl ?_)
    refine RX.consG rfl rfl rfl rfl rfl (op_w (yw_move rfl rfl) rfl rfl ?_)
    refine RX.consG rfl rfl rfl rfl rfl (op_w (yw_neq rfl rfl rfl) rfl rfl ?_)
    refine RX.know (t := 46) (u := .bool false) rfl (congrArg Value.bool (by decide)) ?_
    refine RX.consG rfl rfl rfl rfl rfl (op_w (yw_move rfl rfl) rfl rfl ?_)
    refine RX.consG rfl rfl rfl rfl rfl (op_w (yw_move rfl rfl) rfl rfl ?_)
    refine RX.consG rfl rfl rfl rfl rfl (op_callV (v := .string (root sum (entsX zl.2))) rfl rfl rfl rfl rfl ent_15 (fun w hw => w_rootE zl.2 (hw.logAt (i := 4) rfl) hXlL (by omega) (hG.keep hw (by simp))) ?_)
    refine RX.consG rfl rfl rfl rfl rfl (op_w (yw_move rfl rfl) rfl rfl ?_)
    refine RX.consG rfl rfl rfl rfl rfl (op_w (yw_strneq rfl rfl rfl) rfl rfl ?_)
    refine RX.know (t := 51) (u := .bool false) rfl (congrArg Value.bool (decide_eq_false (fun h => h rfl))) ?_
    refine RX.consG rfl rfl rfl rfl rfl (op_w (yw_pickF rfl rfl rfl) rfl rfl ?_)
    refine RX.consG rfl rfl rfl rfl rfl (op_w (yw_move rfl rfl) rfl rfl ?_)
    refine RX.consG rfl rfl rfl rfl rfl (op_w (yw_move rfl rfl) rfl rfl ?_)
    refine RX.consG rfl rfl rfl rfl rfl (op_w (yw_lenS rfl Tryd.underlying22 rfl) rfl rfl ?_)
    refine RX.consG rfl rfl rfl rfl rfl (op_w (yw_move rfl rfl) rfl rfl ?_)
    refine RX.consG rfl rfl rfl rfl rfl (op_w (yw_lenS rfl Tryd.underlying22 rfl) rfl rfl ?_)
    refine RX.consG rfl rfl rfl rfl rfl (op_w (yw_neq rfl rfl rfl) rfl rfl ?_)
    refine RX.know (t := 58) (u := .bool false) rfl (congrArg Value.bool (decide_eq_false (by omega))) ?_
    refine RX.consG rfl rfl rfl rfl rfl (op_w (yw_pickF rfl rfl rfl) rfl rfl ?_)
    refine RX.consG rfl rfl rfl rfl rfl (op_w (yw_pickT rfl rfl rfl) rfl rfl ?_)
    refine RX.cons rfl rfl (op_w (yw_pickF rfl rfl rfl) rfl rfl ?_)
    refine RX.nil (XX.next (V' := [(0, .slice zv.1.1 zv.2.length zv.1.2), (2, .int .i64 c), (7, .bool true), (8, .pointer (some ⟨zl.1.1, 0, none⟩)), (9, .string (root sum (entsX zl.2))), (11, .slice zs.1.1 zs.2.length zs.1.2), (61, .bool false)]) ⟨rfl, rfl, rfl, rfl, rfl, rfl, rfl, trivial⟩ ?_)
    refine CX.condF rfl ?_
    refine CX.skip (XX.next (V' := [(0, .slice zv.1.1 zv.2.length zv.1.2), (2, .int .i64 c), (7, .bool true), (8, .pointer (some ⟨zl.1.1, 0, none⟩)), (9, .string (root sum (entsX zl.2))), (11, .slice zs.1.1 zs.2.length zs.1.2)]) ⟨rfl, rfl, rfl, rfl, rfl, rfl, trivial⟩ ?_)
    refine CX.seq ?_
    refine CX.seq ?_
    refine CX.rowCap 2 rfl (fun hcT => ?_)
    refine CX.region ?_
    refine RX.cons rfl rfl (op_w (yw_move rfl rfl) rfl rfl ?_)
    refine RX.cons rfl rfl (op_w (yw_lenS rfl Tryd.underlying22 rfl) rfl rfl ?_)
    refine RX.cons rfl rfl (op_w (yw_move rfl rfl) rfl rfl ?_)
    refine RX.cons rfl rfl (op_w (yw_lenS rfl Tryd.underlying22 rfl) rfl rfl ?_)
    refine RX.cons rfl rfl (op_w (yw_lss rfl rfl rfl) rfl rfl ?_)
    refine RX.know (t := 66) (u := .bool false) rfl (congrArg Value.bool (decide_eq_false (by omega))) ?_
    refine RX.cons rfl rfl (op_w (yw_move rfl rfl) rfl rfl ?_)
    refine RX.consG rfl rfl rfl rfl rfl (op_w (yw_move rfl rfl) rfl rfl ?_)
    refine RX.consG rfl rfl rfl rfl rfl (op_w (yw_move rfl rfl) rfl rfl ?_)
    refine RX.consG rfl rfl rfl rfl rfl (op_w (yw_lenS rfl Tryd.underlying22 rfl) rfl rfl ?_)
    refine RX.consG rfl rfl rfl rfl rfl (op_w (yw_sliceTo (k := zv.2.length) rfl slt_22 rfl rfl (by omega) (by omega)) rfl rfl ?_)
    refine RX.know (t := 71) (u := .slice zs.1.1 ((List.take zv.2.length zs.2).length) zs.1.2) rfl (congrArg (fun n : Nat => Value.slice zs.1.1 n zs.1.2) (by rw [List.length_take]; omega)) ?_
    refine RX.consG rfl rfl rfl rfl rfl (op_w (yw_move rfl rfl) rfl rfl ?_)
    refine RX.consG rfl rfl rfl rfl rfl (op_callV (v := .bool (decide (List.map (fun x : SX => x.2) (List.take zv.2.length zs.2) = List.map (fun x : SX => x.2) zv.2))) rfl rfl rfl rfl rfl ent_13 (fun w hw => w_sameList (List.take zv.2.length zs.2) zv.2 (Rd.takeM (Ent.rd (hw.ents _ (List.mem_of_getElem? (i := 2) rfl))) zv.2.length) (fun x hx => lnsRd hw (i := 3) rfl x (List.mem_of_mem_take hx)) (Ent.rd (hw.ents _ (List.mem_of_getElem? (i := 7) rfl))) (lnsRd hw (i := 8) rfl) (fun x hx => (hsa x (List.mem_of_mem_take hx)).2) (by rw [List.length_take]; omega)) ?_)
    refine RX.know (t := 73) (u := .bool true) rfl (congrArg Value.bool (decide_eq_true (by rw [List.map_take, hzs, ← List.map_take, hLt]))) ?_
    refine RX.consG rfl rfl rfl rfl rfl (op_w (yw_not rfl rfl) rfl rfl ?_)
    refine RX.cons rfl rfl (op_w (yw_pickF rfl rfl rfl) rfl rfl ?_)
    refine RX.nil (XX.next (V' := [(0, .slice zv.1.1 zv.2.length zv.1.2), (2, .int .i64 c), (7, .bool true), (8, .pointer (some ⟨zl.1.1, 0, none⟩)), (9, .string (root sum (entsX zl.2))), (11, .slice zs.1.1 zs.2.length zs.1.2), (75, .bool false)]) ⟨rfl, rfl, rfl, rfl, rfl, rfl, rfl, trivial⟩ ?_)
    refine CX.condF rfl ?_
    refine CX.skip (XX.next (V' := [(0, .slice zv.1.1 zv.2.length zv.1.2), (2, .int .i64 c), (7, .bool true), (8, .pointer (some ⟨zl.1.1, 0, none⟩)), (9, .string (root sum (entsX zl.2))), (11, .slice zs.1.1 zs.2.length zs.1.2)]) ⟨rfl, rfl, rfl, rfl, rfl, rfl, trivial⟩ ?_)
    refine CX.seq ?_
    refine CX.region ?_
    refine RX.cons rfl rfl (op_w (yw_move rfl rfl) rfl rfl ?_)
    refine RX.cons rfl rfl (op_w (yw_move rfl rfl) rfl rfl ?_)
    refine RX.cons rfl rfl (op_w (yw_lenS rfl Tryd.underlying22 rfl) rfl rfl ?_)
    refine RX.cons rfl rfl (op_callE rfl rfl rfl rfl rfl ent_25 (fun w hw => w_logExt zl.2 (hw.logAt (i := 4) rfl) hXlL (by omega) (hG.keep hw (by simp)) zv.2.length (by omega)) (fun ze _ => ?_))
    refine RX.cons rfl rfl (op_w (yw_move rfl rfl) rfl rfl ?_)
    refine RX.cons rfl rfl (op_w (yw_extract rfl rfl rfl) rfl rfl ?_)
    refine RX.cons rfl rfl (op_w (yw_extract rfl rfl rfl) rfl rfl ?_)
    refine RX.cons rfl rfl (op_w (yw_assign rfl rfl) rfl rfl ?_)
    refine RX.cons rfl rfl (op_w (yw_assign rfl rfl) rfl rfl ?_)
    refine RX.nil (XX.next (V' := [(0, .slice zv.1.1 zv.2.length zv.1.2), (2, .int .i64 c), (7, .bool true), (8, .pointer (some ⟨zl.1.1, 0, none⟩)), (9, .string (root sum (entsX zl.2))), (11, .slice zs.1.1 zs.2.length zs.1.2), (13, .slice ze.1 (List.length (extX zl.2 zv.2.length : List ByteArray)) ze.2), (14, .int .i64 0)]) ⟨rfl, rfl, rfl, rfl, rfl, rfl, rfl, rfl, trivial⟩ ?_)
    refine CX.seq ?_
    refine CX.seq ?_
    refine CX.region ?_
    refine RX.cons rfl rfl (op_w (yw_move rfl rfl) rfl rfl ?_)
    refine RX.cons rfl rfl (op_w (yw_neq rfl rfl rfl) rfl rfl ?_)
    refine RX.know (t := 84) (u := .bool false) rfl (congrArg Value.bool (by decide)) ?_
    refine RX.cons rfl rfl (op_w (yw_move rfl rfl) rfl rfl ?_)
    refine RX.consG rfl rfl rfl rfl rfl (op_w (yw_move rfl rfl) rfl rfl ?_)
    refine RX.consG rfl rfl rfl rfl rfl (op_w (yw_move rfl rfl) rfl rfl ?_)
    refine RX.consG rfl rfl rfl rfl rfl (op_w (yw_lenS rfl Tryd.underlying22 rfl) rfl rfl ?_)
    refine RX.consG rfl rfl rfl rfl rfl (op_w (yw_move rfl rfl) rfl rfl ?_)
    refine RX.consG rfl rfl rfl rfl rfl (op_callV (v := .string (root sum (entsX zl.2))) rfl rfl rfl rfl rfl ent_15 (fun w hw => w_rootE zl.2 (hw.logAt (i := 5) rfl) hXlL (by omega) (hG.keep hw (by simp))) ?_)
    refine RX.consG rfl rfl rfl rfl rfl (op_w (yw_move rfl rfl) rfl rfl ?_)
    refine RX.consG rfl rfl rfl rfl rfl (op_w (yw_lenS rfl Tryd.underlying22 rfl) rfl rfl ?_)
    refine RX.consG rfl rfl rfl rfl rfl (op_w (yw_move rfl rfl) rfl rfl ?_)
    refine RX.consG rfl rfl rfl rfl rfl (op_callV (v := .bool (verX (root sum (entsX zl.2)) zv.2.length (root sum (entsX zl.2)) zs.2.length (extX zl.2 zv.2.length))) rfl rfl rfl rfl rfl ent_26 (fun w hw => w_verX (root sum (entsX zl.2)) zv.2.length (root sum (entsX zl.2)) zs.2.length (extX zl.2 zv.2.length) (hG.keep hw (by simp)) (Ent.rd (hw.ents _ (List.mem_of_getElem? (i := 0) rfl))) (by have h8 := Ent.capLe (hw.ents _ (List.mem_of_getElem? (i := 0) rfl)); rwa [List.length_map] at h8) (by have := extX_length zl.2 zv.2.length; omega) (by omega) (by omega) (extX_sizes _ _) (root_size' _) (root_size' _)) ?_)
    refine RX.know (t := 94) (u := .bool true) rfl (congrArg Value.bool (by rw [hsn]; exact ext_verifies (by omega) (by rw [hzl, hLt]))) ?_
    refine RX.consG rfl rfl rfl rfl rfl (op_w (yw_not rfl rfl) rfl rfl ?_)
    refine RX.cons rfl rfl (op_w (yw_pickF rfl rfl rfl) rfl rfl ?_)
    refine RX.nil (XX.next (V' := [(2, .int .i64 c), (7, .bool true), (8, .pointer (some ⟨zl.1.1, 0, none⟩)), (11, .slice zs.1.1 zs.2.length zs.1.2), (96, .bool false)]) ⟨rfl, rfl, rfl, rfl, rfl, trivial⟩ ?_)
    refine CX.condF rfl ?_
    refine CX.skip (XX.next (V' := [(2, .int .i64 c), (7, .bool true), (8, .pointer (some ⟨zl.1.1, 0, none⟩)), (11, .slice zs.1.1 zs.2.length zs.1.2)]) ⟨rfl, rfl, rfl, rfl, trivial⟩ ?_)
    refine CX.seq ?_
    obtain ⟨k, hk⟩ : ∃ k, pickN c (zs.2.length + 1) = k := ⟨_, rfl⟩
    have hkl : k ≤ zs.2.length := by rw [← hk]; have := pickN_lt c (n := zs.2.length + 1) (by omega); omega
    refine CX.region ?_
    refine RX.cons rfl rfl (op_w (yw_move rfl rfl) rfl rfl ?_)
    refine RX.cons rfl rfl (op_w (yw_move rfl rfl) rfl rfl ?_)
    refine RX.cons rfl rfl (op_w (yw_lenS rfl Tryd.underlying22 rfl) rfl rfl ?_)
    refine RX.cons rfl rfl (op_w (yw_add rfl rfl rfl (by omega) (by omega)) rfl rfl ?_)
    refine RX.know (t := 100) (u := .int .i64 (((zs.2.length + 1) : Nat) : Int)) rfl (congrArg (Value.int .i64) (by omega)) ?_
    refine RX.cons rfl rfl (op_callV (v := .int .i64 ((pickN c (zs.2.length + 1) : Nat) : Int)) rfl rfl rfl rfl rfl ent_20 (fun w hw => w_pick c (zs.2.length + 1) hc1 hc2 (by omega)) ?_)
    refine RX.know (t := 101) (u := .int .i64 ((k : Nat) : Int)) rfl (congrArg (fun n : Nat => Value.int .i64 ((n : Nat) : Int)) hk) ?_
    refine RX.cons rfl rfl (op_w (yw_assign rfl rfl) rfl rfl ?_)
    refine RX.nil (XX.next (V' := [(2, .int .i64 ((k : Nat) : Int)), (7, .bool true), (8, .pointer (some ⟨zl.1.1, 0, none⟩)), (11, .slice zs.1.1 zs.2.length zs.1.2)]) ⟨rfl, rfl, rfl, rfl, trivial⟩ ?_)
    refine CX.seq ?_
    refine CX.region ?_
    refine RX.cons rfl rfl (op_w (yw_move rfl rfl) rfl rfl ?_)
    refine RX.cons rfl rfl (op_w (yw_move rfl rfl) rfl rfl ?_)
    refine RX.cons rfl rfl (op_w (yw_sliceTo (k := k) rfl slt_22 rfl rfl (by omega) (by omega)) rfl rfl ?_)
    refine RX.know (t := 104) (u := .slice zs.1.1 ((List.take k zs.2).length) zs.1.2) rfl (congrArg (fun n : Nat => Value.slice zs.1.1 n zs.1.2) (by rw [List.length_take]; omega)) ?_
    refine RX.cons rfl rfl (op_callE rfl rfl rfl rfl rfl ent_19 (fun w hw => w_logged (List.take k zs.2) (Rd.takeM (Ent.rd (hw.ents _ (List.mem_of_getElem? (i := 3) rfl))) k) (fun x hx => lnsRd hw (i := 4) rfl x (List.mem_of_mem_take hx)) (fun x hx => (hsa x (List.mem_of_mem_take hx)).2) (by rw [List.length_take]; omega) (hG.keep hw (by simp)) (fun x hx => (hsa x (List.mem_of_mem_take hx)).1)) (fun zm hzm => ?_))
    have hm1 : zm.2.length = k := by have := congrArg List.length hzm; simp at this; omega
    have hXlm : ∀ x ∈ zm.2, x.2.ls.length ≤ 1000000 := of_snd (p := fun s => s.ls.length ≤ 1000000) hzm (fun s hs => by obtain ⟨y, hy, rfl⟩ := List.mem_map.1 hs; exact (hsa y (List.mem_of_mem_take hy)).2)
    refine RX.cons rfl rfl (op_w (yw_assign rfl rfl) rfl rfl ?_)
    refine RX.nil (XX.next (V' := [(2, .int .i64 ((k : Nat) : Int)), (7, .bool true), (8, .pointer (some ⟨zl.1.1, 0, none⟩)), (11, .slice zs.1.1 zs.2.length zs.1.2), (15, .pointer (some ⟨zm.1.1, 0, none⟩))]) ⟨rfl, rfl, rfl, rfl, rfl, trivial⟩ ?_)
    refine CX.seq ?_
    refine CX.region ?_
    refine RX.cons rfl rfl (op_w (yw_move rfl rfl) rfl rfl ?_)
    refine RX.cons rfl rfl (op_w (yw_move rfl rfl) rfl rfl ?_)
    refine RX.cons rfl rfl (op_callE rfl rfl rfl rfl rfl ent_25 (fun w hw => w_logExt zl.2 (hw.logAt (i := 6) rfl) hXlL (by omega) (hG.keep hw (by simp)) k (by omega)) (fun zf _ => ?_))
    refine RX.cons rfl rfl (op_w (yw_move rfl rfl) rfl rfl ?_)
    refine RX.cons rfl rfl (op_w (yw_extract rfl rfl rfl) rfl rfl ?_)
    refine RX.cons rfl rfl (op_w (yw_extract rfl rfl rfl) rfl rfl ?_)
    refine RX.cons rfl rfl (op_w (yw_assign rfl rfl) rfl rfl ?_)
    refine RX.cons rfl rfl (op_w (yw_assign rfl rfl) rfl rfl ?_)
    refine RX.nil (XX.next (V' := [(2, .int .i64 ((k : Nat) : Int)), (7, .bool true), (8, .pointer (some ⟨zl.1.1, 0, none⟩)), (11, .slice zs.1.1 zs.2.length zs.1.2), (13, .slice zf.1 (List.length (extX zl.2 k : List ByteArray)) zf.2), (15, .pointer (some ⟨zm.1.1, 0, none⟩)), (16, .int .i64 0)]) ⟨rfl, rfl, rfl, rfl, rfl, rfl, rfl, trivial⟩ ?_)
    refine CX.seq ?_
    refine CX.region ?_
    refine RX.cons rfl rfl (op_w (yw_move rfl rfl) rfl rfl ?_)
    refine RX.cons rfl rfl (op_w (yw_move rfl rfl) rfl rfl ?_)
    refine RX.consG rfl rfl rfl rfl rfl (op_w (yw_move rfl rfl) rfl rfl ?_)
    refine RX.consG rfl rfl rfl rfl rfl (op_w (yw_eql rfl rfl rfl) rfl rfl ?_)
    refine RX.know (t := 115) (u := .bool true) rfl (congrArg Value.bool (by decide)) ?_
    refine RX.cons rfl rfl (op_w (yw_pickT rfl rfl rfl) rfl rfl ?_)
    refine RX.cons rfl rfl (op_w (yw_move rfl rfl) rfl rfl ?_)
    refine RX.consG rfl rfl rfl rfl rfl (op_w (yw_move rfl rfl) rfl rfl ?_)
    refine RX.consG rfl rfl rfl rfl rfl (op_callV (v := .string (root sum (entsX zm.2))) rfl rfl rfl rfl rfl ent_15 (fun w hw => w_rootE zm.2 (hw.logAt (i := 1) rfl) hXlm (by omega) (hG.keep hw (by simp))) ?_)
    refine RX.consG rfl rfl rfl rfl rfl (op_w (yw_move rfl rfl) rfl rfl ?_)
    refine RX.consG rfl rfl rfl rfl rfl (op_w (yw_move rfl rfl) rfl rfl ?_)
    refine RX.consG rfl rfl rfl rfl rfl (op_callV (v := .string (root sum (entsX zl.2))) rfl rfl rfl rfl rfl ent_15 (fun w hw => w_rootE zl.2 (hw.logAt (i := 7) rfl) hXlL (by omega) (hG.keep hw (by simp))) ?_)
    refine RX.consG rfl rfl rfl rfl rfl (op_w (yw_move rfl rfl) rfl rfl ?_)
    refine RX.consG rfl rfl rfl rfl rfl (op_w (yw_lenS rfl Tryd.underlying22 rfl) rfl rfl ?_)
    refine RX.consG rfl rfl rfl rfl rfl (op_w (yw_move rfl rfl) rfl rfl ?_)
    refine RX.consG rfl rfl rfl rfl rfl (op_callV (v := .bool (verX (root sum (entsX zm.2)) k (root sum (entsX zl.2)) zs.2.length (extX zl.2 k))) rfl rfl rfl rfl rfl ent_26 (fun w hw => w_verX (root sum (entsX zm.2)) k (root sum (entsX zl.2)) zs.2.length (extX zl.2 k) (hG.keep hw (by simp)) (Ent.rd (hw.ents _ (List.mem_of_getElem? (i := 0) rfl))) (by have h8 := Ent.capLe (hw.ents _ (List.mem_of_getElem? (i := 0) rfl)); rwa [List.length_map] at h8) (by have := extX_length zl.2 k; omega) (by omega) hkl (extX_sizes _ _) (root_size' _) (root_size' _)) ?_)
    refine RX.know (t := 126) (u := .bool true) rfl (congrArg Value.bool (by rw [hsn]; exact ext_verifies (by omega) (by rw [hzm, List.map_take, hzs, ← List.map_take]))) ?_
    refine RX.cons rfl rfl (op_w (yw_pickT rfl rfl rfl) rfl rfl ?_)
    refine RX.cons rfl rfl (op_w (yw_assign rfl rfl) rfl rfl ?_)
    refine RX.nil (XX.next (V' := [(6, .bool true)]) ⟨rfl, trivial⟩ ?_)
    refine CX.ret ?_
    exact ret_tmp rfl rfl fun w1 hw => ⟨rfl, hw.sub (List.nil_sublist _)⟩

end Go.Proofs.YtnadipjlhlbfoaaDoor
