/- Walks, printed by a program. -/
import Derived.Test.YtnadipjlhlbfoaaDoorK12
import Derived.Test.YtnadipjlhlbfoaaDoorKOps11
namespace Go.Proofs.YtnadipjlhlbfoaaDoor
set_option linter.all false
open Go Go.RowKit
set_option maxRecDepth 100000
theorem salt_of {X Y : List SX} {i : Nat} (h : (X.take (i + 1)).map (·.2) = (Y.take (i + 1)).map (·.2)) : saltX X i = saltX Y i := by rw [saltX, saltX, headX_of h]
theorem snd_of {X Y : List SX} {i : Nat} {x y : SX} (h : (X.take (i + 1)).map (·.2) = (Y.take (i + 1)).map (·.2)) (hx : X[i]? = some x) (hy : Y[i]? = some y) : x.2 = y.2 := by
  have h8 := congrArg (fun l : List Stm => l[i]?) h
  simp only [List.getElem?_map, List.getElem?_take_of_lt (Nat.lt_succ_self i), hx, hy, Option.map_some, Option.some.injEq] at h8
  exact h8
theorem path_same (X Y : List SX) (i : Nat) (h : X.length = Y.length) : (path sum (entsX X) i).reverse.length = (path sum (entsX Y) i).reverse.length := by
  rw [List.length_reverse, List.length_reverse, path, path, path_length, path_length, entsX_length, entsX_length, h]
theorem own_facts {V U : List SX} {n i : Nat} (hi : i < n) (hV : n ≤ V.length) (hU : n ≤ U.length) :
    (List.take (i + 1) V ++ List.drop (List.take (i + 1) V).length ([] ++ List.take n U)).length = n ∧ (List.take (i + 1) V ++ List.drop (List.take (i + 1) V).length ([] ++ List.take n U)).take (i + 1) = V.take (i + 1) ∧
    ∀ x ∈ (List.take (i + 1) V ++ List.drop (List.take (i + 1) V).length ([] ++ List.take n U)), x ∈ V ∨ x ∈ U := by
  have hl : (List.take (i + 1) V).length = i + 1 := by rw [List.length_take]; omega
  refine ⟨?_, List.take_left' hl, fun x hx => ?_⟩
  · rw [List.length_append, List.length_drop, hl, List.nil_append, List.length_take]; omega
  · rcases List.mem_append.1 hx with hx | hx
    · exact .inl (List.mem_of_mem_take hx)
    · exact .inr (List.mem_of_mem_take (List.mem_of_mem_drop hx))
attribute [local irreducible] sum root entsX
set_option maxRecDepth 100000 in
theorem w_private {w : World} {A B : Option Addr} {cap capB : Nat} (X Y : List SX) (hr : Rd w A 3 (X.map stC)) (hX : ∀ x ∈ X, Rd w x.1.1 3 (x.2.ls.map lnC)) (hXc : ∀ x ∈ X, x.2.ls.length ≤ x.1.2) (hX8 : X.length ≤ 9223372036854775807) (hXl : ∀ x ∈ X, x.2.ls.length ≤ 9223372036854775807) (hrY : Rd w B 3 (Y.map stC)) (hY : ∀ x ∈ Y, Rd w x.1.1 3 (x.2.ls.map lnC)) (hYc : ∀ x ∈ Y, x.2.ls.length ≤ x.1.2) (hY8 : Y.length ≤ 9223372036854775807) (hYl : ∀ x ∈ Y, x.2.ls.length ≤ 9223372036854775807) (hG : Rounds w) (c : Int) (hc1 : -9223372036854775808 ≤ c) (hc2 : c ≤ 9223372036854775807) :
    Calls Tryd.prog 7 #[.slice A X.length cap, .slice B Y.length capB, .int .i64 c] w (fun e w' => e = .returned (.bool true) ∧ SL w [] w' []) := by
  refine calls_of_CX (O := []) (L := []) (args := [.slice A X.length cap, .slice B Y.length capB, .int .i64 c]) Tryd.func7 rfl (by simp [Tryd.ntmps7]) (SL.refl w) ?_
  refine CX.sub (V' := [(0, .slice A X.length cap), (1, .slice B Y.length capB), (2, .int .i64 c)]) ⟨rfl, rfl, rfl, trivial⟩ ?_
  refine CX.seq ?_
  refine CX.region ?_
  refine RX.cons rfl rfl (op_w (yw_assign rfl rfl) rfl rfl ?_)
  refine RX.nil (XX.next (V' := [(0, .slice A X.length cap), (1, .slice B Y.length capB), (2, .int .i64 c)]) ⟨rfl, rfl, rfl, trivial⟩ ?_)
  refine CX.seq ?_
  refine CX.region ?_
  refine RX.cons rfl rfl (op_callV (v := .bool true) rfl rfl rfl rfl rfl ent_9 (fun w hw => w_sane (hG.keep hw (by simp))) ?_)
  refine RX.cons rfl rfl (op_w (yw_assign rfl rfl) rfl rfl ?_)
  refine RX.nil (XX.next (V' := [(0, .slice A X.length cap), (1, .slice B Y.length capB), (2, .int .i64 c), (7, .bool true)]) ⟨rfl, rfl, rfl, rfl, trivial⟩ ?_)
  refine CX.seq ?_
  refine CX.region ?_
  refine RX.cons rfl rfl (op_w (yw_move rfl rfl) rfl rfl ?_)
  refine RX.cons rfl rfl (op_callE rfl rfl rfl rfl rfl ent_10 (fun w hw => w_validX X (hw.rd hr (by simp)) (fun x hx => hw.rd (hX x hx) (by simp)) hXc hX8 hXl 12 (by decide)) (fun zv hzv => ?_))
  have hvs := of_snd (p := fun s => s.ls.length ≤ 1000000) hzv (fun s hs => by have := valL_short X 12 s hs; omega)
  have hvo := of_snd (p := fun s => okS s = true) hzv (valL_ok X 12)
  have hvn : zv.2.length ≤ 12 := by rw [len_snd hzv]; exact valL_length X 12
  refine RX.cons rfl rfl (op_w (yw_assign rfl rfl) rfl rfl ?_)
  refine RX.nil (XX.next (V' := [(0, .slice zv.1.1 zv.2.length zv.1.2), (1, .slice B Y.length capB), (2, .int .i64 c), (7, .bool true)]) ⟨rfl, rfl, rfl, rfl, trivial⟩ ?_)
  refine CX.seq ?_
  refine CX.region ?_
  refine RX.cons rfl rfl (op_w (yw_move rfl rfl) rfl rfl ?_)
  refine RX.cons rfl rfl (op_callE rfl rfl rfl rfl rfl ent_10 (fun w hw => w_validX Y (hw.rd hrY (by simp)) (fun x hx => hw.rd (hY x hx) (by simp)) hYc hY8 hYl 12 (by decide)) (fun zu hzu => ?_))
  have hvsu := of_snd (p := fun s => s.ls.length ≤ 1000000) hzu (fun s hs => by have := valL_short Y 12 s hs; omega)
  have hvou := of_snd (p := fun s => okS s = true) hzu (valL_ok Y 12)
  have hvnu : zu.2.length ≤ 12 := by rw [len_snd hzu]; exact valL_length Y 12
  refine RX.cons rfl rfl (op_w (yw_assign rfl rfl) rfl rfl ?_)
  refine RX.nil (XX.next (V' := [(0, .slice zv.1.1 zv.2.length zv.1.2), (1, .slice zu.1.1 zu.2.length zu.1.2), (2, .int .i64 c), (7, .bool true)]) ⟨rfl, rfl, rfl, rfl, trivial⟩ ?_)
  refine CX.seq ?_
  obtain ⟨n, hn⟩ : ∃ n : Nat, min zv.2.length zu.2.length = n := ⟨_, rfl⟩
  have hnv : n ≤ zv.2.length := by omega
  have hnu : n ≤ zu.2.length := by omega
  refine CX.region ?_
  refine RX.cons rfl rfl (op_w (yw_move rfl rfl) rfl rfl ?_)
  refine RX.cons rfl rfl (op_w (yw_lenS rfl Tryd.underlying22 rfl) rfl rfl ?_)
  refine RX.cons rfl rfl (op_w (yw_move rfl rfl) rfl rfl ?_)
  refine RX.cons rfl rfl (op_w (yw_lenS rfl Tryd.underlying22 rfl) rfl rfl ?_)
  refine RX.cons rfl rfl (op_w (yw_min rfl rfl rfl) rfl rfl ?_)
  refine RX.know (t := 24) (u := .int .i64 ((n : Nat) : Int)) rfl (congrArg (Value.int .i64) (by omega)) ?_
  refine RX.cons rfl rfl (op_w (yw_assign rfl rfl) rfl rfl ?_)
  refine RX.nil (XX.next (V' := [(0, .slice zv.1.1 zv.2.length zv.1.2), (1, .slice zu.1.1 zu.2.length zu.1.2), (2, .int .i64 c), (7, .bool true), (8, .int .i64 ((n : Nat) : Int))]) ⟨rfl, rfl, rfl, rfl, rfl, trivial⟩ ?_)
  refine CX.seq ?_
  refine CX.seq ?_
  refine CX.region ?_
  refine RX.cons rfl rfl (op_w (yw_move rfl rfl) rfl rfl ?_)
  refine RX.cons rfl rfl (op_w (yw_eql rfl rfl rfl) rfl rfl ?_)
  refine RX.nil (XX.next (V' := [(0, .slice zv.1.1 zv.2.length zv.1.2), (1, .slice zu.1.1 zu.2.length zu.1.2), (2, .int .i64 c), (7, .bool true), (8, .int .i64 ((n : Nat) : Int)), (26, .bool (decide (((n : Nat) : Int) = 0)))]) ⟨rfl, rfl, rfl, rfl, rfl, rfl, trivial⟩ ?_)
  refine CX.condD (p := ((n : Nat) : Int) = 0) rfl (fun c26 => ?_) (fun c26 => ?_)
  · refine CX.seq ?_
    refine CX.region ?_
    refine RX.cons rfl rfl (op_w (yw_move rfl rfl) rfl rfl ?_)
    refine RX.cons rfl rfl (op_w (yw_assign rfl rfl) rfl rfl ?_)
    refine RX.nil (XX.next (V' := [(6, .bool true)]) ⟨rfl, trivial⟩ ?_)
    refine CX.ret ?_
    refine XX.then_ret ?_
    exact ret_tmp rfl rfl fun w1 hw => ⟨rfl, hw.sub (List.nil_sublist _)⟩
  · refine CX.skip (XX.next (V' := [(0, .slice zv.1.1 zv.2.length zv.1.2), (1, .slice zu.1.1 zu.2.length zu.1.2), (2, .int .i64 c), (7, .bool true), (8, .int .i64 ((n : Nat) : Int))]) ⟨rfl, rfl, rfl, rfl, rfl, trivial⟩ ?_)
    refine CX.seq ?_
    obtain ⟨i, hi⟩ : ∃ i, pickN c n = i := ⟨_, rfl⟩
    have hil : i < n := by rw [← hi]; exact pickN_lt c (by omega)
    refine CX.region ?_
    refine RX.cons rfl rfl (op_w (yw_move rfl rfl) rfl rfl ?_)
    refine RX.cons rfl rfl (op_w (yw_move rfl rfl) rfl rfl ?_)
    refine RX.cons rfl rfl (op_callV (v := .int .i64 ((pickN c n : Nat) : Int)) rfl rfl rfl rfl rfl ent_20 (fun w hw => w_pick c n hc1 hc2 (by omega)) ?_)
    refine RX.know (t := 30) (u := .int .i64 ((i : Nat) : Int)) rfl (congrArg (fun n : Nat => Value.int .i64 ((n : Nat) : Int)) hi) ?_
    refine RX.cons rfl rfl (op_w (yw_assign rfl rfl) rfl rfl ?_)
    refine RX.nil (XX.next (V' := [(0, .slice zv.1.1 zv.2.length zv.1.2), (1, .slice zu.1.1 zu.2.length zu.1.2), (2, .int .i64 ((i : Nat) : Int)), (7, .bool true), (8, .int .i64 ((n : Nat) : Int))]) ⟨rfl, rfl, rfl, rfl, rfl, trivial⟩ ?_)
    refine CX.seq ?_
    refine CX.rowCap 0 rfl (fun hcU => ?_)
    refine CX.rowCap 2 rfl (fun hcV => ?_)
    refine CX.region ?_
    refine RX.cons rfl rfl (op_buildSlice rfl rfl rfl slb_22 rfl rfl (by intro v hv; simp at hv) (by decide) fun or0 => ?_)
    refine RX.cons rfl rfl (op_w (yw_move rfl rfl) rfl rfl ?_)
    refine RX.cons rfl rfl (op_w (yw_move rfl rfl) rfl rfl ?_)
    refine RX.cons rfl rfl (op_w (yw_sliceTo (k := n) rfl slt_22 rfl rfl (by omega) (by omega)) rfl rfl ?_)
    refine RX.know (t := 34) (u := .slice zu.1.1 ((List.take n zu.2).length) zu.1.2) rfl (congrArg (fun n : Nat => Value.slice zu.1.1 n zu.1.2) (by rw [List.length_take]; omega)) ?_
    refine RX.cons rfl rfl (op_appendMR stC (i := 0) (xs := []) (List.take n zu.2) rfl rfl rfl slb_22 rfl rfl rfl rfl (fun w hw => Rd.takeM (Ent.rd (hw.ents _ (List.mem_of_getElem? (i := 1) rfl))) n) (by rw [List.length_nil, List.length_take]; omega) (by rw [List.length_nil, List.length_take]; omega) fun A8 c8 => ?_)
    refine RX.cons rfl rfl (op_w (yw_assign rfl rfl) rfl rfl ?_)
    refine RX.nil (XX.next (V' := [(0, .slice zv.1.1 zv.2.length zv.1.2), (2, .int .i64 ((i : Nat) : Int)), (7, .bool true), (8, .int .i64 ((n : Nat) : Int)), (9, .slice A8 (([] ++ (List.take n zu.2)).length) c8)]) ⟨rfl, rfl, rfl, rfl, rfl, trivial⟩ ?_)
    refine CX.seq ?_
    refine CX.region ?_
    refine RX.cons rfl rfl (op_w (yw_move rfl rfl) rfl rfl ?_)
    refine RX.cons rfl rfl (op_w (yw_move rfl rfl) rfl rfl ?_)
    refine RX.cons rfl rfl (op_w (yw_move rfl rfl) rfl rfl ?_)
    refine RX.cons rfl rfl (op_w (yw_add rfl rfl rfl (by omega) (by omega)) rfl rfl ?_)
    refine RX.know (t := 39) (u := .int .i64 (((i + 1) : Nat) : Int)) rfl (congrArg (Value.int .i64) (by omega)) ?_
    refine RX.cons rfl rfl (op_w (yw_sliceTo (k := (i + 1)) rfl slt_22 rfl rfl (by omega) (by omega)) rfl rfl ?_)
    refine RX.know (t := 40) (u := .slice zv.1.1 ((List.take (i + 1) zv.2).length) zv.1.2) rfl (congrArg (fun n : Nat => Value.slice zv.1.1 n zv.1.2) (by rw [List.length_take]; omega)) ?_
    refine RX.cons rfl rfl (op_copyHead stC (i := 0) (k := (List.take (i + 1) zv.2).length) (ds := ([] ++ (List.take n zu.2))) (xs := (List.take (i + 1) zv.2)) rfl rfl rfl slb_22 rfl rfl rfl rfl rfl (by rw [List.length_take, List.nil_append, List.length_take]; omega) (fun w hw => Rd.takeM (Ent.rd (hw.ents _ (List.mem_of_getElem? (i := 3) rfl))) (i + 1)) ?_)
    obtain ⟨W, hW⟩ : ∃ W : List SX, ((List.take (i + 1) zv.2) ++ List.drop ((List.take (i + 1) zv.2).length) ([] ++ (List.take n zu.2))) = W := ⟨_, rfl⟩
    have hWf := own_facts (V := zv.2) (U := zu.2) hil (by omega) (by omega)
    rw [hW] at hWf
    obtain ⟨hWn, hWt, hWm⟩ := hWf
    refine RX.know1 0 (q := .row A8 c8 34 3 (List.map stC W)) rfl (by rw [hW]) ?_
    refine RX.know (t := 9) (u := .slice A8 (List.length (W : List SX)) c8) rfl (congrArg (fun k : Nat => Value.slice A8 k c8) (by rw [List.nil_append, List.length_take]; omega)) ?_
    refine RX.nil (XX.next (V' := [(0, .slice zv.1.1 zv.2.length zv.1.2), (2, .int .i64 ((i : Nat) : Int)), (7, .bool true), (8, .int .i64 ((n : Nat) : Int)), (9, .slice A8 (List.length (W : List SX)) c8)]) ⟨rfl, rfl, rfl, rfl, rfl, trivial⟩ ?_)
    refine CX.seq ?_
    refine CX.region ?_
    refine RX.cons rfl rfl (op_w (yw_move rfl rfl) rfl rfl ?_)
    refine RX.cons rfl rfl (op_w (yw_move rfl rfl) rfl rfl ?_)
    refine RX.cons rfl rfl (op_w (yw_sliceTo (k := n) rfl slt_22 rfl rfl (by omega) (by omega)) rfl rfl ?_)
    refine RX.know (t := 45) (u := .slice zv.1.1 ((List.take n zv.2).length) zv.1.2) rfl (congrArg (fun n : Nat => Value.slice zv.1.1 n zv.1.2) (by rw [List.length_take]; omega)) ?_
    refine RX.cons rfl rfl (op_callE rfl rfl rfl rfl rfl ent_19 (fun w hw => w_logged (List.take n zv.2) (Rd.takeM (Ent.rd (hw.ents _ (List.mem_of_getElem? (i := 3) rfl))) n) (fun x hx => lnsRd hw (i := 4) rfl x (List.mem_of_mem_take hx)) (fun x hx => hvs x (List.mem_of_mem_take hx)) (by rw [List.length_take]; omega) (hG.keep hw (by simp)) (fun x hx => hvo x (List.mem_of_mem_take hx))) (fun zp hzp => ?_))
    have hLp : (zp.2 : List SX).map (fun x : SX => x.2) = (List.take n zv.2).map (fun x : SX => x.2) := hzp
    have hXlp := of_snd (p := fun s => s.ls.length ≤ 1000000) hLp (fun s hs => by obtain ⟨y, hy, rfl⟩ := List.mem_map.1 hs; exact (fun y hy => hvs y (List.mem_of_mem_take hy)) y hy)
    have hnp : (zp.2 : List SX).length = (List.take n zv.2).length := by have := congrArg List.length hLp; simpa using this
    have hpn : zp.2.length = n := by rw [hnp, List.length_take]; omega
    obtain ⟨x0, hx0⟩ := get_some (l := zp.2) (k := i) (by omega)
    refine RX.cons rfl rfl (op_w (yw_move rfl rfl) rfl rfl ?_)
    refine RX.cons rfl rfl (op_callE rfl rfl rfl rfl rfl ent_16 (fun w hw => w_prove zp.2 (hw.logAt (i := 0) rfl) hXlp (by omega) (hG.keep hw (by simp)) i x0 hx0) (fun zq _ => ?_))
    refine RX.cons rfl rfl (op_w (yw_move rfl rfl) rfl rfl ?_)
    refine RX.cons rfl rfl (op_w (yw_extract rfl rfl rfl) rfl rfl ?_)
    refine RX.cons rfl rfl (op_w (yw_extract rfl rfl rfl) rfl rfl ?_)
    refine RX.cons rfl rfl (op_alloc rfl rfl rfl zero_37 fun g10 => ?_)
    refine RX.cons rfl rfl (op_storeAll (i := 0) rfl rfl rfl rfl szt_37 rfl (plain_of rfl) rfl rfl ?_)
    refine RX.cons rfl rfl (op_w (yw_assign rfl rfl) rfl rfl ?_)
    refine RX.nil (XX.next (V' := [(2, .int .i64 ((i : Nat) : Int)), (7, .bool true), (9, .slice A8 (List.length (W : List SX)) c8), (10, .pointer (some ⟨g10, 0, none⟩)), (11, .int .i64 0)]) ⟨rfl, rfl, rfl, rfl, rfl, trivial⟩ ?_)
    refine CX.seq ?_
    refine CX.region ?_
    refine RX.cons rfl rfl (op_w (yw_move rfl rfl) rfl rfl ?_)
    refine RX.cons rfl rfl (op_callE rfl rfl rfl rfl rfl ent_19 (fun w hw => w_logged W (Ent.rd (hw.ents _ (List.mem_of_getElem? (i := 4) rfl))) (fun x hx => (hWm x hx).elim (lnsRd hw (i := 8) rfl x) (lnsRd hw (i := 6) rfl x)) (fun x hx => (hWm x hx).elim (hvs x) (hvsu x)) (by omega) (hG.keep hw (by simp)) (fun x hx => (hWm x hx).elim (hvo x) (hvou x))) (fun zo hzo => ?_))
    have hLo : (zo.2 : List SX).map (fun x : SX => x.2) = W.map (fun x : SX => x.2) := hzo
    have hXlo := of_snd (p := fun s => s.ls.length ≤ 1000000) hLo (fun s hs => by obtain ⟨y, hy, rfl⟩ := List.mem_map.1 hs; exact (fun y hy => (hWm y hy).elim (hvs y) (hvsu y)) y hy)
    have hno : (zo.2 : List SX).length = W.length := by have := congrArg List.length hLo; simpa using this
    have hon : zo.2.length = n := by rw [hno, hWn]
    obtain ⟨q0, hq0⟩ := get_some (l := zo.2) (k := i) (by omega)
    have htk : (zp.2.take (i + 1)).map (fun x : SX => x.2) = (zo.2.take (i + 1)).map (fun x : SX => x.2) := by
      rw [List.map_take, List.map_take, hzp, hzo, ← List.map_take, ← List.map_take, hWt, List.take_take, Nat.min_eq_left (by omega)]
    refine RX.cons rfl rfl (op_w (yw_move rfl rfl) rfl rfl ?_)
    refine RX.cons rfl rfl (op_callE rfl rfl rfl rfl rfl ent_16 (fun w hw => w_prove zo.2 (hw.logAt (i := 0) rfl) hXlo (by omega) (hG.keep hw (by simp)) i q0 hq0) (fun zr _ => ?_))
    refine RX.cons rfl rfl (op_w (yw_move rfl rfl) rfl rfl ?_)
    refine RX.cons rfl rfl (op_w (yw_extract rfl rfl rfl) rfl rfl ?_)
    refine RX.cons rfl rfl (op_w (yw_extract rfl rfl rfl) rfl rfl ?_)
    refine RX.cons rfl rfl (op_alloc rfl rfl rfl zero_37 fun g11 => ?_)
    refine RX.cons rfl rfl (op_storeAll (i := 0) rfl rfl rfl rfl szt_37 rfl (plain_of rfl) rfl rfl ?_)
    refine RX.cons rfl rfl (op_w (yw_assign rfl rfl) rfl rfl ?_)
    refine RX.nil (XX.next (V' := [(7, .bool true), (10, .pointer (some ⟨g10, 0, none⟩)), (11, .int .i64 0), (12, .pointer (some ⟨g11, 0, none⟩)), (13, .int .i64 0)]) ⟨rfl, rfl, rfl, rfl, rfl, trivial⟩ ?_)
    refine CX.seq ?_
    refine CX.seq ?_
    refine CX.region ?_
    refine RX.cons rfl rfl (op_w (yw_move rfl rfl) rfl rfl ?_)
    refine RX.cons rfl rfl (op_w (yw_neq rfl rfl rfl) rfl rfl ?_)
    refine RX.know (t := 59) (u := .bool false) rfl (congrArg Value.bool (by decide)) ?_
    refine RX.cons rfl rfl (op_w (yw_move rfl rfl) rfl rfl ?_)
    refine RX.consG rfl rfl rfl rfl rfl (op_w (yw_move rfl rfl) rfl rfl ?_)
    refine RX.consG rfl rfl rfl rfl rfl (op_w (yw_neq rfl rfl rfl) rfl rfl ?_)
    refine RX.know (t := 62) (u := .bool false) rfl (congrArg Value.bool (by decide)) ?_
    refine RX.cons rfl rfl (op_w (yw_pickF rfl rfl rfl) rfl rfl ?_)
    refine RX.cons rfl rfl (op_w (yw_move rfl rfl) rfl rfl ?_)
    refine RX.consG rfl rfl rfl rfl rfl (op_w (yw_fieldAddr rfl fld_37_4 rfl) rfl rfl ?_)
    refine RX.consG rfl rfl rfl rfl rfl (op_yld (y_load (i := 4) rfl rfl one_35 rfl rfl) rfl rfl ?_)
    refine RX.consG rfl rfl rfl rfl rfl (op_w (yw_lenS rfl Tryd.underlying35 rfl) rfl rfl ?_)
    refine RX.consG rfl rfl rfl rfl rfl (op_w (yw_fieldAddr rfl fld_37_4 rfl) rfl rfl ?_)
    refine RX.consG rfl rfl rfl rfl rfl (op_yld (y_load (i := 0) rfl rfl one_35 rfl rfl) rfl rfl ?_)
    refine RX.consG rfl rfl rfl rfl rfl (op_w (yw_lenS rfl Tryd.underlying35 rfl) rfl rfl ?_)
    refine RX.consG rfl rfl rfl rfl rfl (op_w (yw_neq rfl rfl rfl) rfl rfl ?_)
    refine RX.know (t := 71) (u := .bool false) rfl (congrArg Value.bool (decide_eq_false (fun h => h (congrArg _ (path_same zp.2 zo.2 i (by omega)))))) ?_
    refine RX.cons rfl rfl (op_w (yw_pickF rfl rfl rfl) rfl rfl ?_)
    refine RX.cons rfl rfl (op_w (yw_move rfl rfl) rfl rfl ?_)
    refine RX.consG rfl rfl rfl rfl rfl (op_w (yw_fieldAddr rfl fld_37_4 rfl) rfl rfl ?_)
    refine RX.consG rfl rfl rfl rfl rfl (op_yld (y_load (i := 4) rfl rfl one_35 rfl rfl) rfl rfl ?_)
    refine RX.consG rfl rfl rfl rfl rfl (op_w (yw_lenS rfl Tryd.underlying35 rfl) rfl rfl ?_)
    refine RX.consG rfl rfl rfl rfl rfl (op_w (yw_gtr rfl rfl rfl) rfl rfl ?_)
    refine RX.know (t := 77) (u := .bool false) rfl (congrArg Value.bool (decide_eq_false (by have := path_len zp.2 i; omega))) ?_
    refine RX.cons rfl rfl (op_w (yw_pickF rfl rfl rfl) rfl rfl ?_)
    refine RX.cons rfl rfl (op_w (yw_move rfl rfl) rfl rfl ?_)
    refine RX.consG rfl rfl rfl rfl rfl (op_w (yw_fieldAddr rfl fld_37_3 rfl) rfl rfl ?_)
    refine RX.consG rfl rfl rfl rfl rfl (op_yld (y_load (i := 4) rfl rfl one_9 rfl rfl) rfl rfl ?_)
    refine RX.consG rfl rfl rfl rfl rfl (op_w (yw_fieldAddr rfl fld_37_3 rfl) rfl rfl ?_)
    refine RX.consG rfl rfl rfl rfl rfl (op_yld (y_load (i := 0) rfl rfl one_9 rfl rfl) rfl rfl ?_)
    refine RX.consG rfl rfl rfl rfl rfl (op_w (yw_strneq rfl rfl rfl) rfl rfl ?_)
    refine RX.know (t := 84) (u := .bool false) rfl (congrArg Value.bool (decide_eq_false (fun h => h (by rw [salt_of htk])))) ?_
    refine RX.cons rfl rfl (op_w (yw_pickF rfl rfl rfl) rfl rfl ?_)
    refine RX.cons rfl rfl (op_w (yw_move rfl rfl) rfl rfl ?_)
    refine RX.consG rfl rfl rfl rfl rfl (op_w (yw_fieldAddr rfl fld_37_3 rfl) rfl rfl ?_)
    refine RX.consG rfl rfl rfl rfl rfl (op_yld (y_load (i := 4) rfl rfl one_9 rfl rfl) rfl rfl ?_)
    refine RX.consG rfl rfl rfl rfl rfl (op_w (yw_lenStr rfl Tryd.underlying9 rfl) rfl rfl ?_)
    refine RX.consG rfl rfl rfl rfl rfl (op_w (yw_neq rfl rfl rfl) rfl rfl ?_)
    refine RX.know (t := 90) (u := .bool false) rfl (congrArg Value.bool (decide_eq_false (by rw [saltX_size]; decide))) ?_
    refine RX.cons rfl rfl (op_w (yw_pickF rfl rfl rfl) rfl rfl ?_)
    refine RX.nil (XX.next (V' := [(7, .bool true), (10, .pointer (some ⟨g10, 0, none⟩)), (12, .pointer (some ⟨g11, 0, none⟩)), (91, .bool false)]) ⟨rfl, rfl, rfl, rfl, trivial⟩ ?_)
    refine CX.condF rfl ?_
    refine CX.skip (XX.next (V' := [(7, .bool true), (10, .pointer (some ⟨g10, 0, none⟩)), (12, .pointer (some ⟨g11, 0, none⟩))]) ⟨rfl, rfl, rfl, trivial⟩ ?_)
    refine CX.seq ?_
    refine CX.seq ?_
    refine CX.region ?_
    refine RX.cons rfl rfl (op_w (yw_assign rfl rfl) rfl rfl ?_)
    refine RX.nil (XX.next (V' := [(7, .bool true), (10, .pointer (some ⟨g10, 0, none⟩)), (12, .pointer (some ⟨g11, 0, none⟩)), (14, .int .i64 0)]) ⟨rfl, rfl, rfl, rfl, trivial⟩ ?_)
    refine CX.block ?_
    refine CX.loop (σ := Nat) (fun j => [(7, .bool true), (10, .pointer (some ⟨g10, 0, none⟩)), (12, .pointer (some ⟨g11, 0, none⟩)), (14, .int .i64 ((j : Nat) : Int))]) (fun j => [.blk g11 (.cells (prC q0.2 i (List.length (zo.2 : List SX)) (saltX zo.2 i) ((path sum (entsX zo.2) i).reverse) zr) 37 (0, 0)), .row zr.1.1 zr.1.2 57 3 (List.map lnC (Stm.ls q0.2)), .row zr.2.1 zr.2.2 9 1 (List.map strC ((path sum (entsX zo.2) i).reverse)), logE zo.1.1 zo.1.2 zo.2, .blk g10 (.cells (prC x0.2 i (List.length (zp.2 : List SX)) (saltX zp.2 i) ((path sum (entsX zp.2) i).reverse) zq) 37 (0, 0)), .row zq.1.1 zq.1.2 57 3 (List.map lnC (Stm.ls x0.2)), .row zq.2.1 zq.2.2 9 1 (List.map strC ((path sum (entsX zp.2) i).reverse)), logE zp.1.1 zp.1.2 zp.2, .row A8 c8 34 3 (List.map stC W), .row zu.1.1 zu.1.2 34 3 (List.map stC zu.2), pack (lns zu.2), .row zv.1.1 zv.1.2 34 3 (List.map stC zv.2), pack (lns zv.2)]) (fun j => j ≤ ((path sum (entsX zp.2) i).reverse : List ByteArray).length) (fun j => ((path sum (entsX zp.2) i).reverse : List ByteArray).length - j) 0 (Nat.zero_le _) ⟨rfl, rfl, rfl, rfl, trivial⟩ rfl (fun j hI => ?_)
    refine CX.seq ?_
    refine CX.seq ?_
    refine CX.region ?_
    refine RX.cons rfl rfl (op_w (yw_move rfl rfl) rfl rfl ?_)
    refine RX.cons rfl rfl (op_w (yw_fieldAddr rfl fld_37_4 rfl) rfl rfl ?_)
    refine RX.cons rfl rfl (op_yld (y_load (i := 4) rfl rfl one_35 rfl rfl) rfl rfl ?_)
    refine RX.cons rfl rfl (op_w (yw_lenS rfl Tryd.underlying35 rfl) rfl rfl ?_)
    refine RX.cons rfl rfl (op_w (yw_lss rfl rfl rfl) rfl rfl ?_)
    refine RX.nil (XX.next (V' := [(7, .bool true), (10, .pointer (some ⟨g10, 0, none⟩)), (12, .pointer (some ⟨g11, 0, none⟩)), (14, .int .i64 ((j : Nat) : Int)), (96, .bool (decide (((j : Nat) : Int) < ((List.length ((path sum (entsX zp.2) i).reverse : List ByteArray) : Nat) : Int))))]) ⟨rfl, rfl, rfl, rfl, rfl, trivial⟩ ?_)
    refine CX.condD (p := ((j : Nat) : Int) < ((List.length ((path sum (entsX zp.2) i).reverse : List ByteArray) : Nat) : Int)) rfl (fun c96 => ?_) (fun c96 => ?_)
    · have hps := path_same zp.2 zo.2 i (by omega)
      have hpl := path_len zp.2 i
      obtain ⟨s0, hs0⟩ := get_some (l := (path sum (entsX zp.2) i).reverse) (k := j) (by omega)
      obtain ⟨s1, hs1⟩ := get_some (l := (path sum (entsX zo.2) i).reverse) (k := j) (by omega)
      have hs0z := (path_verifies (entsX_get hx0)).1 s0 (List.mem_of_getElem? hs0)
      have hs1z := (path_verifies (entsX_get hq0)).1 s1 (List.mem_of_getElem? hs1)
      refine CX.rowSome 6 rfl (by rw [List.length_map]; omega) (fun hA1 => ?_)
      refine CX.rowSome 2 rfl (by rw [List.length_map]; omega) (fun hA2 => ?_)
      refine CX.skip (XX.next (V' := [(7, .bool true), (10, .pointer (some ⟨g10, 0, none⟩)), (12, .pointer (some ⟨g11, 0, none⟩)), (14, .int .i64 ((j : Nat) : Int))]) ⟨rfl, rfl, rfl, rfl, trivial⟩ ?_)
      refine CX.seq ?_
      refine CX.block ?_
      refine CX.seq ?_
      refine CX.region ?_
      refine RX.cons rfl rfl (op_w (yw_fieldAddr rfl fld_37_4 rfl) rfl rfl ?_)
      refine RX.cons rfl rfl (op_yld (y_load (i := 4) rfl rfl one_35 rfl rfl) rfl rfl ?_)
      refine RX.cons rfl rfl (op_w (yw_move rfl rfl) rfl rfl ?_)
      refine RX.cons rfl rfl (op_w (yw_index (k := j) rfl slt_35 rfl rfl (by omega) (by omega) hA1) rfl rfl ?_)
      refine RX.cons rfl rfl (op_yld (y_rowElem1 (i := 6) rfl rfl one_9 rfl (map_get hs0)) rfl rfl ?_)
      refine RX.cons rfl rfl (op_w (yw_lenStr rfl Tryd.underlying9 rfl) rfl rfl ?_)
      refine RX.cons rfl rfl (op_w (yw_neq rfl rfl rfl) rfl rfl ?_)
      refine RX.know (t := 105) (u := .bool false) rfl (congrArg Value.bool (decide_eq_false (by omega))) ?_
      refine RX.cons rfl rfl (op_w (yw_move rfl rfl) rfl rfl ?_)
      refine RX.consG rfl rfl rfl rfl rfl (op_w (yw_fieldAddr rfl fld_37_4 rfl) rfl rfl ?_)
      refine RX.consG rfl rfl rfl rfl rfl (op_yld (y_load (i := 0) rfl rfl one_35 rfl rfl) rfl rfl ?_)
      refine RX.consG rfl rfl rfl rfl rfl (op_w (yw_move rfl rfl) rfl rfl ?_)
      refine RX.consG rfl rfl rfl rfl rfl (op_w (yw_index (k := j) rfl slt_35 rfl rfl (by omega) (by omega) hA2) rfl rfl ?_)
      refine RX.consG rfl rfl rfl rfl rfl (op_yld (y_rowElem1 (i := 2) rfl rfl one_9 rfl (map_get hs1)) rfl rfl ?_)
      refine RX.consG rfl rfl rfl rfl rfl (op_w (yw_lenStr rfl Tryd.underlying9 rfl) rfl rfl ?_)
      refine RX.consG rfl rfl rfl rfl rfl (op_w (yw_neq rfl rfl rfl) rfl rfl ?_)
      refine RX.know (t := 113) (u := .bool false) rfl (congrArg Value.bool (decide_eq_false (by omega))) ?_
      refine RX.cons rfl rfl (op_w (yw_pickF rfl rfl rfl) rfl rfl ?_)
      refine RX.nil (XX.next (V' := [(7, .bool true), (10, .pointer (some ⟨g10, 0, none⟩)), (12, .pointer (some ⟨g11, 0, none⟩)), (14, .int .i64 ((j : Nat) : Int)), (114, .bool false)]) ⟨rfl, rfl, rfl, rfl, rfl, trivial⟩ ?_)
      refine CX.condF rfl ?_
      refine CX.skip (XX.inBlock (V' := [(7, .bool true), (10, .pointer (some ⟨g10, 0, none⟩)), (12, .pointer (some ⟨g11, 0, none⟩)), (14, .int .i64 ((j : Nat) : Int))]) ⟨rfl, rfl, rfl, rfl, trivial⟩ ?_)
      refine XX.next (V' := [(7, .bool true), (10, .pointer (some ⟨g10, 0, none⟩)), (12, .pointer (some ⟨g11, 0, none⟩)), (14, .int .i64 ((j : Nat) : Int))]) ⟨rfl, rfl, rfl, rfl, trivial⟩ ?_
      refine CX.region ?_
      refine RX.cons rfl rfl (op_w (yw_move rfl rfl) rfl rfl ?_)
      refine RX.cons rfl rfl (op_w (yw_add rfl rfl rfl (by omega) (by omega)) rfl rfl ?_)
      refine RX.cons rfl rfl (op_w (yw_assign rfl rfl) rfl rfl ?_)
      refine RX.nil (XX.againP ([]) (j + 1) (by omega) (by omega) ⟨rfl, rfl, rfl, rfl, trivial⟩ ((perm_pick 0 rfl).trans (List.Perm.cons _ ((perm_pick 0 rfl).trans (List.Perm.cons _ ((perm_pick 0 rfl).trans (List.Perm.cons _ ((perm_pick 0 rfl).trans (List.Perm.cons _ ((perm_pick 0 rfl).trans (List.Perm.cons _ ((perm_pick 0 rfl).trans (List.Perm.cons _ ((perm_pick 0 rfl).trans (List.Perm.cons _ ((perm_pick 0 rfl).trans (List.Perm.cons _ ((perm_pick 0 rfl).trans (List.Perm.cons _ ((perm_pick 0 rfl).trans (List.Perm.cons _ ((perm_pick 0 rfl).trans (List.Perm.cons _ ((perm_pick 0 rfl).trans (List.Perm.cons _ ((perm_pick 0 rfl).trans (List.Perm.cons _ (List.Perm.refl _))))))))))))))))))))))))))))
    · refine CX.exit ?_
      refine XX.then_exit ?_
      refine XX.then_exit ?_
      refine XX.block_exit ?_
      refine XX.next (V' := [(7, .bool true), (10, .pointer (some ⟨g10, 0, none⟩)), (12, .pointer (some ⟨g11, 0, none⟩))]) ⟨rfl, rfl, rfl, trivial⟩ ?_
      refine CX.seq ?_
      refine CX.region ?_
      refine RX.cons rfl rfl (op_w (yw_move rfl rfl) rfl rfl ?_)
      refine RX.cons rfl rfl (op_w (yw_move rfl rfl) rfl rfl ?_)
      refine RX.consG rfl rfl rfl rfl rfl (op_w (yw_field0 rfl fld_37_0 rfl) rfl rfl ?_)
      refine RX.consG rfl rfl rfl rfl rfl (op_yld (y_loadP (i := 4) (vs := #[.int .i64 (Stm.h x0.2), .int .i64 (Stm.c x0.2), .slice zq.1.1 (List.length (Stm.ls x0.2)) zq.1.2]) rfl rfl agg_34 rfl rfl (fun k hk => by match k, hk with | 0, _ => rfl | 1, _ => rfl | 2, _ => rfl)) rfl rfl ?_)
      refine RX.consG rfl rfl rfl rfl rfl (op_w (yw_field0 rfl fld_37_0 rfl) rfl rfl ?_)
      refine RX.consG rfl rfl rfl rfl rfl (op_yld (y_loadP (i := 0) (vs := #[.int .i64 (Stm.h q0.2), .int .i64 (Stm.c q0.2), .slice zr.1.1 (List.length (Stm.ls q0.2)) zr.1.2]) rfl rfl agg_34 rfl rfl (fun k hk => by match k, hk with | 0, _ => rfl | 1, _ => rfl | 2, _ => rfl)) rfl rfl ?_)
      refine RX.consG rfl rfl rfl rfl rfl (op_callV (v := .bool (decide (x0.2 = q0.2))) rfl rfl rfl rfl rfl ent_17 (fun w hw => w_same x0.2 q0.2 (Ent.rd (hw.ents _ (List.mem_of_getElem? (i := 5) rfl))) (Ent.rd (hw.ents _ (List.mem_of_getElem? (i := 1) rfl))) (hXlp x0 (List.mem_of_getElem? hx0))) ?_)
      refine RX.know (t := 121) (u := .bool true) rfl (congrArg Value.bool (decide_eq_true (snd_of htk hx0 hq0))) ?_
      refine RX.cons rfl rfl (op_w (yw_pickT rfl rfl rfl) rfl rfl ?_)
      refine RX.cons rfl rfl (op_w (yw_assign rfl rfl) rfl rfl ?_)
      refine RX.nil (XX.next (V' := [(6, .bool true)]) ⟨rfl, trivial⟩ ?_)
      refine CX.ret ?_
      exact ret_tmp rfl rfl fun w1 hw => ⟨rfl, hw.sub (List.nil_sublist _)⟩

end Go.Proofs.YtnadipjlhlbfoaaDoor
