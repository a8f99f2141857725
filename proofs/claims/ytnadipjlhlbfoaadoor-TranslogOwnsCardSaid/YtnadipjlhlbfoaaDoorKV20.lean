/- Walks, printed by a program. -/
import Derived.Test.YtnadipjlhlbfoaaDoorK12
import Derived.Test.YtnadipjlhlbfoaaDoorKOps12
import Derived.Test.YtnadipjlhlbfoaaDoorKV18
namespace Go.Proofs.YtnadipjlhlbfoaaDoor
set_option linter.all false
open Go Go.RowKit
set_option maxRecDepth 100000
theorem szt_3 : SzT Tryd.prog 3 1 := ⟨(Tryd.prog.info? 3).get!, by kernel_rfl, by kernel_rfl⟩
theorem lns_in {Y : List SX} {i : Nat} {x : SX} (y : SX) (h : Y[i]? = some x) : (lns (Y.set i y)).Perm (.row y.1.1 y.1.2 57 3 (y.2.ls.map lnC) :: lns (Y.eraseIdx i)) := (set_perm y h).map (fun x : SX => Ent.row x.1.1 x.1.2 57 3 (x.2.ls.map lnC))
theorem lns_out {Y : List SX} {i : Nat} {x : SX} (h : Y[i]? = some x) : (lns Y).Perm (.row x.1.1 x.1.2 57 3 (x.2.ls.map lnC) :: lns (Y.eraseIdx i)) := by
  have h1 := lns_in x h
  have e : Y.set i x = Y := by
    obtain ⟨hi, h⟩ := List.getElem?_eq_some_iff.1 h
    subst h; exact List.set_getElem_self hi
  rwa [e] at h1
theorem short_set {Y : List SX} {i : Nat} {x y : SX} (h : ∀ y ∈ Y, y.2.ls.length ≤ 1000000) (hx : Y[i]? = some x) (hl : y.2.ls.length = x.2.ls.length) : ∀ u ∈ Y.set i y, u.2.ls.length ≤ 1000000 := by
  intro u hu
  rcases List.mem_or_eq_of_mem_set hu with hu | rfl
  · exact h u hu
  · rw [hl]; exact h x (List.mem_of_getElem? hx)
theorem set_ln {ls : List Ln} {k : Nat} {c : Array Value} {y : Ln} (h : c = lnC y) : (ls.map (fun x : Ln => lnC x)).set k c = (ls.set k y).map (fun x : Ln => lnC x) := by rw [List.map_set, h]
theorem set_st {Y : List SX} {i : Nat} {c : Array Value} {y : SX} (h : c = stC y) : (Y.map (fun x : SX => stC x)).set i c = (Y.set i y).map (fun x : SX => stC x) := by rw [List.map_set, h]
attribute [local irreducible] sum root entsX
set_option maxRecDepth 100000 in
theorem w_owns {w : World} {A : Option Addr} {cap : Nat} (X : List SX) (hr : Rd w A 3 (X.map stC)) (hX : ∀ x ∈ X, Rd w x.1.1 3 (x.2.ls.map lnC)) (hXc : ∀ x ∈ X, x.2.ls.length ≤ x.1.2) (hX8 : X.length ≤ 9223372036854775807) (hXl : ∀ x ∈ X, x.2.ls.length ≤ 9223372036854775807) (hG : Rounds w) (n : Int) :
    Calls Tryd.prog 8 #[.slice A X.length cap, .int .i64 n] w (fun e w' => e = .returned (.bool true) ∧ SL w [] w' []) := by
  refine calls_of_CX (O := []) (L := []) (args := [.slice A X.length cap, .int .i64 n]) Tryd.func8 rfl (by simp [Tryd.ntmps8]) (SL.refl w) ?_
  refine CX.sub (V' := [(0, .slice A X.length cap), (1, .int .i64 n)]) ⟨rfl, rfl, trivial⟩ ?_
  refine CX.seq ?_
  refine CX.region ?_
  refine RX.cons rfl rfl (op_w (yw_assign rfl rfl) rfl rfl ?_)
  refine RX.nil (XX.next (V' := [(0, .slice A X.length cap), (1, .int .i64 n)]) ⟨rfl, rfl, trivial⟩ ?_)
  refine CX.seq ?_
  refine CX.region ?_
  refine RX.cons rfl rfl (op_callV (v := .bool true) rfl rfl rfl rfl rfl ent_9 (fun w hw => w_sane (hG.keep hw (by simp))) ?_)
  refine RX.cons rfl rfl (op_w (yw_assign rfl rfl) rfl rfl ?_)
  refine RX.nil (XX.next (V' := [(0, .slice A X.length cap), (1, .int .i64 n), (5, .bool true)]) ⟨rfl, rfl, rfl, trivial⟩ ?_)
  refine CX.seq ?_
  refine CX.region ?_
  refine RX.cons rfl rfl (op_w (yw_move rfl rfl) rfl rfl ?_)
  refine RX.cons rfl rfl (op_callE rfl rfl rfl rfl rfl ent_10 (fun w hw => w_validX X (hw.rd hr (by simp)) (fun x hx => hw.rd (hX x hx) (by simp)) hXc hX8 hXl 12 (by decide)) (fun zv hzv => ?_))
  have hvs := of_snd (p := fun s => s.ls.length ≤ 1000000) hzv (fun s hs => by have := valL_short X 12 s hs; omega)
  have hvo := of_snd (p := fun s => okS s = true) hzv (valL_ok X 12)
  have hvn : zv.2.length ≤ 12 := by rw [len_snd hzv]; exact valL_length X 12
  have hv8 := of_snd (p := fun s => s.ls.length ≤ 8) hzv (valL_short X 12)
  refine RX.cons rfl rfl (op_w (yw_assign rfl rfl) rfl rfl ?_)
  refine RX.nil (XX.next (V' := [(0, .slice zv.1.1 zv.2.length zv.1.2), (1, .int .i64 n), (5, .bool true)]) ⟨rfl, rfl, rfl, trivial⟩ ?_)
  refine CX.seq ?_
  refine CX.region ?_
  refine RX.cons rfl rfl (op_w (yw_move rfl rfl) rfl rfl ?_)
  refine RX.cons rfl rfl (op_callE rfl rfl rfl rfl rfl ent_21 (fun w hw => w_cut zv.2 (Ent.rd (hw.ents _ (List.mem_of_getElem? (i := 0) rfl))) (lnsRd hw (i := 1) rfl) (lnsCap hw (i := 1) rfl) (by omega) (fun x hx => by have := hvs x hx; omega) 12 (by decide)) (fun zk hzk => ?_))
  have hkv : zk.2.map (fun x : SX => x.2) = zv.2.map (fun x : SX => x.2) := by rw [hzk, cutL_id hv8 hvn]
  have hks := of_snd (p := fun s => s.ls.length ≤ 8 ∧ okS s = true) hkv (fun s hs => by obtain ⟨y, hy, rfl⟩ := List.mem_map.1 hs; exact ⟨hv8 y hy, hvo y hy⟩)
  have hkn : zk.2.length = zv.2.length := by have := congrArg List.length hkv; simpa using this
  refine RX.cons rfl rfl (op_w (yw_assign rfl rfl) rfl rfl ?_)
  refine RX.nil (XX.next (V' := [(0, .slice zv.1.1 zv.2.length zv.1.2), (1, .int .i64 n), (5, .bool true), (6, .slice zk.1.1 zk.2.length zk.1.2)]) ⟨rfl, rfl, rfl, rfl, trivial⟩ ?_)
  refine CX.seq ?_
  refine CX.region ?_
  refine RX.cons rfl rfl (op_w (yw_move rfl rfl) rfl rfl ?_)
  refine RX.cons rfl rfl (op_callE rfl rfl rfl rfl rfl ent_19 (fun w hw => w_logged zk.2 (Ent.rd (hw.ents _ (List.mem_of_getElem? (i := 0) rfl))) (lnsRd hw (i := 1) rfl) (fun x hx => by have := (hks x hx).1; omega) (by omega) (hG.keep hw (by simp)) (fun x hx => (hks x hx).2)) (fun zl hzl => ?_))
  have hL0 : (zl.2 : List SX).map (fun x : SX => x.2) = zv.2.map (fun x : SX => x.2) := (hzl.trans hkv)
  have hXl0 := of_snd (p := fun s => s.ls.length ≤ 1000000) hL0 (fun s hs => by obtain ⟨y, hy, rfl⟩ := List.mem_map.1 hs; exact hvs y hy)
  have hn0 : (zl.2 : List SX).length = zv.2.length := by have := congrArg List.length hL0; simpa using this
  refine RX.cons rfl rfl (op_w (yw_assign rfl rfl) rfl rfl ?_)
  refine RX.nil (XX.next (V' := [(0, .slice zv.1.1 zv.2.length zv.1.2), (1, .int .i64 n), (5, .bool true), (6, .slice zk.1.1 zk.2.length zk.1.2), (7, .pointer (some ⟨zl.1.1, 0, none⟩))]) ⟨rfl, rfl, rfl, rfl, rfl, trivial⟩ ?_)
  refine CX.seq ?_
  refine CX.region ?_
  refine RX.cons rfl rfl (op_w (yw_move rfl rfl) rfl rfl ?_)
  refine RX.cons rfl rfl (op_callV (v := .string (root sum (entsX zl.2))) rfl rfl rfl rfl rfl ent_15 (fun w hw => w_rootE zl.2 (hw.logAt (i := 0) rfl) hXl0 (by omega) (hG.keep hw (by simp))) ?_)
  refine RX.cons rfl rfl (op_w (yw_assign rfl rfl) rfl rfl ?_)
  refine RX.nil (XX.next (V' := [(0, .slice zv.1.1 zv.2.length zv.1.2), (1, .int .i64 n), (5, .bool true), (6, .slice zk.1.1 zk.2.length zk.1.2), (7, .pointer (some ⟨zl.1.1, 0, none⟩)), (8, .string (root sum (entsX zl.2)))]) ⟨rfl, rfl, rfl, rfl, rfl, rfl, trivial⟩ ?_)
  refine CX.seq ?_
  refine CX.seq ?_
  refine CX.region ?_
  refine RX.cons rfl rfl (op_w (yw_assign rfl rfl) rfl rfl ?_)
  refine RX.nil (XX.next (V' := [(0, .slice zv.1.1 zv.2.length zv.1.2), (1, .int .i64 n), (5, .bool true), (6, .slice zk.1.1 zk.2.length zk.1.2), (7, .pointer (some ⟨zl.1.1, 0, none⟩)), (8, .string (root sum (entsX zl.2))), (9, .int .i64 0)]) ⟨rfl, rfl, rfl, rfl, rfl, rfl, rfl, trivial⟩ ?_)
  refine CX.block ?_
  refine CX.loop (σ := Nat × List SX) (fun z => [(0, .slice zv.1.1 zv.2.length zv.1.2), (1, .int .i64 n), (5, .bool true), (6, .slice zk.1.1 zk.2.length zk.1.2), (7, .pointer (some ⟨zl.1.1, 0, none⟩)), (8, .string (root sum (entsX zl.2))), (9, .int .i64 ((z.1 : Nat) : Int))]) (fun z => [logE zl.1.1 zl.1.2 zl.2, .row zk.1.1 zk.1.2 34 3 (List.map stC z.2), pack (lns z.2), .row zv.1.1 zv.1.2 34 3 (List.map stC zv.2), pack (lns zv.2)]) (fun z => z.1 ≤ zk.2.length ∧ z.2.length = zk.2.length ∧ ∀ y ∈ z.2, y.2.ls.length ≤ 1000000) (fun z => zk.2.length - z.1) (0, zk.2) ⟨Nat.zero_le _, rfl, (fun y hy => by have := (hks y hy).1; omega)⟩ ⟨rfl, rfl, rfl, rfl, rfl, rfl, rfl, trivial⟩ rfl (fun z hI => ?_)
  obtain ⟨i, Y⟩ := z
  dsimp only at hI ⊢
  obtain ⟨hi, hYn, hYb⟩ := hI
  refine CX.seq ?_
  refine CX.seq ?_
  refine CX.region ?_
  refine RX.cons rfl rfl (op_w (yw_move rfl rfl) rfl rfl ?_)
  refine RX.cons rfl rfl (op_w (yw_move rfl rfl) rfl rfl ?_)
  refine RX.cons rfl rfl (op_w (yw_lenS rfl Tryd.underlying22 rfl) rfl rfl ?_)
  refine RX.cons rfl rfl (op_w (yw_lss rfl rfl rfl) rfl rfl ?_)
  refine RX.nil (XX.next (V' := [(0, .slice zv.1.1 zv.2.length zv.1.2), (1, .int .i64 n), (5, .bool true), (6, .slice zk.1.1 zk.2.length zk.1.2), (7, .pointer (some ⟨zl.1.1, 0, none⟩)), (8, .string (root sum (entsX zl.2))), (9, .int .i64 ((i : Nat) : Int)), (35, .bool (decide (((i : Nat) : Int) < ((zk.2.length : Nat) : Int))))]) ⟨rfl, rfl, rfl, rfl, rfl, rfl, rfl, rfl, trivial⟩ ?_)
  refine CX.condD (p := ((i : Nat) : Int) < ((zk.2.length : Nat) : Int)) rfl (fun c35 => ?_) (fun c35 => ?_)
  · obtain ⟨x0, hx0⟩ := get_some (l := Y) (k := i) (by omega)
    have hxb := hYb x0 (List.mem_of_getElem? hx0)
    refine CX.rowSome 1 rfl (by rw [List.length_map]; omega) (fun hAc => ?_)
    refine CX.skip (XX.next (V' := [(0, .slice zv.1.1 zv.2.length zv.1.2), (1, .int .i64 n), (5, .bool true), (6, .slice zk.1.1 zk.2.length zk.1.2), (7, .pointer (some ⟨zl.1.1, 0, none⟩)), (8, .string (root sum (entsX zl.2))), (9, .int .i64 ((i : Nat) : Int))]) ⟨rfl, rfl, rfl, rfl, rfl, rfl, rfl, trivial⟩ ?_)
    refine CX.seq ?_
    refine CX.block ?_
    refine CX.seq ?_
    refine CX.seq ?_
    refine CX.packOut (L' := [logE zl.1.1 zl.1.2 zl.2, .row zk.1.1 zk.1.2 34 3 (List.map stC Y), .row zv.1.1 zv.1.2 34 3 (List.map stC zv.2), pack (lns zv.2)]) ((perm_pick 2 rfl).trans (List.Perm.cons _ (List.Perm.refl _))) (lns_out hx0) ?_
    refine CX.region ?_
    refine RX.cons rfl rfl (op_w (yw_assign rfl rfl) rfl rfl ?_)
    refine RX.nil (XX.next (V' := [(0, .slice zv.1.1 zv.2.length zv.1.2), (1, .int .i64 n), (5, .bool true), (6, .slice zk.1.1 zk.2.length zk.1.2), (7, .pointer (some ⟨zl.1.1, 0, none⟩)), (8, .string (root sum (entsX zl.2))), (9, .int .i64 ((i : Nat) : Int)), (10, .int .i64 0)]) ⟨rfl, rfl, rfl, rfl, rfl, rfl, rfl, rfl, trivial⟩ ?_)
    refine CX.block ?_
    refine CX.loop (σ := Nat × List Ln) (fun z => [(0, .slice zv.1.1 zv.2.length zv.1.2), (1, .int .i64 n), (5, .bool true), (6, .slice zk.1.1 zk.2.length zk.1.2), (7, .pointer (some ⟨zl.1.1, 0, none⟩)), (8, .string (root sum (entsX zl.2))), (9, .int .i64 ((i : Nat) : Int)), (10, .int .i64 ((z.1 : Nat) : Int))]) (fun z => [.row x0.1.1 x0.1.2 57 3 (List.map lnC z.2), pack (lns (List.eraseIdx Y i)), logE zl.1.1 zl.1.2 zl.2, .row zk.1.1 zk.1.2 34 3 (List.map stC Y), .row zv.1.1 zv.1.2 34 3 (List.map stC zv.2), pack (lns zv.2)]) (fun z => z.1 ≤ (Stm.ls x0.2).length ∧ z.2.length = (Stm.ls x0.2).length) (fun z => (Stm.ls x0.2).length - z.1) (0, Stm.ls x0.2) ⟨Nat.zero_le _, rfl⟩ ⟨rfl, rfl, rfl, rfl, rfl, rfl, rfl, rfl, trivial⟩ rfl (fun z hI => ?_)
    obtain ⟨k, ls⟩ := z
    dsimp only at hI ⊢
    obtain ⟨hk, hls⟩ := hI
    refine CX.seq ?_
    refine CX.seq ?_
    refine CX.region ?_
    refine RX.cons rfl rfl (op_w (yw_move rfl rfl) rfl rfl ?_)
    refine RX.cons rfl rfl (op_w (yw_move rfl rfl) rfl rfl ?_)
    refine RX.cons rfl rfl (op_w (yw_move rfl rfl) rfl rfl ?_)
    refine RX.cons rfl rfl (op_w (yw_index (k := i) rfl slt_22 rfl rfl (by omega) (by omega) hAc) rfl rfl ?_)
    refine RX.cons rfl rfl (op_w (yw_fieldAddr rfl fld_34_2 rfl) rfl rfl ?_)
    refine RX.cons rfl rfl (op_yld (y_rowElemF (i := 3) rfl rfl one_32 rfl (map_get hx0) rfl) rfl rfl ?_)
    refine RX.cons rfl rfl (op_w (yw_lenS rfl Tryd.underlying32 rfl) rfl rfl ?_)
    refine RX.cons rfl rfl (op_w (yw_lss rfl rfl rfl) rfl rfl ?_)
    refine RX.nil (XX.next (V' := [(0, .slice zv.1.1 zv.2.length zv.1.2), (1, .int .i64 n), (5, .bool true), (6, .slice zk.1.1 zk.2.length zk.1.2), (7, .pointer (some ⟨zl.1.1, 0, none⟩)), (8, .string (root sum (entsX zl.2))), (9, .int .i64 ((i : Nat) : Int)), (10, .int .i64 ((k : Nat) : Int)), (45, .bool (decide (((k : Nat) : Int) < ((List.length (Stm.ls x0.2) : Nat) : Int))))]) ⟨rfl, rfl, rfl, rfl, rfl, rfl, rfl, rfl, rfl, trivial⟩ ?_)
    refine CX.condD (p := ((k : Nat) : Int) < ((List.length (Stm.ls x0.2) : Nat) : Int)) rfl (fun c45 => ?_) (fun c45 => ?_)
    · obtain ⟨y0, hy0⟩ := get_some (l := ls) (k := k) (by omega)
      refine CX.rowSome 0 rfl (by rw [List.length_map]; omega) (fun hAl => ?_)
      refine CX.skip (XX.next (V' := [(0, .slice zv.1.1 zv.2.length zv.1.2), (1, .int .i64 n), (5, .bool true), (6, .slice zk.1.1 zk.2.length zk.1.2), (7, .pointer (some ⟨zl.1.1, 0, none⟩)), (8, .string (root sum (entsX zl.2))), (9, .int .i64 ((i : Nat) : Int)), (10, .int .i64 ((k : Nat) : Int))]) ⟨rfl, rfl, rfl, rfl, rfl, rfl, rfl, rfl, trivial⟩ ?_)
      refine CX.seq ?_
      refine CX.block ?_
      refine CX.region ?_
      refine RX.cons rfl rfl (op_w (yw_move rfl rfl) rfl rfl ?_)
      refine RX.cons rfl rfl (op_w (yw_move rfl rfl) rfl rfl ?_)
      refine RX.cons rfl rfl (op_w (yw_index (k := i) rfl slt_22 rfl rfl (by omega) (by omega) hAc) rfl rfl ?_)
      refine RX.cons rfl rfl (op_w (yw_fieldAddr rfl fld_34_2 rfl) rfl rfl ?_)
      refine RX.cons rfl rfl (op_yld (y_rowElemF (i := 3) rfl rfl one_32 rfl (map_get hx0) rfl) rfl rfl ?_)
      refine RX.cons rfl rfl (op_w (yw_move rfl rfl) rfl rfl ?_)
      refine RX.cons rfl rfl (op_w (yw_index (k := k) rfl slt_32 rfl rfl (by omega) (by omega) hAl) rfl rfl ?_)
      refine RX.cons rfl rfl (op_w (yw_fieldAddr rfl fld_57_2 rfl) rfl rfl ?_)
      refine RX.cons rfl rfl (op_yld (y_rowElemF (i := 0) rfl rfl one_3 rfl (map_get hy0) rfl) rfl rfl ?_)
      refine RX.cons rfl rfl (op_w (yw_addw rfl rfl rfl) rfl rfl ?_)
      refine RX.cons rfl rfl (op_w (yw_index (k := k) rfl slt_32 rfl rfl (by omega) (by omega) hAl) rfl rfl ?_)
      refine RX.cons rfl rfl (op_w (yw_fieldAddr rfl fld_57_2 rfl) rfl rfl ?_)
      refine RX.cons rfl rfl (op_storeElemF (j := 2) (i := 0) (ys := List.map lnC (List.set ls k (⟨Ln.p y0, Ln.b y0, IntKind.i64.wrap (Ln.a y0 + 1)⟩ : Ln))) rfl rfl rfl rfl szt_3 rfl rfl rfl (map_get hy0) (by decide) (set_ln rfl) ?_)
      refine RX.nil (XX.inBlock (V' := [(0, .slice zv.1.1 zv.2.length zv.1.2), (1, .int .i64 n), (5, .bool true), (6, .slice zk.1.1 zk.2.length zk.1.2), (7, .pointer (some ⟨zl.1.1, 0, none⟩)), (8, .string (root sum (entsX zl.2))), (9, .int .i64 ((i : Nat) : Int)), (10, .int .i64 ((k : Nat) : Int))]) ⟨rfl, rfl, rfl, rfl, rfl, rfl, rfl, rfl, trivial⟩ ?_)
      refine XX.next (V' := [(0, .slice zv.1.1 zv.2.length zv.1.2), (1, .int .i64 n), (5, .bool true), (6, .slice zk.1.1 zk.2.length zk.1.2), (7, .pointer (some ⟨zl.1.1, 0, none⟩)), (8, .string (root sum (entsX zl.2))), (9, .int .i64 ((i : Nat) : Int)), (10, .int .i64 ((k : Nat) : Int))]) ⟨rfl, rfl, rfl, rfl, rfl, rfl, rfl, rfl, trivial⟩ ?_
      refine CX.region ?_
      refine RX.cons rfl rfl (op_w (yw_move rfl rfl) rfl rfl ?_)
      refine RX.cons rfl rfl (op_w (yw_add rfl rfl rfl (by omega) (by omega)) rfl rfl ?_)
      refine RX.cons rfl rfl (op_w (yw_assign rfl rfl) rfl rfl ?_)
      refine RX.nil (XX.againP ([]) (k + 1, List.set ls k (⟨Ln.p y0, Ln.b y0, IntKind.i64.wrap (Ln.a y0 + 1)⟩ : Ln)) (by dsimp only; omega) ⟨by dsimp only; omega, by dsimp only; rw [List.length_set]; exact hls⟩ ⟨rfl, rfl, rfl, rfl, rfl, rfl, rfl, rfl, trivial⟩ ((perm_pick 0 rfl).trans (List.Perm.cons _ ((perm_pick 0 rfl).trans (List.Perm.cons _ ((perm_pick 0 rfl).trans (List.Perm.cons _ ((perm_pick 0 rfl).trans (List.Perm.cons _ ((perm_pick 0 rfl).trans (List.Perm.cons _ ((perm_pick 0 rfl).trans (List.Perm.cons _ (List.Perm.refl _))))))))))))))
    · refine CX.exit ?_
      refine XX.then_exit ?_
      refine XX.then_exit ?_
      refine XX.block_exit ?_
      refine XX.next (V' := [(0, .slice zv.1.1 zv.2.length zv.1.2), (1, .int .i64 n), (5, .bool true), (6, .slice zk.1.1 zk.2.length zk.1.2), (7, .pointer (some ⟨zl.1.1, 0, none⟩)), (8, .string (root sum (entsX zl.2))), (9, .int .i64 ((i : Nat) : Int))]) ⟨rfl, rfl, rfl, rfl, rfl, rfl, rfl, trivial⟩ ?_
      refine CX.region ?_
      refine RX.cons rfl rfl (op_w (yw_move rfl rfl) rfl rfl ?_)
      refine RX.cons rfl rfl (op_w (yw_move rfl rfl) rfl rfl ?_)
      refine RX.cons rfl rfl (op_w (yw_index (k := i) rfl slt_22 rfl rfl (by omega) (by omega) hAc) rfl rfl ?_)
      refine RX.cons rfl rfl (op_w (yw_field0 rfl fld_34_0 rfl) rfl rfl ?_)
      refine RX.cons rfl rfl (op_yld (y_rowElemF (j := 0) (i := 3) rfl rfl one_3 rfl (map_get hx0) rfl) rfl rfl ?_)
      refine RX.cons rfl rfl (op_w (yw_addw rfl rfl rfl) rfl rfl ?_)
      refine RX.cons rfl rfl (op_w (yw_index (k := i) rfl slt_22 rfl rfl (by omega) (by omega) hAc) rfl rfl ?_)
      refine RX.cons rfl rfl (op_w (yw_field0 rfl fld_34_0 rfl) rfl rfl ?_)
      refine RX.cons rfl rfl (op_storeElemF (j := 0) (i := 3) (ys := List.map stC (List.set Y i (((x0.1, ⟨IntKind.i64.wrap (Stm.h x0.2 + 1), Stm.c x0.2, ls⟩) : SX)))) rfl rfl rfl rfl szt_3 rfl rfl rfl (map_get hx0) (by decide) (set_st (by simp [stC, hls])) ?_)
      refine RX.nil (XX.inBlock (V' := [(0, .slice zv.1.1 zv.2.length zv.1.2), (1, .int .i64 n), (5, .bool true), (6, .slice zk.1.1 zk.2.length zk.1.2), (7, .pointer (some ⟨zl.1.1, 0, none⟩)), (8, .string (root sum (entsX zl.2))), (9, .int .i64 ((i : Nat) : Int))]) ⟨rfl, rfl, rfl, rfl, rfl, rfl, rfl, trivial⟩ ?_)
      refine XX.next (V' := [(0, .slice zv.1.1 zv.2.length zv.1.2), (1, .int .i64 n), (5, .bool true), (6, .slice zk.1.1 zk.2.length zk.1.2), (7, .pointer (some ⟨zl.1.1, 0, none⟩)), (8, .string (root sum (entsX zl.2))), (9, .int .i64 ((i : Nat) : Int))]) ⟨rfl, rfl, rfl, rfl, rfl, rfl, rfl, trivial⟩ ?_
      refine CX.packIn (L' := [logE zl.1.1 zl.1.2 zl.2, .row zk.1.1 zk.1.2 34 3 (List.map stC (List.set Y i (((x0.1, ⟨IntKind.i64.wrap (Stm.h x0.2 + 1), Stm.c x0.2, ls⟩) : SX)))), .row zv.1.1 zv.1.2 34 3 (List.map stC zv.2), pack (lns zv.2)]) ((perm_pick 0 rfl).trans (List.Perm.cons _ ((perm_pick 0 rfl).trans (List.Perm.cons _ (List.Perm.refl _))))) (lns_in (((x0.1, ⟨IntKind.i64.wrap (Stm.h x0.2 + 1), Stm.c x0.2, ls⟩) : SX)) hx0) ?_
      refine CX.region ?_
      refine RX.cons rfl rfl (op_w (yw_move rfl rfl) rfl rfl ?_)
      refine RX.cons rfl rfl (op_w (yw_add rfl rfl rfl (by omega) (by omega)) rfl rfl ?_)
      refine RX.cons rfl rfl (op_w (yw_assign rfl rfl) rfl rfl ?_)
      refine RX.nil (XX.againP ([]) (i + 1, List.set Y i (((x0.1, ⟨IntKind.i64.wrap (Stm.h x0.2 + 1), Stm.c x0.2, ls⟩) : SX))) (by dsimp only; omega) ⟨by dsimp only; omega, by dsimp only; rw [List.length_set]; exact hYn, short_set hYb hx0 hls⟩ ⟨rfl, rfl, rfl, rfl, rfl, rfl, rfl, trivial⟩ ((perm_pick 1 rfl).trans (List.Perm.cons _ ((perm_pick 1 rfl).trans (List.Perm.cons _ ((perm_pick 0 rfl).trans (List.Perm.cons _ ((perm_pick 0 rfl).trans (List.Perm.cons _ ((perm_pick 0 rfl).trans (List.Perm.cons _ (List.Perm.refl _))))))))))))
  · refine CX.exit ?_
    refine XX.then_exit ?_
    refine XX.then_exit ?_
    refine XX.block_exit ?_
    refine XX.next (V' := [(0, .slice zv.1.1 zv.2.length zv.1.2), (1, .int .i64 n), (5, .bool true), (7, .pointer (some ⟨zl.1.1, 0, none⟩)), (8, .string (root sum (entsX zl.2)))]) ⟨rfl, rfl, rfl, rfl, rfl, trivial⟩ ?_
    refine CX.seq ?_
    refine CX.region ?_
    refine RX.cons rfl rfl (op_w (yw_move rfl rfl) rfl rfl ?_)
    refine RX.cons rfl rfl (op_callE rfl rfl rfl rfl rfl ent_14 (fun w hw => w_stmtsE zl.2 (hw.logAt (i := 0) rfl) hXl0 (by omega)) (fun zs hzs => ?_))
    have hsn : zs.2.length = zl.2.length := by rw [len_snd hzs, List.length_map]
    refine RX.cons rfl rfl (op_w (yw_assign rfl rfl) rfl rfl ?_)
    refine RX.nil (XX.next (V' := [(0, .slice zv.1.1 zv.2.length zv.1.2), (1, .int .i64 n), (5, .bool true), (7, .pointer (some ⟨zl.1.1, 0, none⟩)), (8, .string (root sum (entsX zl.2))), (11, .slice zs.1.1 zs.2.length zs.1.2)]) ⟨rfl, rfl, rfl, rfl, rfl, rfl, trivial⟩ ?_)
    refine CX.seq ?_
    refine CX.seq ?_
    refine CX.region ?_
    refine RX.cons rfl rfl (op_w (yw_assign rfl rfl) rfl rfl ?_)
    refine RX.nil (XX.next (V' := [(0, .slice zv.1.1 zv.2.length zv.1.2), (1, .int .i64 n), (5, .bool true), (7, .pointer (some ⟨zl.1.1, 0, none⟩)), (8, .string (root sum (entsX zl.2))), (11, .slice zs.1.1 zs.2.length zs.1.2), (12, .int .i64 0)]) ⟨rfl, rfl, rfl, rfl, rfl, rfl, rfl, trivial⟩ ?_)
    refine CX.block ?_
    refine CX.loop (σ := Nat × List SX) (fun z => [(0, .slice zv.1.1 zv.2.length zv.1.2), (1, .int .i64 n), (5, .bool true), (7, .pointer (some ⟨zl.1.1, 0, none⟩)), (8, .string (root sum (entsX zl.2))), (11, .slice zs.1.1 zs.2.length zs.1.2), (12, .int .i64 ((z.1 : Nat) : Int))]) (fun z => [.row zs.1.1 zs.1.2 34 3 (List.map stC z.2), pack (lns z.2), logE zl.1.1 zl.1.2 zl.2, .row zk.1.1 zk.1.2 34 3 (List.map stC Y), pack (lns Y), .row zv.1.1 zv.1.2 34 3 (List.map stC zv.2), pack (lns zv.2)]) (fun z => z.1 ≤ zs.2.length ∧ z.2.length = zs.2.length ∧ ∀ y ∈ z.2, y.2.ls.length ≤ 1000000) (fun z => zs.2.length - z.1) (0, zs.2) ⟨Nat.zero_le _, rfl, (of_snd (p := fun s => s.ls.length ≤ 1000000) hzs (fun s hs => by obtain ⟨y, hy, rfl⟩ := List.mem_map.1 hs; exact hXl0 y hy))⟩ ⟨rfl, rfl, rfl, rfl, rfl, rfl, rfl, trivial⟩ rfl (fun z hI => ?_)
    obtain ⟨i, U⟩ := z
    dsimp only at hI ⊢
    obtain ⟨hi, hYn, hYb⟩ := hI
    refine CX.seq ?_
    refine CX.seq ?_
    refine CX.region ?_
    refine RX.cons rfl rfl (op_w (yw_move rfl rfl) rfl rfl ?_)
    refine RX.cons rfl rfl (op_w (yw_move rfl rfl) rfl rfl ?_)
    refine RX.cons rfl rfl (op_w (yw_lenS rfl Tryd.underlying22 rfl) rfl rfl ?_)
    refine RX.cons rfl rfl (op_w (yw_lss rfl rfl rfl) rfl rfl ?_)
    refine RX.nil (XX.next (V' := [(0, .slice zv.1.1 zv.2.length zv.1.2), (1, .int .i64 n), (5, .bool true), (7, .pointer (some ⟨zl.1.1, 0, none⟩)), (8, .string (root sum (entsX zl.2))), (11, .slice zs.1.1 zs.2.length zs.1.2), (12, .int .i64 ((i : Nat) : Int)), (73, .bool (decide (((i : Nat) : Int) < ((zs.2.length : Nat) : Int))))]) ⟨rfl, rfl, rfl, rfl, rfl, rfl, rfl, rfl, trivial⟩ ?_)
    refine CX.condD (p := ((i : Nat) : Int) < ((zs.2.length : Nat) : Int)) rfl (fun c73 => ?_) (fun c73 => ?_)
    · obtain ⟨u0, hu0⟩ := get_some (l := U) (k := i) (by omega)
      have hxb := hYb u0 (List.mem_of_getElem? hu0)
      refine CX.rowSome 0 rfl (by rw [List.length_map]; omega) (fun hAc => ?_)
      refine CX.skip (XX.next (V' := [(0, .slice zv.1.1 zv.2.length zv.1.2), (1, .int .i64 n), (5, .bool true), (7, .pointer (some ⟨zl.1.1, 0, none⟩)), (8, .string (root sum (entsX zl.2))), (11, .slice zs.1.1 zs.2.length zs.1.2), (12, .int .i64 ((i : Nat) : Int))]) ⟨rfl, rfl, rfl, rfl, rfl, rfl, rfl, trivial⟩ ?_)
      refine CX.seq ?_
      refine CX.block ?_
      refine CX.seq ?_
      refine CX.seq ?_
      refine CX.packOut (L' := [.row zs.1.1 zs.1.2 34 3 (List.map stC U), logE zl.1.1 zl.1.2 zl.2, .row zk.1.1 zk.1.2 34 3 (List.map stC Y), pack (lns Y), .row zv.1.1 zv.1.2 34 3 (List.map stC zv.2), pack (lns zv.2)]) ((perm_pick 1 rfl).trans (List.Perm.cons _ (List.Perm.refl _))) (lns_out hu0) ?_
      refine CX.region ?_
      refine RX.cons rfl rfl (op_w (yw_assign rfl rfl) rfl rfl ?_)
      refine RX.nil (XX.next (V' := [(0, .slice zv.1.1 zv.2.length zv.1.2), (1, .int .i64 n), (5, .bool true), (7, .pointer (some ⟨zl.1.1, 0, none⟩)), (8, .string (root sum (entsX zl.2))), (11, .slice zs.1.1 zs.2.length zs.1.2), (12, .int .i64 ((i : Nat) : Int)), (13, .int .i64 0)]) ⟨rfl, rfl, rfl, rfl, rfl, rfl, rfl, rfl, trivial⟩ ?_)
      refine CX.block ?_
      refine CX.loop (σ := Nat × List Ln) (fun z => [(0, .slice zv.1.1 zv.2.length zv.1.2), (1, .int .i64 n), (5, .bool true), (7, .pointer (some ⟨zl.1.1, 0, none⟩)), (8, .string (root sum (entsX zl.2))), (11, .slice zs.1.1 zs.2.length zs.1.2), (12, .int .i64 ((i : Nat) : Int)), (13, .int .i64 ((z.1 : Nat) : Int))]) (fun z => [.row u0.1.1 u0.1.2 57 3 (List.map lnC z.2), pack (lns (List.eraseIdx U i)), .row zs.1.1 zs.1.2 34 3 (List.map stC U), logE zl.1.1 zl.1.2 zl.2, .row zk.1.1 zk.1.2 34 3 (List.map stC Y), pack (lns Y), .row zv.1.1 zv.1.2 34 3 (List.map stC zv.2), pack (lns zv.2)]) (fun z => z.1 ≤ (Stm.ls u0.2).length ∧ z.2.length = (Stm.ls u0.2).length) (fun z => (Stm.ls u0.2).length - z.1) (0, Stm.ls u0.2) ⟨Nat.zero_le _, rfl⟩ ⟨rfl, rfl, rfl, rfl, rfl, rfl, rfl, rfl, trivial⟩ rfl (fun z hI => ?_)
      obtain ⟨k, ls⟩ := z
      dsimp only at hI ⊢
      obtain ⟨hk, hls⟩ := hI
      refine CX.seq ?_
      refine CX.seq ?_
      refine CX.region ?_
      refine RX.cons rfl rfl (op_w (yw_move rfl rfl) rfl rfl ?_)
      refine RX.cons rfl rfl (op_w (yw_move rfl rfl) rfl rfl ?_)
      refine RX.cons rfl rfl (op_w (yw_move rfl rfl) rfl rfl ?_)
      refine RX.cons rfl rfl (op_w (yw_index (k := i) rfl slt_22 rfl rfl (by omega) (by omega) hAc) rfl rfl ?_)
      refine RX.cons rfl rfl (op_w (yw_fieldAddr rfl fld_34_2 rfl) rfl rfl ?_)
      refine RX.cons rfl rfl (op_yld (y_rowElemF (i := 2) rfl rfl one_32 rfl (map_get hu0) rfl) rfl rfl ?_)
      refine RX.cons rfl rfl (op_w (yw_lenS rfl Tryd.underlying32 rfl) rfl rfl ?_)
      refine RX.cons rfl rfl (op_w (yw_lss rfl rfl rfl) rfl rfl ?_)
      refine RX.nil (XX.next (V' := [(0, .slice zv.1.1 zv.2.length zv.1.2), (1, .int .i64 n), (5, .bool true), (7, .pointer (some ⟨zl.1.1, 0, none⟩)), (8, .string (root sum (entsX zl.2))), (11, .slice zs.1.1 zs.2.length zs.1.2), (12, .int .i64 ((i : Nat) : Int)), (13, .int .i64 ((k : Nat) : Int)), (83, .bool (decide (((k : Nat) : Int) < ((List.length (Stm.ls u0.2) : Nat) : Int))))]) ⟨rfl, rfl, rfl, rfl, rfl, rfl, rfl, rfl, rfl, trivial⟩ ?_)
      refine CX.condD (p := ((k : Nat) : Int) < ((List.length (Stm.ls u0.2) : Nat) : Int)) rfl (fun c83 => ?_) (fun c83 => ?_)
      · obtain ⟨y0, hy0⟩ := get_some (l := ls) (k := k) (by omega)
        refine CX.rowSome 0 rfl (by rw [List.length_map]; omega) (fun hAl => ?_)
        refine CX.skip (XX.next (V' := [(0, .slice zv.1.1 zv.2.length zv.1.2), (1, .int .i64 n), (5, .bool true), (7, .pointer (some ⟨zl.1.1, 0, none⟩)), (8, .string (root sum (entsX zl.2))), (11, .slice zs.1.1 zs.2.length zs.1.2), (12, .int .i64 ((i : Nat) : Int)), (13, .int .i64 ((k : Nat) : Int))]) ⟨rfl, rfl, rfl, rfl, rfl, rfl, rfl, rfl, trivial⟩ ?_)
        refine CX.seq ?_
        refine CX.block ?_
        refine CX.region ?_
        refine RX.cons rfl rfl (op_w (yw_move rfl rfl) rfl rfl ?_)
        refine RX.cons rfl rfl (op_w (yw_move rfl rfl) rfl rfl ?_)
        refine RX.cons rfl rfl (op_w (yw_index (k := i) rfl slt_22 rfl rfl (by omega) (by omega) hAc) rfl rfl ?_)
        refine RX.cons rfl rfl (op_w (yw_fieldAddr rfl fld_34_2 rfl) rfl rfl ?_)
        refine RX.cons rfl rfl (op_yld (y_rowElemF (i := 2) rfl rfl one_32 rfl (map_get hu0) rfl) rfl rfl ?_)
        refine RX.cons rfl rfl (op_w (yw_move rfl rfl) rfl rfl ?_)
        refine RX.cons rfl rfl (op_w (yw_index (k := k) rfl slt_32 rfl rfl (by omega) (by omega) hAl) rfl rfl ?_)
        refine RX.cons rfl rfl (op_w (yw_fieldAddr rfl fld_57_2 rfl) rfl rfl ?_)
        refine RX.cons rfl rfl (op_yld (y_rowElemF (i := 0) rfl rfl one_3 rfl (map_get hy0) rfl) rfl rfl ?_)
        refine RX.cons rfl rfl (op_w (yw_addw rfl rfl rfl) rfl rfl ?_)
        refine RX.cons rfl rfl (op_w (yw_index (k := k) rfl slt_32 rfl rfl (by omega) (by omega) hAl) rfl rfl ?_)
        refine RX.cons rfl rfl (op_w (yw_fieldAddr rfl fld_57_2 rfl) rfl rfl ?_)
        refine RX.cons rfl rfl (op_storeElemF (j := 2) (i := 0) (ys := List.map lnC (List.set ls k (⟨Ln.p y0, Ln.b y0, IntKind.i64.wrap (Ln.a y0 + 1)⟩ : Ln))) rfl rfl rfl rfl szt_3 rfl rfl rfl (map_get hy0) (by decide) (set_ln rfl) ?_)
        refine RX.nil (XX.inBlock (V' := [(0, .slice zv.1.1 zv.2.length zv.1.2), (1, .int .i64 n), (5, .bool true), (7, .pointer (some ⟨zl.1.1, 0, none⟩)), (8, .string (root sum (entsX zl.2))), (11, .slice zs.1.1 zs.2.length zs.1.2), (12, .int .i64 ((i : Nat) : Int)), (13, .int .i64 ((k : Nat) : Int))]) ⟨rfl, rfl, rfl, rfl, rfl, rfl, rfl, rfl, trivial⟩ ?_)
        refine XX.next (V' := [(0, .slice zv.1.1 zv.2.length zv.1.2), (1, .int .i64 n), (5, .bool true), (7, .pointer (some ⟨zl.1.1, 0, none⟩)), (8, .string (root sum (entsX zl.2))), (11, .slice zs.1.1 zs.2.length zs.1.2), (12, .int .i64 ((i : Nat) : Int)), (13, .int .i64 ((k : Nat) : Int))]) ⟨rfl, rfl, rfl, rfl, rfl, rfl, rfl, rfl, trivial⟩ ?_
        refine CX.region ?_
        refine RX.cons rfl rfl (op_w (yw_move rfl rfl) rfl rfl ?_)
        refine RX.cons rfl rfl (op_w (yw_add rfl rfl rfl (by omega) (by omega)) rfl rfl ?_)
        refine RX.cons rfl rfl (op_w (yw_assign rfl rfl) rfl rfl ?_)
        refine RX.nil (XX.againP ([]) (k + 1, List.set ls k (⟨Ln.p y0, Ln.b y0, IntKind.i64.wrap (Ln.a y0 + 1)⟩ : Ln)) (by dsimp only; omega) ⟨by dsimp only; omega, by dsimp only; rw [List.length_set]; exact hls⟩ ⟨rfl, rfl, rfl, rfl, rfl, rfl, rfl, rfl, trivial⟩ ((perm_pick 0 rfl).trans (List.Perm.cons _ ((perm_pick 0 rfl).trans (List.Perm.cons _ ((perm_pick 0 rfl).trans (List.Perm.cons _ ((perm_pick 0 rfl).trans (List.Perm.cons _ ((perm_pick 0 rfl).trans (List.Perm.cons _ ((perm_pick 0 rfl).trans (List.Perm.cons _ ((perm_pick 0 rfl).trans (List.Perm.cons _ ((perm_pick 0 rfl).trans (List.Perm.cons _ (List.Perm.refl _))))))))))))))))))
      · refine CX.exit ?_
        refine XX.then_exit ?_
        refine XX.then_exit ?_
        refine XX.block_exit ?_
        refine XX.next (V' := [(0, .slice zv.1.1 zv.2.length zv.1.2), (1, .int .i64 n), (5, .bool true), (7, .pointer (some ⟨zl.1.1, 0, none⟩)), (8, .string (root sum (entsX zl.2))), (11, .slice zs.1.1 zs.2.length zs.1.2), (12, .int .i64 ((i : Nat) : Int))]) ⟨rfl, rfl, rfl, rfl, rfl, rfl, rfl, trivial⟩ ?_
        refine CX.seq ?_
        refine CX.region ?_
        refine RX.cons rfl rfl (op_w (yw_move rfl rfl) rfl rfl ?_)
        refine RX.cons rfl rfl (op_w (yw_move rfl rfl) rfl rfl ?_)
        refine RX.cons rfl rfl (op_w (yw_index (k := i) rfl slt_22 rfl rfl (by omega) (by omega) hAc) rfl rfl ?_)
        refine RX.cons rfl rfl (op_w (yw_fieldAddr rfl fld_34_1 rfl) rfl rfl ?_)
        refine RX.cons rfl rfl (op_yld (y_rowElemF (i := 2) rfl rfl one_3 rfl (map_get hu0) rfl) rfl rfl ?_)
        refine RX.cons rfl rfl (op_w (yw_addw rfl rfl rfl) rfl rfl ?_)
        refine RX.cons rfl rfl (op_w (yw_index (k := i) rfl slt_22 rfl rfl (by omega) (by omega) hAc) rfl rfl ?_)
        refine RX.cons rfl rfl (op_w (yw_fieldAddr rfl fld_34_1 rfl) rfl rfl ?_)
        refine RX.cons rfl rfl (op_storeElemF (j := 1) (i := 2) (ys := List.map stC (List.set U i (((u0.1, ⟨Stm.h u0.2, IntKind.i64.wrap (Stm.c u0.2 + 1), ls⟩) : SX)))) rfl rfl rfl rfl szt_3 rfl rfl rfl (map_get hu0) (by decide) (set_st (by simp [stC, hls])) ?_)
        refine RX.nil (XX.next (V' := [(0, .slice zv.1.1 zv.2.length zv.1.2), (1, .int .i64 n), (5, .bool true), (7, .pointer (some ⟨zl.1.1, 0, none⟩)), (8, .string (root sum (entsX zl.2))), (11, .slice zs.1.1 zs.2.length zs.1.2), (12, .int .i64 ((i : Nat) : Int))]) ⟨rfl, rfl, rfl, rfl, rfl, rfl, rfl, trivial⟩ ?_)
        refine CX.seq ?_
        refine CX.packIn (L' := [.row zs.1.1 zs.1.2 34 3 (List.map stC (List.set U i (((u0.1, ⟨Stm.h u0.2, IntKind.i64.wrap (Stm.c u0.2 + 1), ls⟩) : SX)))), logE zl.1.1 zl.1.2 zl.2, .row zk.1.1 zk.1.2 34 3 (List.map stC Y), pack (lns Y), .row zv.1.1 zv.1.2 34 3 (List.map stC zv.2), pack (lns zv.2)]) ((perm_pick 0 rfl).trans (List.Perm.cons _ ((perm_pick 0 rfl).trans (List.Perm.cons _ (List.Perm.refl _))))) (lns_in (((u0.1, ⟨Stm.h u0.2, IntKind.i64.wrap (Stm.c u0.2 + 1), ls⟩) : SX)) hu0) ?_
        obtain ⟨q0, hq0⟩ := get_some (l := zl.2) (k := i) (by omega)
        have hqb := hXl0 q0 (List.mem_of_getElem? hq0)
        have hpl := path_len zl.2 i
        refine CX.region ?_
        refine RX.cons rfl rfl (op_w (yw_move rfl rfl) rfl rfl ?_)
        refine RX.cons rfl rfl (op_w (yw_move rfl rfl) rfl rfl ?_)
        refine RX.cons rfl rfl (op_callE rfl rfl rfl rfl rfl ent_16 (fun w hw => w_prove zl.2 (hw.logAt (i := 2) rfl) hXl0 (by omega) (hG.keep hw (by simp)) i q0 hq0) (fun zq _ => ?_))
        refine RX.cons rfl rfl (op_w (yw_move rfl rfl) rfl rfl ?_)
        refine RX.cons rfl rfl (op_w (yw_extract rfl rfl rfl) rfl rfl ?_)
        refine RX.cons rfl rfl (op_w (yw_extract rfl rfl rfl) rfl rfl ?_)
        refine RX.cons rfl rfl (op_alloc rfl rfl rfl zero_37 fun g14 => ?_)
        refine RX.cons rfl rfl (op_storeAll (i := 0) rfl rfl rfl rfl szt_37 rfl (plain_of rfl) rfl rfl ?_)
        refine RX.cons rfl rfl (op_w (yw_assign rfl rfl) rfl rfl ?_)
        refine RX.nil (XX.next (V' := [(0, .slice zv.1.1 zv.2.length zv.1.2), (1, .int .i64 n), (5, .bool true), (7, .pointer (some ⟨zl.1.1, 0, none⟩)), (8, .string (root sum (entsX zl.2))), (11, .slice zs.1.1 zs.2.length zs.1.2), (12, .int .i64 ((i : Nat) : Int)), (14, .pointer (some ⟨g14, 0, none⟩))]) ⟨rfl, rfl, rfl, rfl, rfl, rfl, rfl, rfl, trivial⟩ ?_)
        refine CX.seq ?_
        refine CX.seq ?_
        refine CX.region ?_
        refine RX.cons rfl rfl (op_w (yw_assign rfl rfl) rfl rfl ?_)
        refine RX.nil (XX.next (V' := [(0, .slice zv.1.1 zv.2.length zv.1.2), (1, .int .i64 n), (5, .bool true), (7, .pointer (some ⟨zl.1.1, 0, none⟩)), (8, .string (root sum (entsX zl.2))), (11, .slice zs.1.1 zs.2.length zs.1.2), (12, .int .i64 ((i : Nat) : Int)), (14, .pointer (some ⟨g14, 0, none⟩)), (16, .int .i64 0)]) ⟨rfl, rfl, rfl, rfl, rfl, rfl, rfl, rfl, rfl, trivial⟩ ?_)
        refine CX.block ?_
        refine CX.loop (σ := Nat × List Ln) (fun z => [(0, .slice zv.1.1 zv.2.length zv.1.2), (1, .int .i64 n), (5, .bool true), (7, .pointer (some ⟨zl.1.1, 0, none⟩)), (8, .string (root sum (entsX zl.2))), (11, .slice zs.1.1 zs.2.length zs.1.2), (12, .int .i64 ((i : Nat) : Int)), (14, .pointer (some ⟨g14, 0, none⟩)), (16, .int .i64 ((z.1 : Nat) : Int))]) (fun z => [.blk g14 (.cells (prC q0.2 i (List.length (zl.2 : List SX)) (saltX zl.2 i) ((path sum (entsX zl.2) i).reverse) zq) 37 (0, 0)), .row zq.1.1 zq.1.2 57 3 (List.map lnC z.2), .row zq.2.1 zq.2.2 9 1 (List.map strC ((path sum (entsX zl.2) i).reverse)), pack (lns (List.set U i (((u0.1, ⟨Stm.h u0.2, IntKind.i64.wrap (Stm.c u0.2 + 1), ls⟩) : SX)))), .row zs.1.1 zs.1.2 34 3 (List.map stC (List.set U i (((u0.1, ⟨Stm.h u0.2, IntKind.i64.wrap (Stm.c u0.2 + 1), ls⟩) : SX)))), logE zl.1.1 zl.1.2 zl.2, .row zk.1.1 zk.1.2 34 3 (List.map stC Y), pack (lns Y), .row zv.1.1 zv.1.2 34 3 (List.map stC zv.2), pack (lns zv.2)]) (fun z => z.1 ≤ (Stm.ls q0.2).length ∧ z.2.length = (Stm.ls q0.2).length) (fun z => (Stm.ls q0.2).length - z.1) (0, Stm.ls q0.2) ⟨Nat.zero_le _, rfl⟩ ⟨rfl, rfl, rfl, rfl, rfl, rfl, rfl, rfl, rfl, trivial⟩ rfl (fun z hI => ?_)
        obtain ⟨k, l2⟩ := z
        dsimp only at hI ⊢
        obtain ⟨hk, hl2⟩ := hI
        refine CX.seq ?_
        refine CX.seq ?_
        refine CX.region ?_
        refine RX.cons rfl rfl (op_w (yw_move rfl rfl) rfl rfl ?_)
        refine RX.cons rfl rfl (op_w (yw_field0 rfl fld_37_0 rfl) rfl rfl ?_)
        refine RX.cons rfl rfl (op_w (yw_fieldAddr rfl fld_34_2 rfl) rfl rfl ?_)
        refine RX.cons rfl rfl (op_yld (y_load (i := 0) rfl rfl one_32 rfl rfl) rfl rfl ?_)
        refine RX.cons rfl rfl (op_w (yw_lenS rfl Tryd.underlying32 rfl) rfl rfl ?_)
        refine RX.cons rfl rfl (op_w (yw_lss rfl rfl rfl) rfl rfl ?_)
        refine RX.nil (XX.next (V' := [(0, .slice zv.1.1 zv.2.length zv.1.2), (1, .int .i64 n), (5, .bool true), (7, .pointer (some ⟨zl.1.1, 0, none⟩)), (8, .string (root sum (entsX zl.2))), (11, .slice zs.1.1 zs.2.length zs.1.2), (12, .int .i64 ((i : Nat) : Int)), (14, .pointer (some ⟨g14, 0, none⟩)), (16, .int .i64 ((k : Nat) : Int)), (117, .bool (decide (((k : Nat) : Int) < ((List.length (Stm.ls q0.2) : Nat) : Int))))]) ⟨rfl, rfl, rfl, rfl, rfl, rfl, rfl, rfl, rfl, rfl, trivial⟩ ?_)
        refine CX.condD (p := ((k : Nat) : Int) < ((List.length (Stm.ls q0.2) : Nat) : Int)) rfl (fun c117 => ?_) (fun c117 => ?_)
        · obtain ⟨y2, hy2⟩ := get_some (l := l2) (k := k) (by omega)
          refine CX.rowSome 1 rfl (by rw [List.length_map]; omega) (fun hAp => ?_)
          refine CX.skip (XX.next (V' := [(0, .slice zv.1.1 zv.2.length zv.1.2), (1, .int .i64 n), (5, .bool true), (7, .pointer (some ⟨zl.1.1, 0, none⟩)), (8, .string (root sum (entsX zl.2))), (11, .slice zs.1.1 zs.2.length zs.1.2), (12, .int .i64 ((i : Nat) : Int)), (14, .pointer (some ⟨g14, 0, none⟩)), (16, .int .i64 ((k : Nat) : Int))]) ⟨rfl, rfl, rfl, rfl, rfl, rfl, rfl, rfl, rfl, trivial⟩ ?_)
          refine CX.seq ?_
          refine CX.block ?_
          refine CX.region ?_
          refine RX.cons rfl rfl (op_w (yw_field0 rfl fld_37_0 rfl) rfl rfl ?_)
          refine RX.cons rfl rfl (op_w (yw_fieldAddr rfl fld_34_2 rfl) rfl rfl ?_)
          refine RX.cons rfl rfl (op_yld (y_load (i := 0) rfl rfl one_32 rfl rfl) rfl rfl ?_)
          refine RX.cons rfl rfl (op_w (yw_move rfl rfl) rfl rfl ?_)
          refine RX.cons rfl rfl (op_w (yw_index (k := k) rfl slt_32 rfl rfl (by omega) (by omega) hAp) rfl rfl ?_)
          refine RX.cons rfl rfl (op_w (yw_fieldAddr rfl fld_57_1 rfl) rfl rfl ?_)
          refine RX.cons rfl rfl (op_yld (y_rowElemF (i := 1) rfl rfl one_3 rfl (map_get hy2) rfl) rfl rfl ?_)
          refine RX.cons rfl rfl (op_w (yw_addw rfl rfl rfl) rfl rfl ?_)
          refine RX.cons rfl rfl (op_w (yw_index (k := k) rfl slt_32 rfl rfl (by omega) (by omega) hAp) rfl rfl ?_)
          refine RX.cons rfl rfl (op_w (yw_fieldAddr rfl fld_57_1 rfl) rfl rfl ?_)
          refine RX.cons rfl rfl (op_storeElemF (j := 1) (i := 1) (ys := List.map lnC (List.set l2 k (⟨Ln.p y2, IntKind.i64.wrap (Ln.b y2 + 1), Ln.a y2⟩ : Ln))) rfl rfl rfl rfl szt_3 rfl rfl rfl (map_get hy2) (by decide) (set_ln rfl) ?_)
          refine RX.nil (XX.inBlock (V' := [(0, .slice zv.1.1 zv.2.length zv.1.2), (1, .int .i64 n), (5, .bool true), (7, .pointer (some ⟨zl.1.1, 0, none⟩)), (8, .string (root sum (entsX zl.2))), (11, .slice zs.1.1 zs.2.length zs.1.2), (12, .int .i64 ((i : Nat) : Int)), (14, .pointer (some ⟨g14, 0, none⟩)), (16, .int .i64 ((k : Nat) : Int))]) ⟨rfl, rfl, rfl, rfl, rfl, rfl, rfl, rfl, rfl, trivial⟩ ?_)
          refine XX.next (V' := [(0, .slice zv.1.1 zv.2.length zv.1.2), (1, .int .i64 n), (5, .bool true), (7, .pointer (some ⟨zl.1.1, 0, none⟩)), (8, .string (root sum (entsX zl.2))), (11, .slice zs.1.1 zs.2.length zs.1.2), (12, .int .i64 ((i : Nat) : Int)), (14, .pointer (some ⟨g14, 0, none⟩)), (16, .int .i64 ((k : Nat) : Int))]) ⟨rfl, rfl, rfl, rfl, rfl, rfl, rfl, rfl, rfl, trivial⟩ ?_
          refine CX.region ?_
          refine RX.cons rfl rfl (op_w (yw_move rfl rfl) rfl rfl ?_)
          refine RX.cons rfl rfl (op_w (yw_add rfl rfl rfl (by omega) (by omega)) rfl rfl ?_)
          refine RX.cons rfl rfl (op_w (yw_assign rfl rfl) rfl rfl ?_)
          refine RX.nil (XX.againP ([]) (k + 1, List.set l2 k (⟨Ln.p y2, IntKind.i64.wrap (Ln.b y2 + 1), Ln.a y2⟩ : Ln)) (by dsimp only; omega) ⟨by dsimp only; omega, by dsimp only; rw [List.length_set]; exact hl2⟩ ⟨rfl, rfl, rfl, rfl, rfl, rfl, rfl, rfl, rfl, trivial⟩ ((perm_pick 0 rfl).trans (List.Perm.cons _ ((perm_pick 0 rfl).trans (List.Perm.cons _ ((perm_pick 0 rfl).trans (List.Perm.cons _ ((perm_pick 0 rfl).trans (List.Perm.cons _ ((perm_pick 0 rfl).trans (List.Perm.cons _ ((perm_pick 0 rfl).trans (List.Perm.cons _ ((perm_pick 0 rfl).trans (List.Perm.cons _ ((perm_pick 0 rfl).trans (List.Perm.cons _ ((perm_pick 0 rfl).trans (List.Perm.cons _ ((perm_pick 0 rfl).trans (List.Perm.cons _ (List.Perm.refl _))))))))))))))))))))))
        · refine CX.exit ?_
          refine XX.then_exit ?_
          refine XX.then_exit ?_
          refine XX.block_exit ?_
          refine XX.next (V' := [(0, .slice zv.1.1 zv.2.length zv.1.2), (1, .int .i64 n), (5, .bool true), (7, .pointer (some ⟨zl.1.1, 0, none⟩)), (8, .string (root sum (entsX zl.2))), (11, .slice zs.1.1 zs.2.length zs.1.2), (12, .int .i64 ((i : Nat) : Int)), (14, .pointer (some ⟨g14, 0, none⟩))]) ⟨rfl, rfl, rfl, rfl, rfl, rfl, rfl, rfl, trivial⟩ ?_
          refine CX.seq ?_
          refine CX.region ?_
          refine RX.cons rfl rfl (op_w (yw_assign rfl rfl) rfl rfl ?_)
          refine RX.nil (XX.next (V' := [(0, .slice zv.1.1 zv.2.length zv.1.2), (1, .int .i64 n), (5, .bool true), (7, .pointer (some ⟨zl.1.1, 0, none⟩)), (8, .string (root sum (entsX zl.2))), (11, .slice zs.1.1 zs.2.length zs.1.2), (12, .int .i64 ((i : Nat) : Int)), (14, .pointer (some ⟨g14, 0, none⟩)), (17, .int .i64 0)]) ⟨rfl, rfl, rfl, rfl, rfl, rfl, rfl, rfl, rfl, trivial⟩ ?_)
          refine CX.block ?_
          refine CX.loop (σ := Nat × List ByteArray) (fun z => [(0, .slice zv.1.1 zv.2.length zv.1.2), (1, .int .i64 n), (5, .bool true), (7, .pointer (some ⟨zl.1.1, 0, none⟩)), (8, .string (root sum (entsX zl.2))), (11, .slice zs.1.1 zs.2.length zs.1.2), (12, .int .i64 ((i : Nat) : Int)), (14, .pointer (some ⟨g14, 0, none⟩)), (17, .int .i64 ((z.1 : Nat) : Int))]) (fun z => [.blk g14 (.cells (prC q0.2 i (List.length (zl.2 : List SX)) (saltX zl.2 i) ((path sum (entsX zl.2) i).reverse) zq) 37 (0, 0)), .row zq.1.1 zq.1.2 57 3 (List.map lnC l2), .row zq.2.1 zq.2.2 9 1 (List.map strC z.2), pack (lns (List.set U i (((u0.1, ⟨Stm.h u0.2, IntKind.i64.wrap (Stm.c u0.2 + 1), ls⟩) : SX)))), .row zs.1.1 zs.1.2 34 3 (List.map stC (List.set U i (((u0.1, ⟨Stm.h u0.2, IntKind.i64.wrap (Stm.c u0.2 + 1), ls⟩) : SX)))), logE zl.1.1 zl.1.2 zl.2, .row zk.1.1 zk.1.2 34 3 (List.map stC Y), pack (lns Y), .row zv.1.1 zv.1.2 34 3 (List.map stC zv.2), pack (lns zv.2)]) (fun z => z.1 ≤ ((path sum (entsX zl.2) i).reverse : List ByteArray).length ∧ z.2.length = ((path sum (entsX zl.2) i).reverse : List ByteArray).length) (fun z => ((path sum (entsX zl.2) i).reverse : List ByteArray).length - z.1) (0, (path sum (entsX zl.2) i).reverse) ⟨Nat.zero_le _, rfl⟩ ⟨rfl, rfl, rfl, rfl, rfl, rfl, rfl, rfl, rfl, trivial⟩ rfl (fun z hI => ?_)
          obtain ⟨k, ps⟩ := z
          dsimp only at hI ⊢
          obtain ⟨hk, hps⟩ := hI
          refine CX.seq ?_
          refine CX.seq ?_
          refine CX.region ?_
          refine RX.cons rfl rfl (op_w (yw_move rfl rfl) rfl rfl ?_)
          refine RX.cons rfl rfl (op_w (yw_fieldAddr rfl fld_37_4 rfl) rfl rfl ?_)
          refine RX.cons rfl rfl (op_yld (y_load (i := 0) rfl rfl one_35 rfl rfl) rfl rfl ?_)
          refine RX.cons rfl rfl (op_w (yw_lenS rfl Tryd.underlying35 rfl) rfl rfl ?_)
          refine RX.cons rfl rfl (op_w (yw_lss rfl rfl rfl) rfl rfl ?_)
          refine RX.nil (XX.next (V' := [(0, .slice zv.1.1 zv.2.length zv.1.2), (1, .int .i64 n), (5, .bool true), (7, .pointer (some ⟨zl.1.1, 0, none⟩)), (8, .string (root sum (entsX zl.2))), (11, .slice zs.1.1 zs.2.length zs.1.2), (12, .int .i64 ((i : Nat) : Int)), (14, .pointer (some ⟨g14, 0, none⟩)), (17, .int .i64 ((k : Nat) : Int)), (134, .bool (decide (((k : Nat) : Int) < ((List.length ((path sum (entsX zl.2) i).reverse : List ByteArray) : Nat) : Int))))]) ⟨rfl, rfl, rfl, rfl, rfl, rfl, rfl, rfl, rfl, rfl, trivial⟩ ?_)
          refine CX.condD (p := ((k : Nat) : Int) < ((List.length ((path sum (entsX zl.2) i).reverse : List ByteArray) : Nat) : Int)) rfl (fun c134 => ?_) (fun c134 => ?_)
          · refine CX.rowSome 2 rfl (by rw [List.length_map]; omega) (fun hAq => ?_)
            refine CX.skip (XX.next (V' := [(0, .slice zv.1.1 zv.2.length zv.1.2), (1, .int .i64 n), (5, .bool true), (7, .pointer (some ⟨zl.1.1, 0, none⟩)), (8, .string (root sum (entsX zl.2))), (11, .slice zs.1.1 zs.2.length zs.1.2), (12, .int .i64 ((i : Nat) : Int)), (14, .pointer (some ⟨g14, 0, none⟩)), (17, .int .i64 ((k : Nat) : Int))]) ⟨rfl, rfl, rfl, rfl, rfl, rfl, rfl, rfl, rfl, trivial⟩ ?_)
            refine CX.seq ?_
            refine CX.block ?_
            refine CX.region ?_
            refine RX.cons rfl rfl (op_w (yw_fieldAddr rfl fld_37_4 rfl) rfl rfl ?_)
            refine RX.cons rfl rfl (op_yld (y_load (i := 0) rfl rfl one_35 rfl rfl) rfl rfl ?_)
            refine RX.cons rfl rfl (op_w (yw_move rfl rfl) rfl rfl ?_)
            refine RX.cons rfl rfl (op_w (yw_index (k := k) rfl slt_35 rfl rfl (by omega) (by omega) hAq) rfl rfl ?_)
            refine RX.cons rfl rfl (op_storeElemE (i := 2) (k := k) (ys := List.map strC (List.set ps k { data := #[120] })) rfl rfl rfl rfl szt_9 rfl (plain_of rfl) rfl (by rw [List.length_map]; omega) (by rw [List.map_set]; rfl) ?_)
            refine RX.nil (XX.inBlock (V' := [(0, .slice zv.1.1 zv.2.length zv.1.2), (1, .int .i64 n), (5, .bool true), (7, .pointer (some ⟨zl.1.1, 0, none⟩)), (8, .string (root sum (entsX zl.2))), (11, .slice zs.1.1 zs.2.length zs.1.2), (12, .int .i64 ((i : Nat) : Int)), (14, .pointer (some ⟨g14, 0, none⟩)), (17, .int .i64 ((k : Nat) : Int))]) ⟨rfl, rfl, rfl, rfl, rfl, rfl, rfl, rfl, rfl, trivial⟩ ?_)
            refine XX.next (V' := [(0, .slice zv.1.1 zv.2.length zv.1.2), (1, .int .i64 n), (5, .bool true), (7, .pointer (some ⟨zl.1.1, 0, none⟩)), (8, .string (root sum (entsX zl.2))), (11, .slice zs.1.1 zs.2.length zs.1.2), (12, .int .i64 ((i : Nat) : Int)), (14, .pointer (some ⟨g14, 0, none⟩)), (17, .int .i64 ((k : Nat) : Int))]) ⟨rfl, rfl, rfl, rfl, rfl, rfl, rfl, rfl, rfl, trivial⟩ ?_
            refine CX.region ?_
            refine RX.cons rfl rfl (op_w (yw_move rfl rfl) rfl rfl ?_)
            refine RX.cons rfl rfl (op_w (yw_add rfl rfl rfl (by omega) (by omega)) rfl rfl ?_)
            refine RX.cons rfl rfl (op_w (yw_assign rfl rfl) rfl rfl ?_)
            refine RX.nil (XX.againP ([]) (k + 1, List.set ps k { data := #[120] }) (by dsimp only; omega) ⟨by dsimp only; omega, by dsimp only; rw [List.length_set]; exact hps⟩ ⟨rfl, rfl, rfl, rfl, rfl, rfl, rfl, rfl, rfl, trivial⟩ ((perm_pick 0 rfl).trans (List.Perm.cons _ ((perm_pick 0 rfl).trans (List.Perm.cons _ ((perm_pick 0 rfl).trans (List.Perm.cons _ ((perm_pick 0 rfl).trans (List.Perm.cons _ ((perm_pick 0 rfl).trans (List.Perm.cons _ ((perm_pick 0 rfl).trans (List.Perm.cons _ ((perm_pick 0 rfl).trans (List.Perm.cons _ ((perm_pick 0 rfl).trans (List.Perm.cons _ ((perm_pick 0 rfl).trans (List.Perm.cons _ ((perm_pick 0 rfl).trans (List.Perm.cons _ (List.Perm.refl _))))))))))))))))))))))
          · refine CX.exit ?_
            refine XX.then_exit ?_
            refine XX.then_exit ?_
            refine XX.block_exit ?_
            refine XX.inBlock (V' := [(0, .slice zv.1.1 zv.2.length zv.1.2), (1, .int .i64 n), (5, .bool true), (7, .pointer (some ⟨zl.1.1, 0, none⟩)), (8, .string (root sum (entsX zl.2))), (11, .slice zs.1.1 zs.2.length zs.1.2), (12, .int .i64 ((i : Nat) : Int))]) ⟨rfl, rfl, rfl, rfl, rfl, rfl, rfl, trivial⟩ ?_
            refine XX.next (V' := [(0, .slice zv.1.1 zv.2.length zv.1.2), (1, .int .i64 n), (5, .bool true), (7, .pointer (some ⟨zl.1.1, 0, none⟩)), (8, .string (root sum (entsX zl.2))), (11, .slice zs.1.1 zs.2.length zs.1.2), (12, .int .i64 ((i : Nat) : Int))]) ⟨rfl, rfl, rfl, rfl, rfl, rfl, rfl, trivial⟩ ?_
            refine CX.region ?_
            refine RX.cons rfl rfl (op_w (yw_move rfl rfl) rfl rfl ?_)
            refine RX.cons rfl rfl (op_w (yw_add rfl rfl rfl (by omega) (by omega)) rfl rfl ?_)
            refine RX.cons rfl rfl (op_w (yw_assign rfl rfl) rfl rfl ?_)
            refine RX.nil (XX.againP ([.blk g14 (.cells (prC q0.2 i (List.length (zl.2 : List SX)) (saltX zl.2 i) ((path sum (entsX zl.2) i).reverse) zq) 37 (0, 0)), .row zq.1.1 zq.1.2 57 3 (List.map lnC l2), .row zq.2.1 zq.2.2 9 1 (List.map strC ps)]) (i + 1, List.set U i (((u0.1, ⟨Stm.h u0.2, IntKind.i64.wrap (Stm.c u0.2 + 1), ls⟩) : SX))) (by dsimp only; omega) ⟨by dsimp only; omega, by dsimp only; rw [List.length_set]; exact hYn, short_set hYb hu0 hls⟩ ⟨rfl, rfl, rfl, rfl, rfl, rfl, rfl, trivial⟩ ((perm_pick 4 rfl).trans (List.Perm.cons _ ((perm_pick 3 rfl).trans (List.Perm.cons _ ((perm_pick 3 rfl).trans (List.Perm.cons _ ((perm_pick 3 rfl).trans (List.Perm.cons _ ((perm_pick 3 rfl).trans (List.Perm.cons _ ((perm_pick 3 rfl).trans (List.Perm.cons _ ((perm_pick 3 rfl).trans (List.Perm.cons _ (List.Perm.refl _))))))))))))))))
    · refine CX.exit ?_
      refine XX.then_exit ?_
      refine XX.then_exit ?_
      refine XX.block_exit ?_
      refine XX.next (V' := [(0, .slice zv.1.1 zv.2.length zv.1.2), (1, .int .i64 n), (5, .bool true), (7, .pointer (some ⟨zl.1.1, 0, none⟩)), (8, .string (root sum (entsX zl.2)))]) ⟨rfl, rfl, rfl, rfl, rfl, trivial⟩ ?_
      refine CX.seq ?_
      refine CX.region ?_
      refine RX.cons rfl rfl (op_w (yw_assign rfl rfl) rfl rfl ?_)
      refine RX.nil (XX.next (V' := [(0, .slice zv.1.1 zv.2.length zv.1.2), (1, .int .i64 n), (5, .bool true), (7, .pointer (some ⟨zl.1.1, 0, none⟩)), (8, .string (root sum (entsX zl.2))), (18, .pointer none)]) ⟨rfl, rfl, rfl, rfl, rfl, rfl, trivial⟩ ?_)
      refine CX.seq ?_
      refine CX.region ?_
      refine RX.cons rfl rfl (op_w (yw_move rfl rfl) rfl rfl ?_)
      refine RX.cons rfl rfl (op_w (yw_move rfl rfl) rfl rfl ?_)
      refine RX.cons rfl rfl (op_callV (v := .tuple #[.agg (#[.int .i64 0, .int .i64 0, .slice none 0 0, .int .i64 0, .int .i64 0, .string .empty, .slice none 0 0]), .int .i64 1]) rfl rfl rfl rfl rfl ent_16 (fun w hw => w_prove0 n) ?_)
      refine RX.cons rfl rfl (op_w (yw_move rfl rfl) rfl rfl ?_)
      refine RX.cons rfl rfl (op_w (yw_extract rfl rfl rfl) rfl rfl ?_)
      refine RX.cons rfl rfl (op_w (yw_extract rfl rfl rfl) rfl rfl ?_)
      refine RX.cons rfl rfl (op_alloc rfl rfl rfl zero_37 fun g19 => ?_)
      refine RX.cons rfl rfl (op_storeAll (i := 0) rfl rfl rfl rfl szt_37 rfl (plain_of rfl) rfl rfl ?_)
      refine RX.cons rfl rfl (op_w (yw_assign rfl rfl) rfl rfl ?_)
      refine RX.nil (XX.next (V' := [(0, .slice zv.1.1 zv.2.length zv.1.2), (1, .int .i64 n), (5, .bool true), (7, .pointer (some ⟨zl.1.1, 0, none⟩)), (8, .string (root sum (entsX zl.2))), (18, .pointer none), (20, .int .i64 1)]) ⟨rfl, rfl, rfl, rfl, rfl, rfl, rfl, trivial⟩ ?_)
      refine CX.seq ?_
      refine CX.region ?_
      refine RX.cons rfl rfl (op_w (yw_move rfl rfl) rfl rfl ?_)
      refine RX.cons rfl rfl (op_w (yw_move rfl rfl) rfl rfl ?_)
      refine RX.cons rfl rfl (op_callV (v := .tuple #[.slice none 0 0, .int .i64 1]) rfl rfl rfl rfl rfl ent_25 (fun w hw => w_logExt0 n) ?_)
      refine RX.cons rfl rfl (op_w (yw_move rfl rfl) rfl rfl ?_)
      refine RX.cons rfl rfl (op_w (yw_extract rfl rfl rfl) rfl rfl ?_)
      refine RX.cons rfl rfl (op_w (yw_extract rfl rfl rfl) rfl rfl ?_)
      refine RX.cons rfl rfl (op_w (yw_assign rfl rfl) rfl rfl ?_)
      refine RX.cons rfl rfl (op_w (yw_assign rfl rfl) rfl rfl ?_)
      refine RX.nil (XX.next (V' := [(0, .slice zv.1.1 zv.2.length zv.1.2), (5, .bool true), (7, .pointer (some ⟨zl.1.1, 0, none⟩)), (8, .string (root sum (entsX zl.2))), (18, .pointer none), (20, .int .i64 1), (22, .int .i64 1)]) ⟨rfl, rfl, rfl, rfl, rfl, rfl, rfl, trivial⟩ ?_)
      refine CX.seq ?_
      refine CX.region ?_
      refine RX.cons rfl rfl (op_w (yw_move rfl rfl) rfl rfl ?_)
      refine RX.cons rfl rfl (op_w (yw_move rfl rfl) rfl rfl ?_)
      refine RX.consG rfl rfl rfl rfl rfl (op_w (yw_move rfl rfl) rfl rfl ?_)
      refine RX.consG rfl rfl rfl rfl rfl (op_callV (v := .string (root sum (entsX zl.2))) rfl rfl rfl rfl rfl ent_15 (fun w hw => w_rootE zl.2 (hw.logAt (i := 3) rfl) hXl0 (by omega) (hG.keep hw (by simp))) ?_)
      refine RX.consG rfl rfl rfl rfl rfl (op_w (yw_move rfl rfl) rfl rfl ?_)
      refine RX.consG rfl rfl rfl rfl rfl (op_w (yw_streq rfl rfl rfl) rfl rfl ?_)
      refine RX.know (t := 158) (u := .bool true) rfl (congrArg Value.bool (decide_eq_true rfl)) ?_
      refine RX.cons rfl rfl (op_w (yw_pickT rfl rfl rfl) rfl rfl ?_)
      refine RX.cons rfl rfl (op_w (yw_move rfl rfl) rfl rfl ?_)
      refine RX.consG rfl rfl rfl rfl rfl (op_w (yw_move rfl rfl) rfl rfl ?_)
      refine RX.consG rfl rfl rfl rfl rfl (op_callE rfl rfl rfl rfl rfl ent_14 (fun w hw => w_stmtsE zl.2 (hw.logAt (i := 3) rfl) hXl0 (by omega)) (fun zt hzt => ?_))
      refine RX.consG rfl rfl rfl rfl rfl (op_w (yw_move rfl rfl) rfl rfl ?_)
      refine RX.consG rfl rfl rfl rfl rfl (op_callV (v := .bool (decide (List.map (fun x : SX => x.2) zt.2 = List.map (fun x : SX => x.2) zv.2))) rfl rfl rfl rfl rfl ent_13 (fun w hw => w_sameList zt.2 zv.2 (Ent.rd (hw.ents _ (List.mem_of_getElem? (i := 0) rfl))) (lnsRd hw (i := 1) rfl) (Ent.rd (hw.ents _ (List.mem_of_getElem? (i := 8) rfl))) (lnsRd hw (i := 9) rfl) (of_snd (p := fun s => s.ls.length ≤ 1000000) hzt (fun s hs => by obtain ⟨y, hy, rfl⟩ := List.mem_map.1 hs; exact hXl0 y hy)) (by rw [len_snd hzt, List.length_map]; omega)) ?_)
      refine RX.know (t := 164) (u := .bool true) rfl (congrArg Value.bool (decide_eq_true (hzt.trans hL0))) ?_
      refine RX.cons rfl rfl (op_w (yw_pickT rfl rfl rfl) rfl rfl ?_)
      refine RX.cons rfl rfl (op_w (yw_move rfl rfl) rfl rfl ?_)
      refine RX.consG rfl rfl rfl rfl rfl (op_w (yw_move rfl rfl) rfl rfl ?_)
      refine RX.consG rfl rfl rfl rfl rfl (op_w (yw_move rfl rfl) rfl rfl ?_)
      refine RX.consG rfl rfl rfl rfl rfl (op_callV (v := .int .i64 1) rfl rfl rfl rfl rfl ent_12 (fun w hw => w_append0 (.slice zv.1.1 zv.2.length zv.1.2)) ?_)
      refine RX.consG rfl rfl rfl rfl rfl (op_w (yw_eql rfl rfl rfl) rfl rfl ?_)
      refine RX.know (t := 170) (u := .bool true) rfl (congrArg Value.bool (by decide)) ?_
      refine RX.cons rfl rfl (op_w (yw_pickT rfl rfl rfl) rfl rfl ?_)
      refine RX.cons rfl rfl (op_w (yw_move rfl rfl) rfl rfl ?_)
      refine RX.consG rfl rfl rfl rfl rfl (op_w (yw_move rfl rfl) rfl rfl ?_)
      refine RX.consG rfl rfl rfl rfl rfl (op_w (yw_eql rfl rfl rfl) rfl rfl ?_)
      refine RX.know (t := 174) (u := .bool true) rfl (congrArg Value.bool (by decide)) ?_
      refine RX.cons rfl rfl (op_w (yw_pickT rfl rfl rfl) rfl rfl ?_)
      refine RX.cons rfl rfl (op_w (yw_move rfl rfl) rfl rfl ?_)
      refine RX.consG rfl rfl rfl rfl rfl (op_w (yw_move rfl rfl) rfl rfl ?_)
      refine RX.consG rfl rfl rfl rfl rfl (op_w (yw_eql rfl rfl rfl) rfl rfl ?_)
      refine RX.know (t := 178) (u := .bool true) rfl (congrArg Value.bool (by decide)) ?_
      refine RX.cons rfl rfl (op_w (yw_pickT rfl rfl rfl) rfl rfl ?_)
      refine RX.cons rfl rfl (op_w (yw_move rfl rfl) rfl rfl ?_)
      refine RX.consG rfl rfl rfl rfl rfl (op_w (yw_move rfl rfl) rfl rfl ?_)
      refine RX.consG rfl rfl rfl rfl rfl (op_callV (v := .string .empty) rfl rfl rfl rfl rfl ent_15 (fun w hw => w_logRoot0) ?_)
      refine RX.consG rfl rfl rfl rfl rfl (op_w (yw_streq rfl rfl rfl) rfl rfl ?_)
      refine RX.know (t := 183) (u := .bool true) rfl (congrArg Value.bool (decide_eq_true rfl)) ?_
      refine RX.cons rfl rfl (op_w (yw_pickT rfl rfl rfl) rfl rfl ?_)
      refine RX.cons rfl rfl (op_w (yw_move rfl rfl) rfl rfl ?_)
      refine RX.consG rfl rfl rfl rfl rfl (op_w (yw_move rfl rfl) rfl rfl ?_)
      refine RX.consG rfl rfl rfl rfl rfl (op_callV (v := .slice none 0 0) rfl rfl rfl rfl rfl ent_14 (fun w hw => w_stmts0) ?_)
      refine RX.consG rfl rfl rfl rfl rfl (op_w (yw_lenS rfl Tryd.underlying22 rfl) rfl rfl ?_)
      refine RX.consG rfl rfl rfl rfl rfl (op_w (yw_eql rfl rfl rfl) rfl rfl ?_)
      refine RX.know (t := 189) (u := .bool true) rfl (congrArg Value.bool (by decide)) ?_
      refine RX.cons rfl rfl (op_w (yw_pickT rfl rfl rfl) rfl rfl ?_)
      refine RX.cons rfl rfl (op_w (yw_assign rfl rfl) rfl rfl ?_)
      refine RX.nil (XX.next (V' := [(4, .bool true)]) ⟨rfl, trivial⟩ ?_)
      refine CX.ret ?_
      exact ret_tmp rfl rfl fun w1 hw => ⟨rfl, hw.sub (List.nil_sublist _)⟩

end Go.Proofs.YtnadipjlhlbfoaaDoor
