/- Walks, printed by a program. -/
import Derived.Test.YtnadipjlhlbfoaaDoorK13
import Derived.Test.YtnadipjlhlbfoaaDoorK11
namespace Go.Proofs.YtnadipjlhlbfoaaDoor
set_option linter.all false
open Go Go.RowKit
set_option maxRecDepth 100000
theorem ent_23 : ∀ args w, (callFunc 23 args).run Tryd.prog w = .ok (.enter 23 args) w := enters_of Tryd.func23 (by kernel_rfl) rfl
/-- A changed proof that is accepted has the same statement and salt, or two different strings have the same digest. -/
theorem bind_law {X : List SX} {i : Nat} {x0 : SX} {t : Stm} {salt : ByteArray} {ps : List ByteArray} (h : X[i]? = some x0) (hx : okS x0.2 = true) (hv : (okS t && (decide (salt.size = 32) && verN (root sum (entsX X)) X.length i (salt ++ encS t) ps)) = true) :
    okS t = true ∧ (∀ x ∈ ps, x.size = 32) ∧ salt.size = 32 ∧ (¬ (x0.2 = t ∧ saltX X i = salt) → collB (preF sum (saltX X i ++ encS x0.2) (path sum (entsX X) i).reverse.reverse X.length i) (preF sum (salt ++ encS t) ps.reverse X.length i) = true) := by
  rw [Bool.and_eq_true, Bool.and_eq_true, decide_eq_true_iff] at hv
  obtain ⟨h1, h2, h3⟩ := hv
  have h4 := of_decide_eq_true h3
  refine ⟨h1, h4.1, h2, fun hne => ?_⟩
  obtain ⟨h5, h6⟩ := path_verifies (entsX_get h)
  rw [entsX_length] at h6
  rcases bind_or sum sum_size _ _ _ _ _ _ _ (fun x hx => h5 x (List.mem_reverse.1 hx)) (fun x hx => h4.1 x (List.mem_reverse.1 hx)) h6 h4.2 with h7 | h7
  · exfalso
    obtain ⟨e1, e2⟩ := append_inj h7 (by rw [saltX_size, h2])
    exact hne ⟨encS_inj hx h1 e2, e1⟩
  · exact collB_of h7
attribute [local irreducible] sum root entsX hashed
set_option maxRecDepth 100000 in
theorem w_binding {w : World} {A : Option Addr} {cap : Nat} (X : List SX) (c : Int) (x2 : SX) (s3 s4 : ByteArray) (hr : Rd w A 3 (X.map stC)) (hX : ∀ x ∈ X, Rd w x.1.1 3 (x.2.ls.map lnC)) (hXc : ∀ x ∈ X, x.2.ls.length ≤ x.1.2) (hX8 : X.length ≤ 9223372036854775807) (hXl : ∀ x ∈ X, x.2.ls.length ≤ 9223372036854775807) (hr2 : Rd w x2.1.1 3 (x2.2.ls.map lnC)) (hc2' : x2.2.ls.length ≤ x2.1.2) (hl2 : x2.2.ls.length ≤ 9223372036854775807) (hs3 : s3.size ≤ 9223372036854775807) (hs4 : s4.size ≤ 9223372036854775807) (hG : Rounds w) (hc1 : -9223372036854775808 ≤ c) (hc2 : c ≤ 9223372036854775807) :
    Calls Tryd.prog 4 #[.slice A X.length cap, .int .i64 c, .agg (stC x2), .string s3, .string s4] w (fun e w' => e = .returned (.bool true) ∧ SL w [] w' []) := by
  refine calls_of_CX (O := []) (L := []) (args := [.slice A X.length cap, .int .i64 c, .agg (stC x2), .string s3, .string s4]) Tryd.func4 rfl (by simp [Tryd.ntmps4]) (SL.refl w) ?_
  refine CX.sub (V' := [(0, .slice A X.length cap), (1, .int .i64 c), (2, .agg (stC x2)), (3, .string s3), (4, .string s4)]) ⟨rfl, rfl, rfl, rfl, rfl, trivial⟩ ?_
  refine CX.seq ?_
  refine CX.region ?_
  refine RX.cons rfl rfl (op_box rfl rfl rfl rfl fun g7 => ?_)
  refine RX.cons rfl rfl (op_w (yw_assign rfl rfl) rfl rfl ?_)
  refine RX.nil (XX.next (V' := [(0, _), (1, _), (3, _), (4, _), (7, _)]) ⟨rfl, rfl, rfl, rfl, rfl, trivial⟩ ?_)
  refine CX.seq ?_
  refine CX.region ?_
  refine RX.cons rfl rfl (op_callV (v := .bool true) rfl rfl rfl rfl rfl ent_9 (fun w hw => w_sane (hG.keep hw (by simp))) ?_)
  refine RX.cons rfl rfl (op_w (yw_assign rfl rfl) rfl rfl ?_)
  refine RX.nil (XX.next (V' := [(0, _), (1, _), (3, _), (4, _), (7, _), (11, _)]) ⟨rfl, rfl, rfl, rfl, rfl, rfl, trivial⟩ ?_)
  refine CX.seq ?_
  refine CX.region ?_
  refine RX.cons rfl rfl (op_w (yw_move rfl rfl) rfl rfl ?_)
  refine RX.cons rfl rfl (op_callE rfl rfl rfl rfl rfl ent_10 (fun w hw => w_validX X (hw.rd hr (by simp)) (fun x hx => hw.rd (hX x hx) (by simp)) hXc hX8 hXl 12 (by decide)) (fun zv hzv => ?_))
  have hvs := of_snd (p := fun s => s.ls.length ≤ 1000000) hzv (fun s hs => by have := valL_short X 12 s hs; omega)
  have hvo := of_snd (p := fun s => okS s = true) hzv (valL_ok X 12)
  have hvn : zv.2.length ≤ 12 := by rw [len_snd hzv]; exact valL_length X 12
  refine RX.cons rfl rfl (op_w (yw_assign rfl rfl) rfl rfl ?_)
  refine RX.nil (XX.next (V' := [(0, _), (1, _), (3, _), (4, _), (7, _), (11, _)]) ⟨rfl, rfl, rfl, rfl, rfl, rfl, trivial⟩ ?_)
  refine CX.seq ?_
  refine CX.seq ?_
  refine CX.region ?_
  refine RX.cons rfl rfl (op_w (yw_move rfl rfl) rfl rfl ?_)
  refine RX.cons rfl rfl (op_w (yw_lenS rfl Tryd.underlying22 rfl) rfl rfl ?_)
  refine RX.cons rfl rfl (op_w (yw_eql rfl rfl rfl) rfl rfl ?_)
  refine RX.nil (XX.next (V' := [(0, _), (1, _), (3, _), (4, _), (7, _), (11, _), (25, _)]) ⟨rfl, rfl, rfl, rfl, rfl, rfl, rfl, trivial⟩ ?_)
  refine CX.condD (p := ((zv.2.length : Nat) : Int) = 0) rfl (fun c25 => ?_) (fun c25 => ?_)
  · refine CX.seq ?_
    refine CX.region ?_
    refine RX.cons rfl rfl (op_w (yw_move rfl rfl) rfl rfl ?_)
    refine RX.cons rfl rfl (op_w (yw_assign rfl rfl) rfl rfl ?_)
    refine RX.nil (XX.next (V' := [(10, .bool true)]) ⟨rfl, trivial⟩ ?_)
    refine CX.ret ?_
    refine XX.then_ret ?_
    exact ret_tmp rfl rfl fun w1 hw => ⟨rfl, hw.sub (List.nil_sublist _)⟩
  · refine CX.skip (XX.next (V' := [(0, _), (1, _), (3, _), (4, _), (7, _), (11, _)]) ⟨rfl, rfl, rfl, rfl, rfl, rfl, trivial⟩ ?_)
    refine CX.seq ?_
    refine CX.region ?_
    refine RX.cons rfl rfl (op_w (yw_move rfl rfl) rfl rfl ?_)
    refine RX.cons rfl rfl (op_callE rfl rfl rfl rfl rfl ent_19 (fun w hw => w_logged zv.2 (Ent.rd (hw.ents _ (List.mem_of_getElem? (i := 0) rfl))) (lnsRd hw (i := 1) rfl) hvs (by omega) (hG.keep hw (by simp)) hvo) (fun zl hzl => ?_))
    have hL0 : (zl.2 : List SX).map (fun x : SX => x.2) = zv.2.map (fun x : SX => x.2) := hzl
    have hXl0 := of_snd (p := fun s => s.ls.length ≤ 1000000) hL0 (fun s hs => by obtain ⟨y, hy, rfl⟩ := List.mem_map.1 hs; exact hvs y hy)
    have hn0 : (zl.2 : List SX).length = zv.2.length := by have := congrArg List.length hL0; simpa using this
    refine RX.cons rfl rfl (op_w (yw_assign rfl rfl) rfl rfl ?_)
    refine RX.nil (XX.next (V' := [(0, _), (1, _), (3, _), (4, _), (7, _), (11, _), (12, _)]) ⟨rfl, rfl, rfl, rfl, rfl, rfl, rfl, trivial⟩ ?_)
    refine CX.seq ?_
    obtain ⟨i, hi⟩ : ∃ i, pickN c zv.2.length = i := ⟨_, rfl⟩
    have hil : i < zv.2.length := by rw [← hi]; exact pickN_lt c (by omega)
    obtain ⟨x0, hx0⟩ := get_some (l := zl.2) (k := i) (by omega)
    obtain ⟨y0, hy0⟩ := get_some (l := zv.2) (k := i) (by omega)
    have hx0m := List.mem_of_getElem? hx0
    have hy0m := List.mem_of_getElem? hy0
    have hx0y0 : x0.2 = y0.2 := by
      have h8 := congrArg (fun l : List Stm => l[i]?) hL0
      simp only [List.getElem?_map, hx0, hy0, Option.map_some, Option.some.injEq] at h8
      exact h8
    have hokx0 : okS x0.2 = true := by rw [hx0y0]; exact hvo y0 hy0m
    refine CX.region ?_
    refine RX.cons rfl rfl (op_w (yw_move rfl rfl) rfl rfl ?_)
    refine RX.cons rfl rfl (op_w (yw_move rfl rfl) rfl rfl ?_)
    refine RX.cons rfl rfl (op_w (yw_lenS rfl Tryd.underlying22 rfl) rfl rfl ?_)
    refine RX.cons rfl rfl (op_callV (v := .int .i64 ((pickN c zv.2.length : Nat) : Int)) rfl rfl rfl rfl rfl ent_20 (fun w hw => w_pick c zv.2.length hc1 hc2 (by omega)) ?_)
    refine RX.know (t := 32) (u := .int .i64 ((i : Nat) : Int)) rfl (congrArg (fun n : Nat => Value.int .i64 ((n : Nat) : Int)) hi) ?_
    refine RX.cons rfl rfl (op_w (yw_assign rfl rfl) rfl rfl ?_)
    refine RX.nil (XX.next (V' := [(1, _), (3, _), (4, _), (7, _), (11, _), (12, _)]) ⟨rfl, rfl, rfl, rfl, rfl, rfl, trivial⟩ ?_)
    refine CX.seq ?_
    refine CX.region ?_
    refine RX.cons rfl rfl (op_w (yw_move rfl rfl) rfl rfl ?_)
    refine RX.cons rfl rfl (op_w (yw_move rfl rfl) rfl rfl ?_)
    refine RX.cons rfl rfl (op_callE rfl rfl rfl rfl rfl ent_16 (fun w hw => w_prove zl.2 (hw.logAt (i := 0) rfl) hXl0 (by omega) (hG.keep hw (by simp)) i x0 hx0) (fun zq _ => ?_))
    refine RX.cons rfl rfl (op_w (yw_move rfl rfl) rfl rfl ?_)
    refine RX.cons rfl rfl (op_w (yw_extract rfl rfl rfl) rfl rfl ?_)
    refine RX.cons rfl rfl (op_w (yw_extract rfl rfl rfl) rfl rfl ?_)
    refine RX.cons rfl rfl (op_alloc rfl rfl rfl zero_37 fun g13 => ?_)
    refine RX.cons rfl rfl (op_storeAll (i := 0) rfl rfl rfl rfl szt_37 rfl (plain_of rfl) rfl rfl ?_)
    refine RX.cons rfl rfl (op_w (yw_assign rfl rfl) rfl rfl ?_)
    refine RX.nil (XX.next (V' := [(3, _), (4, _), (7, _), (11, _), (12, _), (13, _), (14, _)]) ⟨rfl, rfl, rfl, rfl, rfl, rfl, rfl, trivial⟩ ?_)
    refine CX.seq ?_
    refine CX.seq ?_
    refine CX.region ?_
    refine RX.cons rfl rfl (op_w (yw_move rfl rfl) rfl rfl ?_)
    refine RX.cons rfl rfl (op_w (yw_neq rfl rfl rfl) rfl rfl ?_)
    refine RX.know (t := 40) (u := .bool false) rfl (congrArg Value.bool (by decide)) ?_
    refine RX.nil (XX.next (V' := [(3, _), (4, _), (7, _), (11, _), (12, _), (13, _), (40, _)]) ⟨rfl, rfl, rfl, rfl, rfl, rfl, rfl, trivial⟩ ?_)
    refine CX.condF rfl ?_
    refine CX.skip (XX.next (V' := [(3, _), (4, _), (7, _), (11, _), (12, _), (13, _)]) ⟨rfl, rfl, rfl, rfl, rfl, rfl, trivial⟩ ?_)
    refine CX.seq ?_
    refine CX.region ?_
    refine RX.cons rfl rfl (op_yld (y_loadA (i := 0) rfl rfl agg_37 rfl rfl) rfl rfl ?_)
    refine RX.cons rfl rfl (op_alloc rfl rfl rfl zero_37 fun g15 => ?_)
    refine RX.cons rfl rfl (op_storeAll (i := 0) rfl rfl rfl rfl szt_37 rfl (plain_of rfl) rfl rfl ?_)
    refine RX.nil (XX.next (V' := [(3, _), (4, _), (7, _), (11, _), (12, _), (13, _), (15, _)]) ⟨rfl, rfl, rfl, rfl, rfl, rfl, rfl, trivial⟩ ?_)
    refine CX.seq ?_
    refine CX.region ?_
    refine RX.cons rfl rfl (op_yld (y_loadA (i := 7) rfl rfl agg_34 rfl rfl) rfl rfl ?_)
    refine RX.cons rfl rfl (op_buildSlice rfl rfl rfl slb_22 rfl rfl (by intro v hv; simp only [List.mem_cons, List.not_mem_nil, or_false] at hv; subst hv; exact ⟨rfl, (plain_of rfl)⟩) (by decide) fun sr1 => ?_)
    refine RX.cons rfl rfl (op_callE rfl rfl rfl rfl rfl ent_21 (fun w hw => w_cut ([x2]) (Ent.rd (hw.ents _ (List.mem_of_getElem? (i := 0) rfl))) (by intro x hx; simp only [List.mem_singleton] at hx; subst hx; exact hw.rd hr2 (by simp)) (by intro x hx; simp only [List.mem_singleton] at hx; subst hx; exact hc2') (by simp) (by intro x hx; simp only [List.mem_singleton] at hx; subst hx; exact hl2) 1 (by decide)) (fun zk hzk => ?_))
    have hk1 : zk.2.length = 1 := by rw [len_snd hzk]; rfl
    obtain ⟨u0, hu0⟩ := get_some (l := zk.2) (k := 0) (by omega)
    have hu0m := List.mem_of_getElem? hu0
    have hu8 : u0.2.ls.length ≤ 8 := of_snd (p := fun s => s.ls.length ≤ 8) hzk (cutL_short [x2] 1) u0 hu0m
    refine RX.rowSome 0 rfl (by rw [List.length_map]; omega) (fun hAk => ?_)
    refine RX.cons rfl rfl (op_w (yw_index (k := 0) rfl slt_22 rfl rfl (by omega) (by omega) hAk) rfl rfl ?_)
    refine RX.cons rfl rfl (op_yld (y_rowElem (i := 0) rfl rfl agg_34 rfl (map_get hu0)) rfl rfl ?_)
    refine RX.cons rfl rfl (op_w (yw_field0 rfl fld_37_0 rfl) rfl rfl ?_)
    refine RX.cons rfl rfl (op_store (i := 3) (cs' := #[.int .i64 (Stm.h u0.2), .int .i64 (Stm.c u0.2), .slice u0.1.1 (List.length (Stm.ls u0.2)) u0.1.2, .int .i64 ((i : Nat) : Int), .int .i64 (((List.length (zl.2 : List SX)) : Nat) : Int), .string (saltX zl.2 i), .slice zq.2.1 (List.length ((path sum (entsX zl.2) i).reverse : List ByteArray)) zq.2.2]) rfl rfl rfl rfl szt_34 rfl (plain_of rfl) rfl (Nat.le_of_ble_eq_true rfl) rfl ?_)
    refine RX.nil (XX.next (V' := [(3, _), (4, _), (11, _), (12, _), (13, _), (15, _)]) ⟨rfl, rfl, rfl, rfl, rfl, rfl, trivial⟩ ?_)
    refine CX.cut (σ := ByteArray) (fun sx => [(3, .string s3), (4, .string s4), (11, .bool true), (12, .pointer (some ⟨zl.1.1, 0, none⟩)), (13, .pointer (some ⟨g13, 0, none⟩)), (15, .pointer (some ⟨g15, 0, none⟩))]) (fun sx => [.row zk.1.1 zk.1.2 34 3 (List.map stC zk.2), pack (lns zk.2), .row (some ⟨sr1, 0, none⟩) 1 34 3 (List.map stC ([x2])), .blk g15 (.cells (#[.int .i64 (Stm.h u0.2), .int .i64 (Stm.c u0.2), .slice u0.1.1 (List.length (Stm.ls u0.2)) u0.1.2, .int .i64 ((i : Nat) : Int), .int .i64 (((List.length (zl.2 : List SX)) : Nat) : Int), .string sx, .slice zq.2.1 (List.length ((path sum (entsX zl.2) i).reverse : List ByteArray)) zq.2.2]) 37 (0, 0)), .blk g13 (.cells (prC x0.2 i (List.length (zl.2 : List SX)) (saltX zl.2 i) ((path sum (entsX zl.2) i).reverse) zq) 37 (0, 0)), .row zq.1.1 zq.1.2 57 3 (List.map lnC (Stm.ls x0.2)), .row zq.2.1 zq.2.2 9 1 (List.map strC ((path sum (entsX zl.2) i).reverse)), logE zl.1.1 zl.1.2 zl.2, .row zv.1.1 zv.1.2 34 3 (List.map stC zv.2), pack (lns zv.2), .blk g7 (.cells (stC x2) 34 (0, 0))]) (fun sx => sx.size ≤ 4294967296) ?_ (fun sx hsx => ?_)
    · refine CX.seq ?_
      refine CX.region ?_
      refine RX.cons rfl rfl (op_w (yw_move rfl rfl) rfl rfl ?_)
      refine RX.cons rfl rfl (op_w (yw_lenStr rfl Tryd.underlying9 rfl) rfl rfl ?_)
      refine RX.cons rfl rfl (op_w (yw_eql rfl rfl rfl) rfl rfl ?_)
      refine RX.nil (XX.next (V' := [(3, _), (4, _), (11, _), (12, _), (13, _), (15, _), (50, _)]) ⟨rfl, rfl, rfl, rfl, rfl, rfl, rfl, trivial⟩ ?_)
      refine CX.condD (p := ((ByteArray.size s3 : Nat) : Int) = 32) rfl (fun c50 => ?_) (fun c50 => ?_)
      · refine CX.region ?_
        refine RX.cons rfl rfl (op_w (yw_move rfl rfl) rfl rfl ?_)
        refine RX.cons rfl rfl (op_w (yw_fieldAddr rfl fld_37_3 rfl) rfl rfl ?_)
        refine RX.cons rfl rfl (op_store1 (i := 3) (cs' := #[.int .i64 (Stm.h u0.2), .int .i64 (Stm.c u0.2), .slice u0.1.1 (List.length (Stm.ls u0.2)) u0.1.2, .int .i64 ((i : Nat) : Int), .int .i64 (((List.length (zl.2 : List SX)) : Nat) : Int), .string s3, .slice zq.2.1 (List.length ((path sum (entsX zl.2) i).reverse : List ByteArray)) zq.2.2]) rfl rfl rfl rfl szt_9 rfl rfl rfl rfl ?_)
        refine RX.nil (XX.meetP ([]) s3 (by omega) ⟨rfl, rfl, rfl, rfl, rfl, rfl, trivial⟩ (perm_nil _))
      · refine CX.skip (XX.meetP ([]) (saltX zl.2 i) (by rw [saltX_size]; decide) ⟨rfl, rfl, rfl, rfl, rfl, rfl, trivial⟩ (perm_nil _))
    · refine CX.seq ?_
      refine CX.region ?_
      refine RX.cons rfl rfl (op_buildSlice rfl rfl rfl slb_35 rfl rfl (by intro v hv; simp at hv) (by decide) fun qp => ?_)
      refine RX.cons rfl rfl (op_w (yw_fieldAddr rfl fld_37_4 rfl) rfl rfl ?_)
      refine RX.cons rfl rfl (op_yld (y_load (i := 5) rfl rfl one_35 rfl rfl) rfl rfl ?_)
      refine RX.cons rfl rfl (op_appendM strC (i := 0) (j := 7) (xs := []) ((path sum (entsX zl.2) i).reverse) rfl rfl rfl slb_35 rfl rfl rfl rfl rfl rfl (by have := path_len zl.2 i; rw [List.length_nil]; omega) (by have := path_len zl.2 i; rw [List.length_nil]; omega) fun A8 c8 => ?_)
      refine RX.cons rfl rfl (op_w (yw_fieldAddr rfl fld_37_4 rfl) rfl rfl ?_)
      refine RX.cons rfl rfl (op_store1 (i := 4) (cs' := #[.int .i64 (Stm.h u0.2), .int .i64 (Stm.c u0.2), .slice u0.1.1 (List.length (Stm.ls u0.2)) u0.1.2, .int .i64 ((i : Nat) : Int), .int .i64 (((List.length (zl.2 : List SX)) : Nat) : Int), .string sx, .slice A8 (([] ++ (path sum (entsX zl.2) i).reverse).length) c8]) rfl rfl rfl rfl szt_35 rfl rfl rfl rfl ?_)
      refine RX.nil (XX.next (V' := [(3, _), (4, _), (11, _), (12, _), (13, _), (15, _)]) ⟨rfl, rfl, rfl, rfl, rfl, rfl, trivial⟩ ?_)
      refine CX.cut (σ := List ByteArray) (fun ps => [(11, .bool true), (12, .pointer (some ⟨zl.1.1, 0, none⟩)), (13, .pointer (some ⟨g13, 0, none⟩)), (15, .pointer (some ⟨g15, 0, none⟩))]) (fun ps => [.row A8 c8 9 1 (List.map strC ps), .row zk.1.1 zk.1.2 34 3 (List.map stC zk.2), pack (lns zk.2), .row (some ⟨sr1, 0, none⟩) 1 34 3 (List.map stC ([x2])), .blk g15 (.cells (#[.int .i64 (Stm.h u0.2), .int .i64 (Stm.c u0.2), .slice u0.1.1 (List.length (Stm.ls u0.2)) u0.1.2, .int .i64 ((i : Nat) : Int), .int .i64 (((List.length (zl.2 : List SX)) : Nat) : Int), .string sx, .slice A8 (List.length (ps : List ByteArray)) c8]) 37 (0, 0)), .blk g13 (.cells (prC x0.2 i (List.length (zl.2 : List SX)) (saltX zl.2 i) ((path sum (entsX zl.2) i).reverse) zq) 37 (0, 0)), .row zq.1.1 zq.1.2 57 3 (List.map lnC (Stm.ls x0.2)), .row zq.2.1 zq.2.2 9 1 (List.map strC ((path sum (entsX zl.2) i).reverse)), logE zl.1.1 zl.1.2 zl.2, .row zv.1.1 zv.1.2 34 3 (List.map stC zv.2), pack (lns zv.2), .blk g7 (.cells (stC x2) 34 (0, 0))]) (fun ps => ps.length ≤ 1000) ?_ (fun ps hps => ?_)
      · refine CX.seq ?_
        refine CX.region ?_
        refine RX.cons rfl rfl (op_w (yw_move rfl rfl) rfl rfl ?_)
        refine RX.cons rfl rfl (op_w (yw_lenStr rfl Tryd.underlying9 rfl) rfl rfl ?_)
        refine RX.cons rfl rfl (op_w (yw_eql rfl rfl rfl) rfl rfl ?_)
        refine RX.cons rfl rfl (op_w (yw_move rfl rfl) rfl rfl ?_)
        refine RX.splitD (t := 61) (p := ((ByteArray.size s4 : Nat) : Int) = 32) rfl (fun d61 => ?_) (fun d61 => ?_)
        · refine RX.consG rfl rfl rfl rfl rfl (op_w (yw_fieldAddr rfl fld_37_4 rfl) rfl rfl ?_)
          refine RX.consG rfl rfl rfl rfl rfl (op_yld (y_load (i := 4) rfl rfl one_35 rfl rfl) rfl rfl ?_)
          refine RX.consG rfl rfl rfl rfl rfl (op_w (yw_lenS rfl Tryd.underlying35 rfl) rfl rfl ?_)
          refine RX.consG rfl rfl rfl rfl rfl (op_w (yw_gtr rfl rfl rfl) rfl rfl ?_)
          refine RX.cons rfl rfl (op_w (yw_pickT rfl rfl rfl) rfl rfl ?_)
          refine RX.nil (XX.next (V' := [(3, _), (4, _), (11, _), (12, _), (13, _), (15, _), (66, _)]) ⟨rfl, rfl, rfl, rfl, rfl, rfl, rfl, trivial⟩ ?_)
          refine CX.condD (p := 0 < (((([] ++ (path sum (entsX zl.2) i).reverse).length) : Nat) : Int)) rfl (fun c66 => ?_) (fun c66 => ?_)
          · obtain ⟨j, hj⟩ : ∃ j, pickN ((s3.size : Nat) : Int) (List.length ([] ++ (path sum (entsX zl.2) i).reverse)) = j := ⟨_, rfl⟩
            have hjl : j < List.length ([] ++ (path sum (entsX zl.2) i).reverse) := by rw [← hj]; exact pickN_lt _ (by omega)
            refine CX.rowSome 0 rfl (by rw [List.length_map]; omega) (fun hAq => ?_)
            refine CX.draw 10 [(0, 32768, 147573952589676412928), (1, 147573952589676412928, 295147905179352825856), (0, 8, 590295810358705651712), (4, 590295810358705651712, 1180591620717411303424), (0, 32768, 2361183241434822606848), (16, 2361183241434822606848, 4722366482869645213696), (32, 4722366482869645213696, 9444732965739290427392), (72, 10625324586456701730816, 18889465931478580854784), (0, 16, 37778931862957161709568), (511, 19184613836657933680640, 75557863725914323419136), (1023, 113336795588871485128704, 0)] (by kernel_rfl) (by kernel_rfl) (by kernel_rfl) ?_
            refine DX.takeW 0 1 (by kernel_rfl) rfl rfl rfl rfl rfl (yw_fieldAddr rfl fld_37_4 rfl) ?_
            refine DX.take 1 3 (by kernel_rfl) rfl rfl rfl rfl rfl (List.Sublist.refl _) (y_load (i := 4) rfl rfl one_35 rfl rfl) ?_
            refine DX.takeW 2 7 (by kernel_rfl) rfl rfl rfl rfl rfl (yw_move rfl rfl) ?_
            refine DX.takeW 3 15 (by kernel_rfl) rfl rfl rfl rfl rfl (yw_lenStr rfl Tryd.underlying9 rfl) ?_
            refine DX.takeW 4 31 (by kernel_rfl) rfl rfl rfl rfl rfl (yw_fieldAddr rfl fld_37_4 rfl) ?_
            refine DX.take 5 63 (by kernel_rfl) rfl rfl rfl rfl rfl (List.Sublist.refl _) (y_load (i := 4) rfl rfl one_35 rfl rfl) ?_
            refine DX.takeW 6 127 (by kernel_rfl) rfl rfl rfl rfl rfl (yw_lenS rfl Tryd.underlying35 rfl) ?_
            refine DX.takeW 8 383 (by kernel_rfl) rfl rfl rfl rfl rfl (yw_move rfl rfl) ?_
            refine DX.step 7 511 (by kernel_rfl) rfl rfl rfl (op_callV (v := .int .i64 ((pickN ((ByteArray.size s3 : Nat) : Int) (List.length ([] ++ (path sum (entsX zl.2) i).reverse)) : Nat) : Int)) rfl rfl rfl rfl rfl ent_20 (fun w hw => w_pick ((ByteArray.size s3 : Nat) : Int) (List.length ([] ++ (path sum (entsX zl.2) i).reverse)) (by omega) (by omega) (by omega)) (DXs.mk (List.Sublist.refl _) ?_))
            refine DX.know (t := 74) (u := .int .i64 ((j : Nat) : Int)) rfl (congrArg (fun n : Nat => Value.int .i64 ((n : Nat) : Int)) hj) ?_
            refine DX.takeW 9 1023 (by kernel_rfl) rfl rfl rfl rfl rfl (yw_index (k := j) rfl slt_35 rfl rfl (by omega) (by omega) hAq) ?_
            refine DX.stepT 10 2047 (by kernel_rfl) rfl rfl rfl rfl (op_storeElemE (i := 0) (k := j) (ys := List.map strC (List.set ([] ++ (path sum (entsX zl.2) i).reverse) j s4)) rfl rfl rfl rfl szt_9 rfl (plain_of rfl) rfl (by rw [List.length_map]; omega) (by rw [List.map_set]; rfl) ?_)
            refine DX.know1 4 (q := .blk g15 (.cells (#[.int .i64 (Stm.h u0.2), .int .i64 (Stm.c u0.2), .slice u0.1.1 (List.length (Stm.ls u0.2)) u0.1.2, .int .i64 ((i : Nat) : Int), .int .i64 (((List.length (zl.2 : List SX)) : Nat) : Int), .string sx, .slice A8 (List.length ((List.set ([] ++ (path sum (entsX zl.2) i).reverse) j s4) : List ByteArray)) c8]) 37 (0, 0))) rfl (by rw [List.length_set]) ?_
            refine DX.done (by kernel_rfl) (XX.meetP ([]) (List.set ([] ++ (path sum (entsX zl.2) i).reverse) j s4) (by have := path_len zl.2 i; rw [List.length_set, List.nil_append]; omega) ⟨rfl, rfl, rfl, rfl, trivial⟩ (perm_nil _))
          · refine CX.skip (XX.meetP ([]) ([] ++ (path sum (entsX zl.2) i).reverse) (by have := path_len zl.2 i; rw [List.nil_append]; omega) ⟨rfl, rfl, rfl, rfl, trivial⟩ (perm_nil _))
        · refine RX.skip rfl rfl rfl rfl rfl rfl rfl ?_
          refine RX.skip rfl rfl rfl rfl rfl rfl rfl ?_
          refine RX.skip rfl rfl rfl rfl rfl rfl rfl ?_
          refine RX.skip rfl rfl rfl rfl rfl rfl rfl ?_
          refine RX.cons rfl rfl (op_w (yw_pickF rfl rfl rfl) rfl rfl ?_)
          refine RX.nil (XX.next (V' := [(3, _), (4, _), (11, _), (12, _), (13, _), (15, _), (66, _)]) ⟨rfl, rfl, rfl, rfl, rfl, rfl, rfl, trivial⟩ ?_)
          refine CX.condF rfl ?_
          refine CX.skip (XX.meetP ([]) ([] ++ (path sum (entsX zl.2) i).reverse) (by have := path_len zl.2 i; rw [List.nil_append]; omega) ⟨rfl, rfl, rfl, rfl, trivial⟩ (perm_nil _))
      · refine CX.seq ?_
        refine CX.seq ?_
        refine CX.draw 5 [(0, 4096, 151115727451828646838272), (1, 151115727451828646838272, 302231454903657293676544), (0, 32768, 604462909807314587353088), (6, 906694364710971881029632, 1208925819614629174706176), (8, 1208925819614629174706176, 2417851639229258349412352)] (by kernel_rfl) (by kernel_rfl) (by kernel_rfl) ?_
        refine DX.takeW 0 1 (by kernel_rfl) rfl rfl rfl rfl rfl (yw_move rfl rfl) ?_
        refine DX.take 2 5 (by kernel_rfl) rfl rfl rfl rfl rfl (List.Sublist.refl _) (y_loadA (i := 4) rfl rfl agg_37 rfl rfl) ?_
        refine DX.step 1 7 (by kernel_rfl) rfl rfl rfl (op_callV (v := .string (root sum (entsX zl.2))) rfl rfl rfl rfl rfl ent_15 (fun w hw => w_rootE zl.2 (hw.logAt (i := 8) rfl) hXl0 (by omega) (hG.keep hw (by simp))) (DXs.mk (List.Sublist.refl _) ?_))
        refine DX.step 3 15 (by kernel_rfl) rfl rfl rfl (op_callV (v := .bool (okS u0.2 && (decide (ByteArray.size sx = 32) && verN (root sum (entsX zl.2)) (List.length (zl.2 : List SX)) i (sx ++ encS u0.2) ps))) rfl rfl rfl rfl rfl ent_18 (fun w hw => w_logVerify (root sum (entsX zl.2)) u0.2 i (List.length (zl.2 : List SX)) sx ps ((u0.1, (A8, c8)) : LZ) (hG.keep hw (by simp)) (lnsRd hw (i := 2) rfl u0 hu0m) (by omega) (Ent.rd (hw.ents _ (List.mem_of_getElem? (i := 0) rfl))) (by have h8 := Ent.capLe (hw.ents _ (List.mem_of_getElem? (i := 0) rfl)); rwa [List.length_map] at h8) (by omega) (by omega) (by omega) hsx) (DXs.mk (List.Sublist.refl _) ?_))
        refine DX.takeW 4 31 (by kernel_rfl) rfl rfl rfl rfl rfl (yw_not rfl rfl) ?_
        refine DX.done (by kernel_rfl) (XX.next (V' := [(11, _), (13, _), (15, _), (81, _)]) ⟨rfl, rfl, rfl, rfl, trivial⟩ ?_)
        refine CX.cond (b := !(okS u0.2 && (decide (ByteArray.size sx = 32) && verN (root sum (entsX zl.2)) (List.length (zl.2 : List SX)) i (sx ++ encS u0.2) ps))) rfl (fun c81 => ?_) (fun c81 => ?_)
        · refine CX.seq ?_
          refine CX.region ?_
          refine RX.cons rfl rfl (op_w (yw_move rfl rfl) rfl rfl ?_)
          refine RX.cons rfl rfl (op_w (yw_assign rfl rfl) rfl rfl ?_)
          refine RX.nil (XX.next (V' := [(10, .bool true)]) ⟨rfl, trivial⟩ ?_)
          refine CX.ret ?_
          refine XX.then_ret ?_
          exact ret_tmp rfl rfl fun w1 hw => ⟨rfl, hw.sub (List.nil_sublist _)⟩
        · obtain ⟨hbt, hb32, hbs, hbc⟩ := bind_law hx0 hokx0 (by simpa using c81)
          have hplen := path_len zl.2 i
          have hq1 : (preF sum (saltX zl.2 i ++ encS x0.2) (List.reverse (path sum (entsX zl.2) i).reverse) (List.length (zl.2 : List SX)) i).length ≤ 1000000 := by
            have h8 := pre_length (saltX zl.2 i ++ encS x0.2) (List.reverse (path sum (entsX zl.2) i).reverse) (List.length (zl.2 : List SX)) i
            rw [List.length_reverse] at h8
            omega
          have hq2 : (preF sum (sx ++ encS u0.2) (List.reverse ps) (List.length (zl.2 : List SX)) i).length ≤ 1000000 := by
            have h8 := pre_length (sx ++ encS u0.2) (List.reverse ps) (List.length (zl.2 : List SX)) i
            rw [List.length_reverse] at h8
            omega
          have hq3 : ∀ s ∈ (preF sum (saltX zl.2 i ++ encS x0.2) (List.reverse (path sum (entsX zl.2) i).reverse) (List.length (zl.2 : List SX)) i), s.size ≤ 17592186044416 := fun s hs => by
            have h8 := pre_sizes _ (b := 4294967296) (by decide) (word_le x0.2 (hXl0 x0 hx0m) _ (saltX_size zl.2 i)) _ _ _ (fun x hx => (path_verifies (entsX_get hx0)).1 x (List.mem_reverse.1 hx)) s hs
            omega
          have hq4 : ∀ s ∈ (preF sum (sx ++ encS u0.2) (List.reverse ps) (List.length (zl.2 : List SX)) i), s.size ≤ 17592186044416 := fun s hs => by
            have h8 := pre_sizes _ (b := 4294967296) (by decide) (word_le u0.2 (by omega) _ hbs) _ _ _ (fun x hx => hb32 x (List.mem_reverse.1 hx)) s hs
            omega
          refine CX.skip (XX.next (V' := [(11, _), (13, _), (15, _)]) ⟨rfl, rfl, rfl, trivial⟩ ?_)
          refine CX.seq ?_
          refine CX.region ?_
          refine RX.cons rfl rfl (op_w (yw_field0 rfl fld_37_0 rfl) rfl rfl ?_)
          refine RX.cons rfl rfl (op_yld (y_loadP (i := 5) (vs := #[.int .i64 (Stm.h x0.2), .int .i64 (Stm.c x0.2), .slice zq.1.1 (List.length (Stm.ls x0.2)) zq.1.2]) rfl rfl agg_34 rfl rfl (fun k hk => by match k, hk with | 0, _ => rfl | 1, _ => rfl | 2, _ => rfl)) rfl rfl ?_)
          refine RX.cons rfl rfl (op_callV (v := .tuple #[.string (encS x0.2), .int .i64 0]) rfl rfl rfl rfl rfl ent_22 (fun w hw => by have h := w_encode19 (cap := zq.1.2) x0.2 (Ent.rd (hw.ents _ (List.mem_of_getElem? (i := 6) rfl))) (hXl0 x0 hx0m); rw [encR_ok hokx0] at h; exact h) ?_)
          refine RX.cons rfl rfl (op_w (yw_move rfl rfl) rfl rfl ?_)
          refine RX.cons rfl rfl (op_w (yw_extract rfl rfl rfl) rfl rfl ?_)
          refine RX.cons rfl rfl (op_w (yw_extract rfl rfl rfl) rfl rfl ?_)
          refine RX.cons rfl rfl (op_w (yw_assign rfl rfl) rfl rfl ?_)
          refine RX.cons rfl rfl (op_w (yw_assign rfl rfl) rfl rfl ?_)
          refine RX.nil (XX.next (V' := [(11, _), (13, _), (14, _), (15, _), (16, _)]) ⟨rfl, rfl, rfl, rfl, rfl, trivial⟩ ?_)
          refine CX.seq ?_
          refine CX.region ?_
          refine RX.cons rfl rfl (op_w (yw_field0 rfl fld_37_0 rfl) rfl rfl ?_)
          refine RX.cons rfl rfl (op_yld (y_loadP (i := 4) (vs := #[.int .i64 (Stm.h u0.2), .int .i64 (Stm.c u0.2), .slice u0.1.1 (List.length (Stm.ls u0.2)) u0.1.2]) rfl rfl agg_34 rfl rfl (fun k hk => by match k, hk with | 0, _ => rfl | 1, _ => rfl | 2, _ => rfl)) rfl rfl ?_)
          refine RX.cons rfl rfl (op_callV (v := .tuple #[.string (encS u0.2), .int .i64 0]) rfl rfl rfl rfl rfl ent_22 (fun w hw => by have h := w_encode19 (cap := u0.1.2) u0.2 (lnsRd hw (i := 2) rfl u0 hu0m) (by omega); rw [encR_ok hbt] at h; exact h) ?_)
          refine RX.cons rfl rfl (op_w (yw_move rfl rfl) rfl rfl ?_)
          refine RX.cons rfl rfl (op_w (yw_extract rfl rfl rfl) rfl rfl ?_)
          refine RX.cons rfl rfl (op_w (yw_extract rfl rfl rfl) rfl rfl ?_)
          refine RX.cons rfl rfl (op_w (yw_assign rfl rfl) rfl rfl ?_)
          refine RX.cons rfl rfl (op_w (yw_assign rfl rfl) rfl rfl ?_)
          refine RX.nil (XX.next (V' := [(11, _), (13, _), (14, _), (15, _), (16, _), (17, _), (18, _)]) ⟨rfl, rfl, rfl, rfl, rfl, rfl, rfl, trivial⟩ ?_)
          refine CX.seq ?_
          refine CX.seq ?_
          refine CX.region ?_
          refine RX.cons rfl rfl (op_w (yw_move rfl rfl) rfl rfl ?_)
          refine RX.cons rfl rfl (op_w (yw_neq rfl rfl rfl) rfl rfl ?_)
          refine RX.know (t := 96) (u := .bool false) rfl (congrArg Value.bool (by decide)) ?_
          refine RX.cons rfl rfl (op_w (yw_move rfl rfl) rfl rfl ?_)
          refine RX.consG rfl rfl rfl rfl rfl (op_w (yw_move rfl rfl) rfl rfl ?_)
          refine RX.consG rfl rfl rfl rfl rfl (op_w (yw_neq rfl rfl rfl) rfl rfl ?_)
          refine RX.know (t := 99) (u := .bool false) rfl (congrArg Value.bool (by decide)) ?_
          refine RX.cons rfl rfl (op_w (yw_pickF rfl rfl rfl) rfl rfl ?_)
          refine RX.nil (XX.next (V' := [(11, _), (13, _), (15, _), (16, _), (17, _), (100, _)]) ⟨rfl, rfl, rfl, rfl, rfl, rfl, trivial⟩ ?_)
          refine CX.condF rfl ?_
          refine CX.skip (XX.next (V' := [(11, _), (13, _), (15, _), (16, _), (17, _)]) ⟨rfl, rfl, rfl, rfl, rfl, trivial⟩ ?_)
          refine CX.seq ?_
          refine CX.region ?_
          refine RX.cons rfl rfl (op_w (yw_field0 rfl fld_37_0 rfl) rfl rfl ?_)
          refine RX.cons rfl rfl (op_yld (y_loadP (i := 5) (vs := #[.int .i64 (Stm.h x0.2), .int .i64 (Stm.c x0.2), .slice zq.1.1 (List.length (Stm.ls x0.2)) zq.1.2]) rfl rfl agg_34 rfl rfl (fun k hk => by match k, hk with | 0, _ => rfl | 1, _ => rfl | 2, _ => rfl)) rfl rfl ?_)
          refine RX.cons rfl rfl (op_w (yw_field0 rfl fld_37_0 rfl) rfl rfl ?_)
          refine RX.cons rfl rfl (op_yld (y_loadP (i := 4) (vs := #[.int .i64 (Stm.h u0.2), .int .i64 (Stm.c u0.2), .slice u0.1.1 (List.length (Stm.ls u0.2)) u0.1.2]) rfl rfl agg_34 rfl rfl (fun k hk => by match k, hk with | 0, _ => rfl | 1, _ => rfl | 2, _ => rfl)) rfl rfl ?_)
          refine RX.cons rfl rfl (op_callV (v := .bool (decide (x0.2 = u0.2))) rfl rfl rfl rfl rfl ent_17 (fun w hw => w_same x0.2 u0.2 (Ent.rd (hw.ents _ (List.mem_of_getElem? (i := 6) rfl))) (lnsRd hw (i := 2) rfl u0 hu0m) (hXl0 x0 hx0m)) ?_)
          refine RX.cons rfl rfl (op_w (yw_move rfl rfl) rfl rfl ?_)
          refine RX.splitD (t := 106) (p := x0.2 = u0.2) rfl (fun d106 => ?_) (fun d106 => ?_)
          · refine RX.consG rfl rfl rfl rfl rfl (op_w (yw_fieldAddr rfl fld_37_3 rfl) rfl rfl ?_)
            refine RX.consG rfl rfl rfl rfl rfl (op_yld (y_load (i := 5) rfl rfl one_9 rfl rfl) rfl rfl ?_)
            refine RX.consG rfl rfl rfl rfl rfl (op_w (yw_fieldAddr rfl fld_37_3 rfl) rfl rfl ?_)
            refine RX.consG rfl rfl rfl rfl rfl (op_yld (y_load (i := 4) rfl rfl one_9 rfl rfl) rfl rfl ?_)
            refine RX.consG rfl rfl rfl rfl rfl (op_w (yw_streq rfl rfl rfl) rfl rfl ?_)
            refine RX.cons rfl rfl (op_w (yw_pickT rfl rfl rfl) rfl rfl ?_)
            refine RX.cons rfl rfl (op_w (yw_assign rfl rfl) rfl rfl ?_)
            refine RX.nil (XX.next (V' := [(11, _), (13, _), (15, _), (16, _), (17, _), (19, _)]) ⟨rfl, rfl, rfl, rfl, rfl, rfl, trivial⟩ ?_)
            refine CX.seq ?_
            refine CX.draw 30 [(0, 2048, 10384593717069655257060992658440192), (1, 10384593717069655257060992658440192, 20769187434139310514121985316880384), (2, 20769187434139310514121985317404672, 41538374868278621028243970633760768), (6, 62307562302417931542365955950641152, 83076749736557242056487941267521536), (8, 83076749736557242056487941267529728, 166153499473114484112975882535043072), (24, 249230249209671726169463823802564608, 332306998946228968225951765070086144), (8, 83076749736557242056487941267587072, 664613997892457936451903530140172288), (104, 1079997746575244146734343236477779968, 1329227995784915872903807060280344576), (8, 83076749736557242056487941267529728, 2658455991569831745807614120560689152), (264, 2741532741306388987864102061828210688, 5316911983139663491615228241121378304), (8, 83076749736557242056487941267529728, 10633823966279326983230456482242756608), (1032, 10716900716015884225286944423510278144, 21267647932558653966460912964485513216), (8, 83076749736557242056487941267529728, 42535295865117307932921825928971026432), (4104, 42618372614853865174978313870238547968, 85070591730234615865843651857942052864), (10888, 113067456391454406438880088065096810496, 170141183460469231731687303715884105728), (8, 83076749736557242056487941267554304, 340282366920938463463374607431768211456), (32776, 340365443670675020705431095373035732992, 680564733841876926926749214863536422912), (8, 83076749736557242056487941267652608, 1361129467683753853853498429727072845824), (196616, 2041777278275367338022304132531876790272, 2722258935367507707706996859454145691648), (8, 83076749736557242056487941267554304, 5444517870735015415413993718908291383296), (524296, 5444600947484751972656050206849558904832, 10889035741470030830827987437816582766592), (8, 83076749736557242056487941267554304, 21778071482940061661655974875633165533184), (2097160, 21778154559689798218898031363574433054720, 43556142965880123323311949751266331066368), (8, 83076749736557242056487941267554304, 87112285931760246646623899502532662132736), (8388616, 87112369008509983203865955990473929654272, 174224571863520493293247799005065324265472), (22298632, 231392092582987891712336789541543651311616, 348449143727040986586495598010130648530944), (33570824, 348619367987251192375469341801787800158208, 696898287454081973172991196020261297061888), (67108874, 696898391300019143869543766630187881463808, 1393796574908163946345982392040522594123776), (134217730, 1393796595677351380485292906162507911004160, 2787593149816327892691964784081045188247552), (536870911, 2787593149816327892691964784081045188247552, 1024)] (by kernel_rfl) (by kernel_rfl) (by kernel_rfl) ?_
            refine DX.takeW 0 1 (by kernel_rfl) rfl rfl rfl rfl rfl (yw_move rfl rfl) ?_
            refine DX.takeW 1 3 (by kernel_rfl) rfl rfl rfl rfl rfl (yw_move rfl rfl) ?_
            refine DX.takeWG 2 7 (by kernel_rfl) rfl rfl rfl rfl rfl rfl rfl rfl (yw_move rfl rfl) ?_
            refine DX.takeWG 3 15 (by kernel_rfl) rfl rfl rfl rfl rfl rfl rfl rfl (yw_move rfl rfl) ?_
            refine DX.splitD (t := 116) (p := ByteArray.toList (saltX zl.2 i) = ByteArray.toList sx) rfl (fun d116 => ?_) (fun d116 => ?_)
            · refine DX.skip 4 31 (by kernel_rfl) rfl rfl rfl rfl rfl rfl rfl rfl ?_
              refine DX.skip 5 63 (by kernel_rfl) rfl rfl rfl rfl rfl rfl rfl rfl ?_
              refine DX.skip 6 127 (by kernel_rfl) rfl rfl rfl rfl rfl rfl rfl rfl ?_
              refine DX.skip 7 255 (by kernel_rfl) rfl rfl rfl rfl rfl rfl rfl rfl ?_
              refine DX.skip 8 511 (by kernel_rfl) rfl rfl rfl rfl rfl rfl rfl rfl ?_
              refine DX.skip 9 1023 (by kernel_rfl) rfl rfl rfl rfl rfl rfl rfl rfl ?_
              refine DX.skip 10 2047 (by kernel_rfl) rfl rfl rfl rfl rfl rfl rfl rfl ?_
              refine DX.skip 11 4095 (by kernel_rfl) rfl rfl rfl rfl rfl rfl rfl rfl ?_
              refine DX.skip 12 8191 (by kernel_rfl) rfl rfl rfl rfl rfl rfl rfl rfl ?_
              refine DX.skip 13 16383 (by kernel_rfl) rfl rfl rfl rfl rfl rfl rfl rfl ?_
              refine DX.skip 14 32767 (by kernel_rfl) rfl rfl rfl rfl rfl rfl rfl rfl ?_
              refine DX.skip 15 65535 (by kernel_rfl) rfl rfl rfl rfl rfl rfl rfl rfl ?_
              refine DX.skip 16 131071 (by kernel_rfl) rfl rfl rfl rfl rfl rfl rfl rfl ?_
              refine DX.skip 17 262143 (by kernel_rfl) rfl rfl rfl rfl rfl rfl rfl rfl ?_
              refine DX.skip 18 524287 (by kernel_rfl) rfl rfl rfl rfl rfl rfl rfl rfl ?_
              refine DX.skip 19 1048575 (by kernel_rfl) rfl rfl rfl rfl rfl rfl rfl rfl ?_
              refine DX.skip 20 2097151 (by kernel_rfl) rfl rfl rfl rfl rfl rfl rfl rfl ?_
              refine DX.skip 21 4194303 (by kernel_rfl) rfl rfl rfl rfl rfl rfl rfl rfl ?_
              refine DX.skip 22 8388607 (by kernel_rfl) rfl rfl rfl rfl rfl rfl rfl rfl ?_
              refine DX.skip 23 16777215 (by kernel_rfl) rfl rfl rfl rfl rfl rfl rfl rfl ?_
              refine DX.skip 24 33554431 (by kernel_rfl) rfl rfl rfl rfl rfl rfl rfl rfl ?_
              refine DX.skip 25 67108863 (by kernel_rfl) rfl rfl rfl rfl rfl rfl rfl rfl ?_
              refine DX.skip 26 134217727 (by kernel_rfl) rfl rfl rfl rfl rfl rfl rfl rfl ?_
              refine DX.takeWG 27 268435455 (by kernel_rfl) rfl rfl rfl rfl rfl rfl rfl rfl (yw_pickT rfl rfl rfl) ?_
              refine DX.takeW 28 536870911 (by kernel_rfl) rfl rfl rfl rfl rfl (yw_pickT rfl rfl rfl) ?_
              refine DX.takeW 29 1073741823 (by kernel_rfl) rfl rfl rfl rfl rfl (yw_assign rfl rfl) ?_
              refine DX.done (by kernel_rfl) (XX.next (V' := [(10, .bool true)]) ⟨rfl, trivial⟩ ?_)
              refine CX.ret ?_
              exact ret_tmp rfl rfl fun w1 hw => ⟨rfl, hw.sub (List.nil_sublist _)⟩
            · refine DX.takeWG 4 31 (by kernel_rfl) rfl rfl rfl rfl rfl rfl rfl rfl (yw_fieldAddr rfl fld_37_3 rfl) ?_
              refine DX.takeG 5 63 (by kernel_rfl) rfl rfl rfl rfl rfl rfl rfl rfl (List.Sublist.refl _) (y_load (i := 5) rfl rfl one_9 rfl rfl) ?_
              refine DX.takeWG 6 127 (by kernel_rfl) rfl rfl rfl rfl rfl rfl rfl rfl (yw_move rfl rfl) ?_
              refine DX.takeWG 7 255 (by kernel_rfl) rfl rfl rfl rfl rfl rfl rfl rfl (yw_stradd rfl rfl rfl (by rw [saltX_size]; have := encS_size x0.2; have := hXl0 x0 hx0m; omega)) ?_
              refine DX.takeWG 8 511 (by kernel_rfl) rfl rfl rfl rfl rfl rfl rfl rfl (yw_fieldAddr rfl fld_37_2 rfl) ?_
              refine DX.takeG 9 1023 (by kernel_rfl) rfl rfl rfl rfl rfl rfl rfl rfl (List.Sublist.refl _) (y_load (i := 5) rfl rfl one_3 rfl rfl) ?_
              refine DX.takeWG 10 2047 (by kernel_rfl) rfl rfl rfl rfl rfl rfl rfl rfl (yw_fieldAddr rfl fld_37_1 rfl) ?_
              refine DX.takeG 11 4095 (by kernel_rfl) rfl rfl rfl rfl rfl rfl rfl rfl (List.Sublist.refl _) (y_load (i := 5) rfl rfl one_3 rfl rfl) ?_
              refine DX.takeWG 12 8191 (by kernel_rfl) rfl rfl rfl rfl rfl rfl rfl rfl (yw_fieldAddr rfl fld_37_4 rfl) ?_
              refine DX.takeG 13 16383 (by kernel_rfl) rfl rfl rfl rfl rfl rfl rfl rfl (List.Sublist.refl _) (y_load (i := 5) rfl rfl one_35 rfl rfl) ?_
              refine DX.takeWG 15 49151 (by kernel_rfl) rfl rfl rfl rfl rfl rfl rfl rfl (yw_fieldAddr rfl fld_37_3 rfl) ?_
              refine DX.takeG 16 114687 (by kernel_rfl) rfl rfl rfl rfl rfl rfl rfl rfl (List.Sublist.refl _) (y_load (i := 4) rfl rfl one_9 rfl rfl) ?_
              refine DX.takeWG 17 245759 (by kernel_rfl) rfl rfl rfl rfl rfl rfl rfl rfl (yw_move rfl rfl) ?_
              refine DX.takeWG 18 507903 (by kernel_rfl) rfl rfl rfl rfl rfl rfl rfl rfl (yw_stradd rfl rfl rfl (by rw [hbs]; have := encS_size u0.2; omega)) ?_
              refine DX.takeWG 19 1032191 (by kernel_rfl) rfl rfl rfl rfl rfl rfl rfl rfl (yw_fieldAddr rfl fld_37_2 rfl) ?_
              refine DX.takeG 20 2080767 (by kernel_rfl) rfl rfl rfl rfl rfl rfl rfl rfl (List.Sublist.refl _) (y_load (i := 4) rfl rfl one_3 rfl rfl) ?_
              refine DX.takeWG 21 4177919 (by kernel_rfl) rfl rfl rfl rfl rfl rfl rfl rfl (yw_fieldAddr rfl fld_37_1 rfl) ?_
              refine DX.takeG 22 8372223 (by kernel_rfl) rfl rfl rfl rfl rfl rfl rfl rfl (List.Sublist.refl _) (y_load (i := 4) rfl rfl one_3 rfl rfl) ?_
              refine DX.takeWG 23 16760831 (by kernel_rfl) rfl rfl rfl rfl rfl rfl rfl rfl (yw_fieldAddr rfl fld_37_4 rfl) ?_
              refine DX.takeG 24 33538047 (by kernel_rfl) rfl rfl rfl rfl rfl rfl rfl rfl (List.Sublist.refl _) (y_load (i := 4) rfl rfl one_35 rfl rfl) ?_
              refine DX.stepG 14 33554431 (by kernel_rfl) rfl rfl rfl rfl rfl rfl (op_callE rfl rfl rfl rfl rfl ent_24 (fun w hw => w_pre24 ((saltX zl.2 i) ++ (encS x0.2)) (List.length (zl.2 : List SX)) i ((path sum (entsX zl.2) i).reverse) (Ent.rd (hw.ents _ (List.mem_of_getElem? (i := 7) rfl))) (by have h8 := Ent.capLe (hw.ents _ (List.mem_of_getElem? (i := 7) rfl)); rwa [List.length_map] at h8) (by have := path_len zl.2 i; omega) (path_verifies (entsX_get hx0)).1 (word_le x0.2 (hXl0 x0 hx0m) _ (saltX_size _ _)) (by omega) (by omega)) (fun zy _ => (DXs.mk (List.Sublist.cons _ (List.Sublist.refl _)) ?_)))
              refine DX.stepG 25 67108863 (by kernel_rfl) rfl rfl rfl rfl rfl rfl (op_callE rfl rfl rfl rfl rfl ent_24 (fun w hw => w_pre24 (sx ++ (encS u0.2)) (List.length (zl.2 : List SX)) i ps (Ent.rd (hw.ents _ (List.mem_of_getElem? (i := 1) rfl))) (by have h8 := Ent.capLe (hw.ents _ (List.mem_of_getElem? (i := 1) rfl)); rwa [List.length_map] at h8) (by omega) hb32 (word_le u0.2 (by omega) _ hbs) (by omega) (by omega)) (fun zw _ => (DXs.mk (List.Sublist.cons _ (List.Sublist.cons _ (List.Sublist.refl _))) ?_)))
              refine DX.stepG 26 134217727 (by kernel_rfl) rfl rfl rfl rfl rfl rfl (op_callV (v := .bool (collB (preF sum ((saltX zl.2 i) ++ (encS x0.2)) (List.reverse ((path sum (entsX zl.2) i).reverse)) (List.length (zl.2 : List SX)) i) (preF sum (sx ++ (encS u0.2)) (List.reverse ps) (List.length (zl.2 : List SX)) i))) rfl rfl rfl rfl rfl ent_23 (fun w hw => w_collide (preF sum ((saltX zl.2 i) ++ (encS x0.2)) (List.reverse ((path sum (entsX zl.2) i).reverse)) (List.length (zl.2 : List SX)) i) (preF sum (sx ++ (encS u0.2)) (List.reverse ps) (List.length (zl.2 : List SX)) i) (Ent.rd (hw.ents _ (List.mem_of_getElem? (i := 1) rfl))) (Ent.rd (hw.ents _ (List.mem_of_getElem? (i := 0) rfl))) hq1 hq2 hq3 hq4) (DXs.mk (List.Sublist.cons _ (List.Sublist.cons _ (List.Sublist.refl _))) ?_))
              refine DX.know (t := 139) (u := .bool true) rfl (congrArg Value.bool (hbc (fun h => d116 (by rw [h.2])))) ?_
              refine DX.takeWG 27 268435455 (by kernel_rfl) rfl rfl rfl rfl rfl rfl rfl rfl (yw_pickF rfl rfl rfl) ?_
              refine DX.takeW 28 536870911 (by kernel_rfl) rfl rfl rfl rfl rfl (yw_pickT rfl rfl rfl) ?_
              refine DX.takeW 29 1073741823 (by kernel_rfl) rfl rfl rfl rfl rfl (yw_assign rfl rfl) ?_
              refine DX.done (by kernel_rfl) (XX.next (V' := [(10, .bool true)]) ⟨rfl, trivial⟩ ?_)
              refine CX.ret ?_
              exact ret_tmp rfl rfl fun w1 hw => ⟨rfl, hw.sub (List.nil_sublist _)⟩
          · refine RX.skip rfl rfl rfl rfl rfl rfl rfl ?_
            refine RX.skip rfl rfl rfl rfl rfl rfl rfl ?_
            refine RX.skip rfl rfl rfl rfl rfl rfl rfl ?_
            refine RX.skip rfl rfl rfl rfl rfl rfl rfl ?_
            refine RX.skip rfl rfl rfl rfl rfl rfl rfl ?_
            refine RX.cons rfl rfl (op_w (yw_pickF rfl rfl rfl) rfl rfl ?_)
            refine RX.cons rfl rfl (op_w (yw_assign rfl rfl) rfl rfl ?_)
            refine RX.nil (XX.next (V' := [(11, _), (13, _), (15, _), (16, _), (17, _), (19, _)]) ⟨rfl, rfl, rfl, rfl, rfl, rfl, trivial⟩ ?_)
            refine CX.seq ?_
            refine CX.draw 30 [(0, 2048, 10384593717069655257060992658440192), (1, 10384593717069655257060992658440192, 20769187434139310514121985316880384), (2, 20769187434139310514121985317404672, 41538374868278621028243970633760768), (6, 62307562302417931542365955950641152, 83076749736557242056487941267521536), (8, 83076749736557242056487941267529728, 166153499473114484112975882535043072), (24, 249230249209671726169463823802564608, 332306998946228968225951765070086144), (8, 83076749736557242056487941267587072, 664613997892457936451903530140172288), (104, 1079997746575244146734343236477779968, 1329227995784915872903807060280344576), (8, 83076749736557242056487941267529728, 2658455991569831745807614120560689152), (264, 2741532741306388987864102061828210688, 5316911983139663491615228241121378304), (8, 83076749736557242056487941267529728, 10633823966279326983230456482242756608), (1032, 10716900716015884225286944423510278144, 21267647932558653966460912964485513216), (8, 83076749736557242056487941267529728, 42535295865117307932921825928971026432), (4104, 42618372614853865174978313870238547968, 85070591730234615865843651857942052864), (10888, 113067456391454406438880088065096810496, 170141183460469231731687303715884105728), (8, 83076749736557242056487941267554304, 340282366920938463463374607431768211456), (32776, 340365443670675020705431095373035732992, 680564733841876926926749214863536422912), (8, 83076749736557242056487941267652608, 1361129467683753853853498429727072845824), (196616, 2041777278275367338022304132531876790272, 2722258935367507707706996859454145691648), (8, 83076749736557242056487941267554304, 5444517870735015415413993718908291383296), (524296, 5444600947484751972656050206849558904832, 10889035741470030830827987437816582766592), (8, 83076749736557242056487941267554304, 21778071482940061661655974875633165533184), (2097160, 21778154559689798218898031363574433054720, 43556142965880123323311949751266331066368), (8, 83076749736557242056487941267554304, 87112285931760246646623899502532662132736), (8388616, 87112369008509983203865955990473929654272, 174224571863520493293247799005065324265472), (22298632, 231392092582987891712336789541543651311616, 348449143727040986586495598010130648530944), (33570824, 348619367987251192375469341801787800158208, 696898287454081973172991196020261297061888), (67108874, 696898391300019143869543766630187881463808, 1393796574908163946345982392040522594123776), (134217730, 1393796595677351380485292906162507911004160, 2787593149816327892691964784081045188247552), (536870911, 2787593149816327892691964784081045188247552, 1024)] (by kernel_rfl) (by kernel_rfl) (by kernel_rfl) ?_
            refine DX.takeW 0 1 (by kernel_rfl) rfl rfl rfl rfl rfl (yw_move rfl rfl) ?_
            refine DX.takeW 1 3 (by kernel_rfl) rfl rfl rfl rfl rfl (yw_move rfl rfl) ?_
            refine DX.takeWG 2 7 (by kernel_rfl) rfl rfl rfl rfl rfl rfl rfl rfl (yw_move rfl rfl) ?_
            refine DX.takeWG 3 15 (by kernel_rfl) rfl rfl rfl rfl rfl rfl rfl rfl (yw_move rfl rfl) ?_
            refine DX.takeWG 4 31 (by kernel_rfl) rfl rfl rfl rfl rfl rfl rfl rfl (yw_fieldAddr rfl fld_37_3 rfl) ?_
            refine DX.takeG 5 63 (by kernel_rfl) rfl rfl rfl rfl rfl rfl rfl rfl (List.Sublist.refl _) (y_load (i := 5) rfl rfl one_9 rfl rfl) ?_
            refine DX.takeWG 6 127 (by kernel_rfl) rfl rfl rfl rfl rfl rfl rfl rfl (yw_move rfl rfl) ?_
            refine DX.takeWG 7 255 (by kernel_rfl) rfl rfl rfl rfl rfl rfl rfl rfl (yw_stradd rfl rfl rfl (by rw [saltX_size]; have := encS_size x0.2; have := hXl0 x0 hx0m; omega)) ?_
            refine DX.takeWG 8 511 (by kernel_rfl) rfl rfl rfl rfl rfl rfl rfl rfl (yw_fieldAddr rfl fld_37_2 rfl) ?_
            refine DX.takeG 9 1023 (by kernel_rfl) rfl rfl rfl rfl rfl rfl rfl rfl (List.Sublist.refl _) (y_load (i := 5) rfl rfl one_3 rfl rfl) ?_
            refine DX.takeWG 10 2047 (by kernel_rfl) rfl rfl rfl rfl rfl rfl rfl rfl (yw_fieldAddr rfl fld_37_1 rfl) ?_
            refine DX.takeG 11 4095 (by kernel_rfl) rfl rfl rfl rfl rfl rfl rfl rfl (List.Sublist.refl _) (y_load (i := 5) rfl rfl one_3 rfl rfl) ?_
            refine DX.takeWG 12 8191 (by kernel_rfl) rfl rfl rfl rfl rfl rfl rfl rfl (yw_fieldAddr rfl fld_37_4 rfl) ?_
            refine DX.takeG 13 16383 (by kernel_rfl) rfl rfl rfl rfl rfl rfl rfl rfl (List.Sublist.refl _) (y_load (i := 5) rfl rfl one_35 rfl rfl) ?_
            refine DX.takeWG 15 49151 (by kernel_rfl) rfl rfl rfl rfl rfl rfl rfl rfl (yw_fieldAddr rfl fld_37_3 rfl) ?_
            refine DX.takeG 16 114687 (by kernel_rfl) rfl rfl rfl rfl rfl rfl rfl rfl (List.Sublist.refl _) (y_load (i := 4) rfl rfl one_9 rfl rfl) ?_
            refine DX.takeWG 17 245759 (by kernel_rfl) rfl rfl rfl rfl rfl rfl rfl rfl (yw_move rfl rfl) ?_
            refine DX.takeWG 18 507903 (by kernel_rfl) rfl rfl rfl rfl rfl rfl rfl rfl (yw_stradd rfl rfl rfl (by rw [hbs]; have := encS_size u0.2; omega)) ?_
            refine DX.takeWG 19 1032191 (by kernel_rfl) rfl rfl rfl rfl rfl rfl rfl rfl (yw_fieldAddr rfl fld_37_2 rfl) ?_
            refine DX.takeG 20 2080767 (by kernel_rfl) rfl rfl rfl rfl rfl rfl rfl rfl (List.Sublist.refl _) (y_load (i := 4) rfl rfl one_3 rfl rfl) ?_
            refine DX.takeWG 21 4177919 (by kernel_rfl) rfl rfl rfl rfl rfl rfl rfl rfl (yw_fieldAddr rfl fld_37_1 rfl) ?_
            refine DX.takeG 22 8372223 (by kernel_rfl) rfl rfl rfl rfl rfl rfl rfl rfl (List.Sublist.refl _) (y_load (i := 4) rfl rfl one_3 rfl rfl) ?_
            refine DX.takeWG 23 16760831 (by kernel_rfl) rfl rfl rfl rfl rfl rfl rfl rfl (yw_fieldAddr rfl fld_37_4 rfl) ?_
            refine DX.takeG 24 33538047 (by kernel_rfl) rfl rfl rfl rfl rfl rfl rfl rfl (List.Sublist.refl _) (y_load (i := 4) rfl rfl one_35 rfl rfl) ?_
            refine DX.stepG 14 33554431 (by kernel_rfl) rfl rfl rfl rfl rfl rfl (op_callE rfl rfl rfl rfl rfl ent_24 (fun w hw => w_pre24 ((saltX zl.2 i) ++ (encS x0.2)) (List.length (zl.2 : List SX)) i ((path sum (entsX zl.2) i).reverse) (Ent.rd (hw.ents _ (List.mem_of_getElem? (i := 7) rfl))) (by have h8 := Ent.capLe (hw.ents _ (List.mem_of_getElem? (i := 7) rfl)); rwa [List.length_map] at h8) (by have := path_len zl.2 i; omega) (path_verifies (entsX_get hx0)).1 (word_le x0.2 (hXl0 x0 hx0m) _ (saltX_size _ _)) (by omega) (by omega)) (fun zy _ => (DXs.mk (List.Sublist.cons _ (List.Sublist.refl _)) ?_)))
            refine DX.stepG 25 67108863 (by kernel_rfl) rfl rfl rfl rfl rfl rfl (op_callE rfl rfl rfl rfl rfl ent_24 (fun w hw => w_pre24 (sx ++ (encS u0.2)) (List.length (zl.2 : List SX)) i ps (Ent.rd (hw.ents _ (List.mem_of_getElem? (i := 1) rfl))) (by have h8 := Ent.capLe (hw.ents _ (List.mem_of_getElem? (i := 1) rfl)); rwa [List.length_map] at h8) (by omega) hb32 (word_le u0.2 (by omega) _ hbs) (by omega) (by omega)) (fun zw _ => (DXs.mk (List.Sublist.cons _ (List.Sublist.cons _ (List.Sublist.refl _))) ?_)))
            refine DX.stepG 26 134217727 (by kernel_rfl) rfl rfl rfl rfl rfl rfl (op_callV (v := .bool (collB (preF sum ((saltX zl.2 i) ++ (encS x0.2)) (List.reverse ((path sum (entsX zl.2) i).reverse)) (List.length (zl.2 : List SX)) i) (preF sum (sx ++ (encS u0.2)) (List.reverse ps) (List.length (zl.2 : List SX)) i))) rfl rfl rfl rfl rfl ent_23 (fun w hw => w_collide (preF sum ((saltX zl.2 i) ++ (encS x0.2)) (List.reverse ((path sum (entsX zl.2) i).reverse)) (List.length (zl.2 : List SX)) i) (preF sum (sx ++ (encS u0.2)) (List.reverse ps) (List.length (zl.2 : List SX)) i) (Ent.rd (hw.ents _ (List.mem_of_getElem? (i := 1) rfl))) (Ent.rd (hw.ents _ (List.mem_of_getElem? (i := 0) rfl))) hq1 hq2 hq3 hq4) (DXs.mk (List.Sublist.cons _ (List.Sublist.cons _ (List.Sublist.refl _))) ?_))
            refine DX.know (t := 139) (u := .bool true) rfl (congrArg Value.bool (hbc (fun h => d106 h.1))) ?_
            refine DX.takeWG 27 268435455 (by kernel_rfl) rfl rfl rfl rfl rfl rfl rfl rfl (yw_pickF rfl rfl rfl) ?_
            refine DX.takeW 28 536870911 (by kernel_rfl) rfl rfl rfl rfl rfl (yw_pickT rfl rfl rfl) ?_
            refine DX.takeW 29 1073741823 (by kernel_rfl) rfl rfl rfl rfl rfl (yw_assign rfl rfl) ?_
            refine DX.done (by kernel_rfl) (XX.next (V' := [(10, .bool true)]) ⟨rfl, trivial⟩ ?_)
            refine CX.ret ?_
            exact ret_tmp rfl rfl fun w1 hw => ⟨rfl, hw.sub (List.nil_sublist _)⟩

end Go.Proofs.YtnadipjlhlbfoaaDoor
