/- Walks, printed by a program. -/
import Derived.Test.YtnadipjlhlbfoaaDoorK12
namespace Go.Proofs.YtnadipjlhlbfoaaDoor
set_option linter.all false
open Go Go.RowKit
set_option maxRecDepth 100000
theorem ent_9 : ∀ args w, (callFunc 9 args).run Tryd.prog w = .ok (.enter 9 args) w := enters_of Tryd.func9 (by kernel_rfl) rfl
theorem ent_10 : ∀ args w, (callFunc 10 args).run Tryd.prog w = .ok (.enter 10 args) w := enters_of Tryd.func10 (by kernel_rfl) rfl
theorem ent_13 : ∀ args w, (callFunc 13 args).run Tryd.prog w = .ok (.enter 13 args) w := enters_of Tryd.func13 (by kernel_rfl) rfl
attribute [local irreducible] sum root entsX
set_option maxRecDepth 100000 in
theorem w_proves {w : World} {A : Option Addr} {cap : Nat} (X : List SX) (hr : Rd w A 3 (X.map stC)) (hX : ∀ x ∈ X, Rd w x.1.1 3 (x.2.ls.map lnC)) (hXc : ∀ x ∈ X, x.2.ls.length ≤ x.1.2) (hX8 : X.length ≤ 9223372036854775807) (hXl : ∀ x ∈ X, x.2.ls.length ≤ 9223372036854775807) (hG : Rounds w) (n : Int) :
    Calls Tryd.prog 3 #[.slice A X.length cap, .int .i64 n] w (fun e w' => e = .returned (.bool true) ∧ SL w [] w' []) := by
  refine calls_of_CX (O := []) (L := []) (args := [.slice A X.length cap, .int .i64 n]) Tryd.func3 rfl (by simp [Tryd.ntmps3]) (SL.refl w) ?_
  refine CX.sub (V' := [(0, .slice A X.length cap), (1, .int .i64 n)]) ⟨rfl, rfl, trivial⟩ ?_
  refine CX.seq ?_
  refine CX.region ?_
  refine RX.cons rfl rfl (op_w (yw_assign rfl rfl) rfl rfl ?_)
  refine RX.nil (XX.next (V' := [(0, .slice A X.length cap), (1, .int .i64 n)]) ⟨rfl, rfl, trivial⟩ ?_)
  refine CX.seq ?_
  refine CX.region ?_
  refine RX.cons rfl rfl (op_callV (v := .bool true) rfl rfl rfl rfl rfl ent_9 (fun w hw => w_sane (hG.keep hw (by simp))) ?_)
  refine RX.cons rfl rfl (op_w (yw_assign rfl rfl) rfl rfl ?_)
  refine RX.nil (XX.next (V' := [(0, .slice A X.length cap), (1, .int .i64 n), (5, .bool true)]) ⟨rfl, rfl, rfl, trivial⟩ ?_)
  refine CX.seq ?_
  refine CX.region ?_
  refine RX.cons rfl rfl (op_w (yw_move rfl rfl) rfl rfl ?_)
  refine RX.cons rfl rfl (op_callE rfl rfl rfl rfl rfl ent_10 (fun w hw => w_validX X (hw.rd hr (by simp)) (fun x hx => hw.rd (hX x hx) (by simp)) hXc hX8 hXl 12 (by decide)) (fun zv hzv => ?_))
  have hvs := of_snd (p := fun s => s.ls.length ≤ 1000000) hzv (fun s hs => by have := valL_short X 12 s hs; omega)
  have hvo := of_snd (p := fun s => okS s = true) hzv (valL_ok X 12)
  have hvn : zv.2.length ≤ 12 := by rw [len_snd hzv]; exact valL_length X 12
  refine RX.cons rfl rfl (op_w (yw_assign rfl rfl) rfl rfl ?_)
  refine RX.nil (XX.next (V' := [(0, .slice zv.1.1 zv.2.length zv.1.2), (1, .int .i64 n), (5, .bool true)]) ⟨rfl, rfl, rfl, trivial⟩ ?_)
  refine CX.seq ?_
  refine CX.region ?_
  refine RX.cons rfl rfl (op_callE rfl rfl rfl rfl rfl ent_11 (fun w hw => w_newE) (fun zx _ => ?_))
  refine RX.cons rfl rfl (op_w (yw_assign rfl rfl) rfl rfl ?_)
  refine RX.nil (XX.next (V' := [(0, .slice zv.1.1 zv.2.length zv.1.2), (1, .int .i64 n), (5, .bool true), (6, .pointer (some ⟨zx, 0, none⟩))]) ⟨rfl, rfl, rfl, rfl, trivial⟩ ?_)
  refine CX.seq ?_
  refine CX.seq ?_
  refine CX.region ?_
  refine RX.cons rfl rfl (op_w (yw_move rfl rfl) rfl rfl ?_)
  refine RX.cons rfl rfl (op_w (yw_move rfl rfl) rfl rfl ?_)
  refine RX.cons rfl rfl (op_callP [logE zx (((none, 0), (none, 0)) : LZ) ([])] [.row zv.1.1 zv.1.2 34 3 (List.map stC zv.2), pack (lns zv.2)] rfl rfl rfl rfl rfl ent_12 ((perm_pick 0 rfl).trans (List.Perm.cons _ (List.Perm.refl _))) (σ := LZ × List SX) (val := fun _ => .int .i64 0) (LL := fun y => [logE zx y.1 ([] ++ y.2)]) (post := fun y => y.2.map (fun x : SX => x.2) = zv.2.map (fun x : SX => x.2)) (fun w hw hs => w_appendE ([]) zv.2 (Ent.rd (hw.ents _ (List.mem_of_getElem? (i := 1) rfl))) (lnsRd hw (i := 2) rfl) (fun _ => hw.apartA (hw.no0 (by simp) hG) 0 rfl) (fun x hx _ => apartL hw (hw.no0 (by simp) hG) 1 rfl x hx) hvs (by omega) hs (hG.keep hw (by simp)) (hw.no0 (by simp) hG) hvo (by simp; omega)) (fun za hza => ?_))
  have hL1 : (([] ++ za.2) : List SX).map (fun x : SX => x.2) = zv.2.map (fun x : SX => x.2) := hza
  have hXl1 := of_snd (p := fun s => s.ls.length ≤ 1000000) hL1 (fun s hs => by obtain ⟨y, hy, rfl⟩ := List.mem_map.1 hs; exact hvs y hy)
  have hn1 : (([] ++ za.2) : List SX).length = zv.2.length := by have := congrArg List.length hL1; simpa using this
  refine RX.cons rfl rfl (op_w (yw_neq rfl rfl rfl) rfl rfl ?_)
  refine RX.know (t := 20) (u := .bool false) rfl (congrArg Value.bool (by decide)) ?_
  refine RX.cons rfl rfl (op_w (yw_move rfl rfl) rfl rfl ?_)
  refine RX.consG rfl rfl rfl rfl rfl (op_w (yw_move rfl rfl) rfl rfl ?_)
  refine RX.consG rfl rfl rfl rfl rfl (op_callE rfl rfl rfl rfl rfl ent_14 (fun w hw => w_stmtsE ([] ++ za.2) (hw.logAt (i := 0) rfl) hXl1 (by omega)) (fun zs hzs => ?_))
  refine RX.consG rfl rfl rfl rfl rfl (op_w (yw_move rfl rfl) rfl rfl ?_)
  refine RX.consG rfl rfl rfl rfl rfl (op_callV (v := .bool (decide (List.map (fun x : SX => x.2) zs.2 = List.map (fun x : SX => x.2) zv.2))) rfl rfl rfl rfl rfl ent_13 (fun w hw => w_sameList zs.2 zv.2 (Ent.rd (hw.ents _ (List.mem_of_getElem? (i := 0) rfl))) (lnsRd hw (i := 1) rfl) (Ent.rd (hw.ents _ (List.mem_of_getElem? (i := 3) rfl))) (lnsRd hw (i := 4) rfl) (of_snd (p := fun s => s.ls.length ≤ 1000000) hzs (fun s hs => by obtain ⟨y, hy, rfl⟩ := List.mem_map.1 hs; exact hXl1 y hy)) (by rw [len_snd hzs, List.length_map]; omega)) ?_)
  refine RX.know (t := 25) (u := .bool true) rfl (congrArg Value.bool (decide_eq_true (hzs.trans hL1))) ?_
  refine RX.consG rfl rfl rfl rfl rfl (op_w (yw_not rfl rfl) rfl rfl ?_)
  refine RX.cons rfl rfl (op_w (yw_pickF rfl rfl rfl) rfl rfl ?_)
  refine RX.nil (XX.next (V' := [(0, .slice zv.1.1 zv.2.length zv.1.2), (1, .int .i64 n), (5, .bool true), (6, .pointer (some ⟨zx, 0, none⟩)), (27, .bool false)]) ⟨rfl, rfl, rfl, rfl, rfl, trivial⟩ ?_)
  refine CX.condF rfl ?_
  refine CX.skip (XX.next (V' := [(0, .slice zv.1.1 zv.2.length zv.1.2), (1, .int .i64 n), (5, .bool true), (6, .pointer (some ⟨zx, 0, none⟩))]) ⟨rfl, rfl, rfl, rfl, trivial⟩ ?_)
  refine CX.seq ?_
  refine CX.region ?_
  refine RX.cons rfl rfl (op_w (yw_move rfl rfl) rfl rfl ?_)
  refine RX.cons rfl rfl (op_callV (v := .string (root sum (entsX ([] ++ za.2)))) rfl rfl rfl rfl rfl ent_15 (fun w hw => w_rootE ([] ++ za.2) (hw.logAt (i := 2) rfl) hXl1 (by omega) (hG.keep hw (by simp))) ?_)
  refine RX.cons rfl rfl (op_w (yw_assign rfl rfl) rfl rfl ?_)
  refine RX.nil (XX.next (V' := [(0, .slice zv.1.1 zv.2.length zv.1.2), (1, .int .i64 n), (5, .bool true), (6, .pointer (some ⟨zx, 0, none⟩)), (7, .string (root sum (entsX ([] ++ za.2))))]) ⟨rfl, rfl, rfl, rfl, rfl, trivial⟩ ?_)
  refine CX.seq ?_
  refine CX.seq ?_
  refine CX.region ?_
  refine RX.cons rfl rfl (op_w (yw_assign rfl rfl) rfl rfl ?_)
  refine RX.nil (XX.next (V' := [(0, .slice zv.1.1 zv.2.length zv.1.2), (1, .int .i64 n), (5, .bool true), (6, .pointer (some ⟨zx, 0, none⟩)), (7, .string (root sum (entsX ([] ++ za.2)))), (8, .int .i64 0)]) ⟨rfl, rfl, rfl, rfl, rfl, rfl, trivial⟩ ?_)
  refine CX.block ?_
  refine CX.loop (σ := Nat) (fun i => [(0, .slice zv.1.1 zv.2.length zv.1.2), (1, .int .i64 n), (5, .bool true), (6, .pointer (some ⟨zx, 0, none⟩)), (7, .string (root sum (entsX ([] ++ za.2)))), (8, .int .i64 ((i : Nat) : Int))]) (fun i => [.row zs.1.1 zs.1.2 34 3 (List.map stC zs.2), pack (lns zs.2), logE zx za.1 ([] ++ za.2), .row zv.1.1 zv.1.2 34 3 (List.map stC zv.2), pack (lns zv.2)]) (fun i => i ≤ zv.2.length) (fun i => zv.2.length - i) 0 (Nat.zero_le _) ⟨rfl, rfl, rfl, rfl, rfl, rfl, trivial⟩ rfl (fun i hI => ?_)
  refine CX.seq ?_
  refine CX.seq ?_
  refine CX.region ?_
  refine RX.cons rfl rfl (op_w (yw_move rfl rfl) rfl rfl ?_)
  refine RX.cons rfl rfl (op_w (yw_move rfl rfl) rfl rfl ?_)
  refine RX.cons rfl rfl (op_w (yw_lenS rfl Tryd.underlying22 rfl) rfl rfl ?_)
  refine RX.cons rfl rfl (op_w (yw_lss rfl rfl rfl) rfl rfl ?_)
  refine RX.nil (XX.next (V' := [(0, .slice zv.1.1 zv.2.length zv.1.2), (1, .int .i64 n), (5, .bool true), (6, .pointer (some ⟨zx, 0, none⟩)), (7, .string (root sum (entsX ([] ++ za.2)))), (8, .int .i64 ((i : Nat) : Int)), (33, .bool (decide (((i : Nat) : Int) < ((zv.2.length : Nat) : Int))))]) ⟨rfl, rfl, rfl, rfl, rfl, rfl, rfl, trivial⟩ ?_)
  refine CX.condD (p := ((i : Nat) : Int) < ((zv.2.length : Nat) : Int)) rfl (fun c33 => ?_) (fun c33 => ?_)
  · obtain ⟨x0, hx0⟩ := get_some (l := ([] ++ za.2)) (k := i) (by omega)
    obtain ⟨y0, hy0⟩ := get_some (l := zv.2) (k := i) (by omega)
    have hx0m := List.mem_of_getElem? hx0
    have hy0m := List.mem_of_getElem? hy0
    have hx0y0 : x0.2 = y0.2 := by
      have h8 := congrArg (fun l : List Stm => l[i]?) hL1
      simp only [List.getElem?_map, hx0, hy0, Option.map_some, Option.some.injEq] at h8
      exact h8
    have hokx0 : okS x0.2 = true := by rw [hx0y0]; exact hvo y0 hy0m
    refine CX.rowSome 3 rfl (by simp; omega) (fun hAv => ?_)
    refine CX.skip (XX.next (V' := [(0, .slice zv.1.1 zv.2.length zv.1.2), (1, .int .i64 n), (5, .bool true), (6, .pointer (some ⟨zx, 0, none⟩)), (7, .string (root sum (entsX ([] ++ za.2)))), (8, .int .i64 ((i : Nat) : Int))]) ⟨rfl, rfl, rfl, rfl, rfl, rfl, trivial⟩ ?_)
    refine CX.seq ?_
    refine CX.block ?_
    refine CX.seq ?_
    refine CX.region ?_
    refine RX.cons rfl rfl (op_w (yw_move rfl rfl) rfl rfl ?_)
    refine RX.cons rfl rfl (op_w (yw_move rfl rfl) rfl rfl ?_)
    refine RX.cons rfl rfl (op_callE rfl rfl rfl rfl rfl ent_16 (fun w hw => w_prove ([] ++ za.2) (hw.logAt (i := 2) rfl) hXl1 (by omega) (hG.keep hw (by simp)) i x0 hx0) (fun zq _ => ?_))
    refine RX.cons rfl rfl (op_w (yw_move rfl rfl) rfl rfl ?_)
    refine RX.cons rfl rfl (op_w (yw_extract rfl rfl rfl) rfl rfl ?_)
    refine RX.cons rfl rfl (op_w (yw_extract rfl rfl rfl) rfl rfl ?_)
    refine RX.cons rfl rfl (op_alloc rfl rfl rfl zero_37 fun g9 => ?_)
    refine RX.cons rfl rfl (op_storeAll (i := 0) rfl rfl rfl rfl szt_37 rfl (plain_of rfl) rfl rfl ?_)
    refine RX.cons rfl rfl (op_w (yw_assign rfl rfl) rfl rfl ?_)
    refine RX.nil (XX.next (V' := [(0, .slice zv.1.1 zv.2.length zv.1.2), (1, .int .i64 n), (5, .bool true), (6, .pointer (some ⟨zx, 0, none⟩)), (7, .string (root sum (entsX ([] ++ za.2)))), (8, .int .i64 ((i : Nat) : Int)), (9, .pointer (some ⟨g9, 0, none⟩)), (10, .int .i64 0)]) ⟨rfl, rfl, rfl, rfl, rfl, rfl, rfl, rfl, trivial⟩ ?_)
    refine CX.seq ?_
    refine CX.draw 31 [(0, 1024, 4398046511104), (1, 4398046511104, 8796093022208), (2, 8796093022208, 17592186044416), (4, 17592186044928, 35184372088832), (12, 52776558133248, 70368744177664), (4, 17592186044672, 140737488355328), (52, 228698418577408, 281474976710656), (68, 299067162755072, 562949953421312), (132, 562949953421312, 1125899906842624), (256, 1125899906843136, 2251799813685248), (768, 3377699720527872, 4503599627370496), (256, 1125899906842625, 9007199254740992), (2304, 10133099161583616, 18014398509481984), (5376, 23643898043695104, 36028797018963968), (8448, 37154696925806592, 72057594037927936), (16640, 72057594037927936, 144115188075855872), (32768, 144115188075856384, 288230376151711744), (98304, 432345564227567616, 576460752303423488), (32768, 144115188075855873, 1152921504606846976), (32768, 144115188075856128, 2305843009213693952), (819200, 3602879701896396800, 4611686018427387904), (1081344, 4755801206503243776, 9223372036854775808), (2260992, 9943947977234055168, 18446744073709551616), (4227072, 18590859261785407488, 36893488147419103232), (8421376, 37037603335494959104, 73786976294838206464), (20971520, 73786976294838206464, 147573952589676412928), (33554432, 147573952589676413056, 295147905179352825856), (33554432, 147573952589676413440, 590295810358705651712), (234881024, 1033017668127734890496, 1180591620717411303424), (301989888, 1328165573307087716352, 2361183241434822606848), (570425344, 2508757194024499019776, 4722366482869645213696)] (by kernel_rfl) (by kernel_rfl) (by kernel_rfl) ?_
    refine DX.takeW 0 1 (by kernel_rfl) rfl rfl rfl rfl rfl (yw_move rfl rfl) ?_
    refine DX.takeW 1 3 (by kernel_rfl) rfl rfl rfl rfl rfl (yw_neq rfl rfl rfl) ?_
    refine DX.know (t := 43) (u := .bool false) rfl (congrArg Value.bool (by decide)) ?_
    refine DX.takeW 2 7 (by kernel_rfl) rfl rfl rfl rfl rfl (yw_move rfl rfl) ?_
    refine DX.takeWG 3 15 (by kernel_rfl) rfl rfl rfl rfl rfl rfl rfl rfl (yw_fieldAddr rfl fld_37_1 rfl) ?_
    refine DX.takeG 4 31 (by kernel_rfl) rfl rfl rfl rfl rfl rfl rfl rfl (List.Sublist.refl _) (y_load (i := 0) rfl rfl one_3 rfl rfl) ?_
    refine DX.takeWG 5 63 (by kernel_rfl) rfl rfl rfl rfl rfl rfl rfl rfl (yw_move rfl rfl) ?_
    refine DX.takeWG 6 127 (by kernel_rfl) rfl rfl rfl rfl rfl rfl rfl rfl (yw_neq rfl rfl rfl) ?_
    refine DX.know (t := 48) (u := .bool false) rfl (congrArg Value.bool (decide_eq_false (fun h => h rfl))) ?_
    refine DX.takeW 7 255 (by kernel_rfl) rfl rfl rfl rfl rfl (yw_pickF rfl rfl rfl) ?_
    refine DX.takeW 8 511 (by kernel_rfl) rfl rfl rfl rfl rfl (yw_move rfl rfl) ?_
    refine DX.takeWG 9 1023 (by kernel_rfl) rfl rfl rfl rfl rfl rfl rfl rfl (yw_fieldAddr rfl fld_37_2 rfl) ?_
    refine DX.takeG 10 2047 (by kernel_rfl) rfl rfl rfl rfl rfl rfl rfl rfl (List.Sublist.refl _) (y_load (i := 0) rfl rfl one_3 rfl rfl) ?_
    refine DX.takeWG 11 4095 (by kernel_rfl) rfl rfl rfl rfl rfl rfl rfl rfl (yw_move rfl rfl) ?_
    refine DX.takeWG 12 8191 (by kernel_rfl) rfl rfl rfl rfl rfl rfl rfl rfl (yw_lenS rfl Tryd.underlying22 rfl) ?_
    refine DX.takeWG 13 16383 (by kernel_rfl) rfl rfl rfl rfl rfl rfl rfl rfl (yw_neq rfl rfl rfl) ?_
    refine DX.know (t := 55) (u := .bool false) rfl (congrArg Value.bool (decide_eq_false (by omega))) ?_
    refine DX.takeW 14 32767 (by kernel_rfl) rfl rfl rfl rfl rfl (yw_pickF rfl rfl rfl) ?_
    refine DX.takeW 15 65535 (by kernel_rfl) rfl rfl rfl rfl rfl (yw_move rfl rfl) ?_
    refine DX.takeWG 16 131071 (by kernel_rfl) rfl rfl rfl rfl rfl rfl rfl rfl (yw_field0 rfl fld_37_0 rfl) ?_
    refine DX.takeG 17 262143 (by kernel_rfl) rfl rfl rfl rfl rfl rfl rfl rfl (List.Sublist.refl _) (y_loadP (i := 0) (vs := #[.int .i64 (Stm.h x0.2), .int .i64 (Stm.c x0.2), .slice zq.1.1 (List.length (Stm.ls x0.2)) zq.1.2]) rfl rfl agg_34 rfl rfl (fun k hk => by match k, hk with | 0, _ => rfl | 1, _ => rfl | 2, _ => rfl)) ?_
    refine DX.takeWG 18 524287 (by kernel_rfl) rfl rfl rfl rfl rfl rfl rfl rfl (yw_move rfl rfl) ?_
    refine DX.takeWG 19 1048575 (by kernel_rfl) rfl rfl rfl rfl rfl rfl rfl rfl (yw_move rfl rfl) ?_
    refine DX.takeWG 20 2097151 (by kernel_rfl) rfl rfl rfl rfl rfl rfl rfl rfl (yw_index (k := i) rfl slt_22 rfl rfl (by omega) (by omega) hAv) ?_
    refine DX.takeG 21 4194303 (by kernel_rfl) rfl rfl rfl rfl rfl rfl rfl rfl (List.Sublist.refl _) (y_rowElem (i := 6) rfl rfl agg_34 rfl (map_get hy0)) ?_
    refine DX.stepG 22 8388607 (by kernel_rfl) rfl rfl rfl rfl rfl rfl (op_callV (v := .bool (decide (x0.2 = y0.2))) rfl rfl rfl rfl rfl ent_17 (fun w hw => w_same x0.2 y0.2 (Ent.rd (hw.ents _ (List.mem_of_getElem? (i := 1) rfl))) (lnsRd hw (i := 7) rfl y0 hy0m) (hXl1 x0 hx0m)) (DXs.mk (List.Sublist.refl _) ?_))
    refine DX.know (t := 64) (u := .bool true) rfl (congrArg Value.bool (decide_eq_true hx0y0)) ?_
    refine DX.takeWG 23 16777215 (by kernel_rfl) rfl rfl rfl rfl rfl rfl rfl rfl (yw_not rfl rfl) ?_
    refine DX.takeW 24 33554431 (by kernel_rfl) rfl rfl rfl rfl rfl (yw_pickF rfl rfl rfl) ?_
    refine DX.takeW 25 67108863 (by kernel_rfl) rfl rfl rfl rfl rfl (yw_move rfl rfl) ?_
    refine DX.takeWG 26 134217727 (by kernel_rfl) rfl rfl rfl rfl rfl rfl rfl rfl (yw_move rfl rfl) ?_
    refine DX.takeG 27 268435455 (by kernel_rfl) rfl rfl rfl rfl rfl rfl rfl rfl (List.Sublist.refl _) (y_loadA (i := 0) rfl rfl agg_37 rfl rfl) ?_
    refine DX.stepG 28 536870911 (by kernel_rfl) rfl rfl rfl rfl rfl rfl (op_callV (v := .bool (okS x0.2 && (decide (ByteArray.size (saltX ([] ++ za.2) i) = 32) && verN (root sum (entsX ([] ++ za.2))) (List.length (([] ++ za.2) : List SX)) i ((saltX ([] ++ za.2) i) ++ encS x0.2) ((path sum (entsX ([] ++ za.2)) i).reverse)))) rfl rfl rfl rfl rfl ent_18 (fun w hw => w_logVerify (root sum (entsX ([] ++ za.2))) x0.2 i (List.length (([] ++ za.2) : List SX)) (saltX ([] ++ za.2) i) ((path sum (entsX ([] ++ za.2)) i).reverse) zq (hG.keep hw (by simp)) (Ent.rd (hw.ents _ (List.mem_of_getElem? (i := 1) rfl))) (hXl1 x0 hx0m) (Ent.rd (hw.ents _ (List.mem_of_getElem? (i := 2) rfl))) (by have h8 := Ent.capLe (hw.ents _ (List.mem_of_getElem? (i := 2) rfl)); rwa [List.length_map] at h8) (by have := path_len ([] ++ za.2) i; omega) (by omega) (by omega) (by rw [saltX_size]; decide)) (DXs.mk (List.Sublist.refl _) ?_))
    refine DX.know (t := 70) (u := .bool true) rfl (congrArg Value.bool (by rw [hokx0, saltX_size, prove_verifies hx0]; rfl)) ?_
    refine DX.takeWG 29 1073741823 (by kernel_rfl) rfl rfl rfl rfl rfl rfl rfl rfl (yw_not rfl rfl) ?_
    refine DX.takeW 30 2147483647 (by kernel_rfl) rfl rfl rfl rfl rfl (yw_pickF rfl rfl rfl) ?_
    refine DX.done (by kernel_rfl) (XX.next (V' := [(0, .slice zv.1.1 zv.2.length zv.1.2), (1, .int .i64 n), (5, .bool true), (6, .pointer (some ⟨zx, 0, none⟩)), (7, .string (root sum (entsX ([] ++ za.2)))), (8, .int .i64 ((i : Nat) : Int)), (72, .bool false)]) ⟨rfl, rfl, rfl, rfl, rfl, rfl, rfl, trivial⟩ ?_)
    refine CX.condF rfl ?_
    refine CX.skip (XX.inBlock (V' := [(0, .slice zv.1.1 zv.2.length zv.1.2), (1, .int .i64 n), (5, .bool true), (6, .pointer (some ⟨zx, 0, none⟩)), (7, .string (root sum (entsX ([] ++ za.2)))), (8, .int .i64 ((i : Nat) : Int))]) ⟨rfl, rfl, rfl, rfl, rfl, rfl, trivial⟩ ?_)
    refine XX.next (V' := [(0, .slice zv.1.1 zv.2.length zv.1.2), (1, .int .i64 n), (5, .bool true), (6, .pointer (some ⟨zx, 0, none⟩)), (7, .string (root sum (entsX ([] ++ za.2)))), (8, .int .i64 ((i : Nat) : Int))]) ⟨rfl, rfl, rfl, rfl, rfl, rfl, trivial⟩ ?_
    refine CX.region ?_
    refine RX.cons rfl rfl (op_w (yw_move rfl rfl) rfl rfl ?_)
    refine RX.cons rfl rfl (op_w (yw_add rfl rfl rfl (by omega) (by omega)) rfl rfl ?_)
    refine RX.cons rfl rfl (op_w (yw_assign rfl rfl) rfl rfl ?_)
    refine RX.nil (XX.againP ([.blk g9 (.cells (prC x0.2 i (List.length (([] ++ za.2) : List SX)) (saltX ([] ++ za.2) i) ((path sum (entsX ([] ++ za.2)) i).reverse) zq) 37 (0, 0)), .row zq.1.1 zq.1.2 57 3 (List.map lnC (Stm.ls x0.2)), .row zq.2.1 zq.2.2 9 1 (List.map strC ((path sum (entsX ([] ++ za.2)) i).reverse))]) (i + 1) (by omega) (by omega) ⟨rfl, rfl, rfl, rfl, rfl, rfl, trivial⟩ ((perm_pick 3 rfl).trans (List.Perm.cons _ ((perm_pick 3 rfl).trans (List.Perm.cons _ ((perm_pick 3 rfl).trans (List.Perm.cons _ ((perm_pick 3 rfl).trans (List.Perm.cons _ ((perm_pick 3 rfl).trans (List.Perm.cons _ (List.Perm.refl _))))))))))))
  · refine CX.exit ?_
    refine XX.then_exit ?_
    refine XX.then_exit ?_
    refine XX.block_exit ?_
    refine XX.next (V' := [(0, .slice zv.1.1 zv.2.length zv.1.2), (1, .int .i64 n), (5, .bool true), (6, .pointer (some ⟨zx, 0, none⟩))]) ⟨rfl, rfl, rfl, rfl, trivial⟩ ?_
    refine CX.seq ?_
    by_cases hn : 0 ≤ n ∧ n < ((zv.2.length : Nat) : Int)
    · obtain ⟨k, rfl⟩ : ∃ k : Nat, n = (k : Int) := ⟨n.toNat, by omega⟩
      obtain ⟨q0, hq0⟩ := get_some (l := ([] ++ za.2)) (k := k) (by omega)
      refine CX.region ?_
      refine RX.cons rfl rfl (op_w (yw_move rfl rfl) rfl rfl ?_)
      refine RX.cons rfl rfl (op_w (yw_move rfl rfl) rfl rfl ?_)
      refine RX.cons rfl rfl (op_callE rfl rfl rfl rfl rfl ent_16 (fun w hw => w_prove ([] ++ za.2) (hw.logAt (i := 2) rfl) hXl1 (by omega) (hG.keep hw (by simp)) k q0 hq0) (fun zq _ => ?_))
      refine RX.cons rfl rfl (op_w (yw_move rfl rfl) rfl rfl ?_)
      refine RX.cons rfl rfl (op_w (yw_extract rfl rfl rfl) rfl rfl ?_)
      refine RX.cons rfl rfl (op_w (yw_extract rfl rfl rfl) rfl rfl ?_)
      refine RX.cons rfl rfl (op_alloc rfl rfl rfl zero_37 fun g11 => ?_)
      refine RX.cons rfl rfl (op_storeAll (i := 0) rfl rfl rfl rfl szt_37 rfl (plain_of rfl) rfl rfl ?_)
      refine RX.cons rfl rfl (op_w (yw_assign rfl rfl) rfl rfl ?_)
      refine RX.nil (XX.next (V' := [(0, .slice zv.1.1 zv.2.length zv.1.2), (1, .int .i64 ((k : Nat) : Int)), (5, .bool true), (12, .int .i64 0)]) ⟨rfl, rfl, rfl, rfl, trivial⟩ ?_)
      refine CX.seq ?_
      refine CX.region ?_
      refine RX.cons rfl rfl (op_w (yw_move rfl rfl) rfl rfl ?_)
      refine RX.cons rfl rfl (op_w (yw_move rfl rfl) rfl rfl ?_)
      refine RX.consG rfl rfl rfl rfl rfl (op_w (yw_move rfl rfl) rfl rfl ?_)
      refine RX.consG rfl rfl rfl rfl rfl (op_w (yw_eql rfl rfl rfl) rfl rfl ?_)
      refine RX.know (t := 82) (u := .bool true) rfl (congrArg Value.bool (by decide)) ?_
      refine RX.consG rfl rfl rfl rfl rfl (op_w (yw_move rfl rfl) rfl rfl ?_)
      refine RX.consG rfl rfl rfl rfl rfl (op_w (yw_geq rfl rfl rfl) rfl rfl ?_)
      refine RX.know (t := 84) (u := .bool true) rfl (congrArg Value.bool (decide_eq_true (by omega))) ?_
      refine RX.consG rfl rfl rfl rfl rfl (op_w (yw_move rfl rfl) rfl rfl ?_)
      refine RX.consG rfl rfl rfl rfl rfl (op_w (yw_move rfl rfl) rfl rfl ?_)
      refine RX.consG rfl rfl rfl rfl rfl (op_w (yw_move rfl rfl) rfl rfl ?_)
      refine RX.consG rfl rfl rfl rfl rfl (op_w (yw_lenS rfl Tryd.underlying22 rfl) rfl rfl ?_)
      refine RX.consG rfl rfl rfl rfl rfl (op_w (yw_lss rfl rfl rfl) rfl rfl ?_)
      refine RX.know (t := 89) (u := .bool true) rfl (congrArg Value.bool (decide_eq_true (by omega))) ?_
      refine RX.consG rfl rfl rfl rfl rfl (op_w (yw_pickT rfl rfl rfl) rfl rfl ?_)
      refine RX.consG rfl rfl rfl rfl rfl (op_w (yw_beql rfl Tryd.underlying4 rfl rfl) rfl rfl ?_)
      refine RX.cons rfl rfl (op_w (yw_pickT rfl rfl rfl) rfl rfl ?_)
      refine RX.cons rfl rfl (op_w (yw_move rfl rfl) rfl rfl ?_)
      refine RX.consG rfl rfl rfl rfl rfl (op_w (yw_move rfl rfl) rfl rfl ?_)
      refine RX.consG rfl rfl rfl rfl rfl (op_w (yw_eql rfl rfl rfl) rfl rfl ?_)
      refine RX.know (t := 95) (u := .bool true) rfl (congrArg Value.bool (by decide)) ?_
      refine RX.consG rfl rfl rfl rfl rfl (op_w (yw_move rfl rfl) rfl rfl ?_)
      refine RX.skip rfl rfl rfl rfl rfl rfl rfl ?_
      refine RX.skip rfl rfl rfl rfl rfl rfl rfl ?_
      refine RX.consG rfl rfl rfl rfl rfl (op_w (yw_pickT rfl rfl rfl) rfl rfl ?_)
      refine RX.cons rfl rfl (op_w (yw_pickT rfl rfl rfl) rfl rfl ?_)
      refine RX.cons rfl rfl (op_w (yw_assign rfl rfl) rfl rfl ?_)
      refine RX.nil (XX.next (V' := [(4, .bool true)]) ⟨rfl, trivial⟩ ?_)
      refine CX.ret ?_
      exact ret_tmp rfl rfl fun w1 hw => ⟨rfl, hw.sub (List.nil_sublist _)⟩
    · refine CX.region ?_
      refine RX.cons rfl rfl (op_w (yw_move rfl rfl) rfl rfl ?_)
      refine RX.cons rfl rfl (op_w (yw_move rfl rfl) rfl rfl ?_)
      refine RX.cons rfl rfl (op_callV (v := .tuple #[.agg (#[.int .i64 0, .int .i64 0, .slice none 0 0, .int .i64 0, .int .i64 0, .string .empty, .slice none 0 0]), .int .i64 2]) rfl rfl rfl rfl rfl ent_16 (fun w hw => w_proveBad ([] ++ za.2) (hw.logAt (i := 2) rfl) hXl1 (by omega) n (by omega)) ?_)
      refine RX.cons rfl rfl (op_w (yw_move rfl rfl) rfl rfl ?_)
      refine RX.cons rfl rfl (op_w (yw_extract rfl rfl rfl) rfl rfl ?_)
      refine RX.cons rfl rfl (op_w (yw_extract rfl rfl rfl) rfl rfl ?_)
      refine RX.cons rfl rfl (op_alloc rfl rfl rfl zero_37 fun g11 => ?_)
      refine RX.cons rfl rfl (op_storeAll (i := 0) rfl rfl rfl rfl szt_37 rfl (plain_of rfl) rfl rfl ?_)
      refine RX.cons rfl rfl (op_w (yw_assign rfl rfl) rfl rfl ?_)
      refine RX.nil (XX.next (V' := [(0, .slice zv.1.1 zv.2.length zv.1.2), (1, .int .i64 n), (5, .bool true), (12, .int .i64 2)]) ⟨rfl, rfl, rfl, rfl, trivial⟩ ?_)
      refine CX.seq ?_
      refine CX.region ?_
      refine RX.cons rfl rfl (op_w (yw_move rfl rfl) rfl rfl ?_)
      refine RX.cons rfl rfl (op_w (yw_move rfl rfl) rfl rfl ?_)
      refine RX.consG rfl rfl rfl rfl rfl (op_w (yw_move rfl rfl) rfl rfl ?_)
      refine RX.consG rfl rfl rfl rfl rfl (op_w (yw_eql rfl rfl rfl) rfl rfl ?_)
      refine RX.know (t := 82) (u := .bool false) rfl (congrArg Value.bool (by decide)) ?_
      refine RX.consG rfl rfl rfl rfl rfl (op_w (yw_move rfl rfl) rfl rfl ?_)
      refine RX.consG rfl rfl rfl rfl rfl (op_w (yw_geq rfl rfl rfl) rfl rfl ?_)
      refine RX.consG rfl rfl rfl rfl rfl (op_w (yw_move rfl rfl) rfl rfl ?_)
      refine RX.splitD (t := 85) (p := 0 ≤ n) rfl (fun d85 => ?_) (fun d85 => ?_)
      · refine RX.consG rfl rfl rfl rfl rfl (op_w (yw_move rfl rfl) rfl rfl ?_)
        refine RX.consG rfl rfl rfl rfl rfl (op_w (yw_move rfl rfl) rfl rfl ?_)
        refine RX.consG rfl rfl rfl rfl rfl (op_w (yw_lenS rfl Tryd.underlying22 rfl) rfl rfl ?_)
        refine RX.consG rfl rfl rfl rfl rfl (op_w (yw_lss rfl rfl rfl) rfl rfl ?_)
        refine RX.know (t := 89) (u := .bool false) rfl (congrArg Value.bool (decide_eq_false (by omega))) ?_
        refine RX.consG rfl rfl rfl rfl rfl (op_w (yw_pickT rfl rfl rfl) rfl rfl ?_)
        refine RX.consG rfl rfl rfl rfl rfl (op_w (yw_beql rfl Tryd.underlying4 rfl rfl) rfl rfl ?_)
        refine RX.cons rfl rfl (op_w (yw_pickT rfl rfl rfl) rfl rfl ?_)
        refine RX.cons rfl rfl (op_w (yw_move rfl rfl) rfl rfl ?_)
        refine RX.consG rfl rfl rfl rfl rfl (op_w (yw_move rfl rfl) rfl rfl ?_)
        refine RX.consG rfl rfl rfl rfl rfl (op_w (yw_eql rfl rfl rfl) rfl rfl ?_)
        refine RX.know (t := 95) (u := .bool false) rfl (congrArg Value.bool (by decide)) ?_
        refine RX.consG rfl rfl rfl rfl rfl (op_w (yw_move rfl rfl) rfl rfl ?_)
        refine RX.consG rfl rfl rfl rfl rfl (op_w (yw_move rfl rfl) rfl rfl ?_)
        refine RX.consG rfl rfl rfl rfl rfl (op_w (yw_eql rfl rfl rfl) rfl rfl ?_)
        refine RX.know (t := 98) (u := .bool true) rfl (congrArg Value.bool (by decide)) ?_
        refine RX.consG rfl rfl rfl rfl rfl (op_w (yw_pickF rfl rfl rfl) rfl rfl ?_)
        refine RX.cons rfl rfl (op_w (yw_pickT rfl rfl rfl) rfl rfl ?_)
        refine RX.cons rfl rfl (op_w (yw_assign rfl rfl) rfl rfl ?_)
        refine RX.nil (XX.next (V' := [(4, .bool true)]) ⟨rfl, trivial⟩ ?_)
        refine CX.ret ?_
        exact ret_tmp rfl rfl fun w1 hw => ⟨rfl, hw.sub (List.nil_sublist _)⟩
      · refine RX.skip rfl rfl rfl rfl rfl rfl rfl ?_
        refine RX.skip rfl rfl rfl rfl rfl rfl rfl ?_
        refine RX.skip rfl rfl rfl rfl rfl rfl rfl ?_
        refine RX.skip rfl rfl rfl rfl rfl rfl rfl ?_
        refine RX.consG rfl rfl rfl rfl rfl (op_w (yw_pickF rfl rfl rfl) rfl rfl ?_)
        refine RX.consG rfl rfl rfl rfl rfl (op_w (yw_beql rfl Tryd.underlying4 rfl rfl) rfl rfl ?_)
        refine RX.cons rfl rfl (op_w (yw_pickT rfl rfl rfl) rfl rfl ?_)
        refine RX.cons rfl rfl (op_w (yw_move rfl rfl) rfl rfl ?_)
        refine RX.consG rfl rfl rfl rfl rfl (op_w (yw_move rfl rfl) rfl rfl ?_)
        refine RX.consG rfl rfl rfl rfl rfl (op_w (yw_eql rfl rfl rfl) rfl rfl ?_)
        refine RX.know (t := 95) (u := .bool false) rfl (congrArg Value.bool (by decide)) ?_
        refine RX.consG rfl rfl rfl rfl rfl (op_w (yw_move rfl rfl) rfl rfl ?_)
        refine RX.consG rfl rfl rfl rfl rfl (op_w (yw_move rfl rfl) rfl rfl ?_)
        refine RX.consG rfl rfl rfl rfl rfl (op_w (yw_eql rfl rfl rfl) rfl rfl ?_)
        refine RX.know (t := 98) (u := .bool true) rfl (congrArg Value.bool (by decide)) ?_
        refine RX.consG rfl rfl rfl rfl rfl (op_w (yw_pickF rfl rfl rfl) rfl rfl ?_)
        refine RX.cons rfl rfl (op_w (yw_pickT rfl rfl rfl) rfl rfl ?_)
        refine RX.cons rfl rfl (op_w (yw_assign rfl rfl) rfl rfl ?_)
        refine RX.nil (XX.next (V' := [(4, .bool true)]) ⟨rfl, trivial⟩ ?_)
        refine CX.ret ?_
        exact ret_tmp rfl rfl fun w1 hw => ⟨rfl, hw.sub (List.nil_sublist _)⟩

end Go.Proofs.YtnadipjlhlbfoaaDoor
