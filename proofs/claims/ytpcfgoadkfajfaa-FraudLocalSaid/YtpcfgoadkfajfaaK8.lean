/- Walks, printed by a program. Marks, as a scan of the rules finds them. No program's function in it. Walks, printed by a program. Walks, printed by a program. Walks, printed by a program. Walks, printed by a program. Walks, printed by a program. Walks, printed by a program. -/
import Derived.Test.YtpcfgoadkfajfaaK7
namespace Go.Proofs.Ytpcfgoadkfajfaa
set_option linter.all false
open Go Go.RowKit
set_option maxRecDepth 100000
theorem zero_3 : Zero Try.prog 3 (.int .i64 0) := ⟨(Try.prog.info? 3).get!, by kernel_rfl, by kernel_rfl⟩
theorem fld_93_0 : Fld Try.prog 93 0 0 := ⟨_, _, (Try.prog.info? 3).get!, Try.underlying93, rfl, rfl, by kernel_rfl, by decide +kernel⟩
theorem ent_47 : ∀ args w, (callFunc 47 args).run Try.prog w = .ok (.enter 47 args) w := enters_of Try.func47 (by kernel_rfl) rfl
theorem szt_3 : SzT Try.prog 3 1 := ⟨(Try.prog.info? 3).get!, by kernel_rfl, by kernel_rfl⟩
set_option maxRecDepth 100000 in
set_option maxHeartbeats 1000000 in
theorem w_measure {w : World} {gg gF gcl : Nat} (kv : List ((Int × Int) × Sg)) (kvc : List (Int × Int)) (s : Sm) (k m : Int) (hkv : ∀ y, (grpOf y kv).length ≤ 1000000) (hs : SL w (List.flatMap Ent.blocks [kmap key2 sgV gg kv, pack (List.map sgE kv), .blk gF (.cells (#[.map (some gg), .map (some gcl)]) 89 (0, 0)), kmap (fun x : Int => Value.int .i64 x) (fun x : Int => Value.int .i64 x) gcl kvc]) w [kmap key2 sgV gg kv, pack (List.map sgE kv), .blk gF (.cells (#[.map (some gg), .map (some gcl)]) 89 (0, 0)), kmap (fun x : Int => Value.int .i64 x) (fun x : Int => Value.int .i64 x) gcl kvc]) :
    Calls Try.prog 29 #[.pointer (some ⟨gF, 0, none⟩), .agg (smC s), .int .i64 k, .int .i64 m] w (fun e w' => ∃ z : Unit, True ∧ e = .returned (.int .i64 ((fmeas kvc kv s k m : Nat) : Int)) ∧ SL w (List.flatMap Ent.blocks [kmap key2 sgV gg kv, pack (List.map sgE kv), .blk gF (.cells (#[.map (some gg), .map (some gcl)]) 89 (0, 0)), kmap (fun x : Int => Value.int .i64 x) (fun x : Int => Value.int .i64 x) gcl kvc]) w' [kmap key2 sgV gg kv, pack (List.map sgE kv), .blk gF (.cells (#[.map (some gg), .map (some gcl)]) 89 (0, 0)), kmap (fun x : Int => Value.int .i64 x) (fun x : Int => Value.int .i64 x) gcl kvc]) := by
  refine calls_of_CXM (O := (List.flatMap Ent.blocks [kmap key2 sgV gg kv, pack (List.map sgE kv), .blk gF (.cells (#[.map (some gg), .map (some gcl)]) 89 (0, 0)), kmap (fun x : Int => Value.int .i64 x) (fun x : Int => Value.int .i64 x) gcl kvc])) (L := [kmap key2 sgV gg kv, pack (List.map sgE kv), .blk gF (.cells (#[.map (some gg), .map (some gcl)]) 89 (0, 0)), kmap (fun x : Int => Value.int .i64 x) (fun x : Int => Value.int .i64 x) gcl kvc]) (args := [.pointer (some ⟨gF, 0, none⟩), .agg (smC s), .int .i64 k, .int .i64 m]) Try.func29 rfl (by simp [Try.ntmps29]) hs ?_
  refine CX.sub (V' := [(0, .pointer (some ⟨gF, 0, none⟩)), (1, .agg (smC s)), (2, .int .i64 k), (3, .int .i64 m)]) ⟨rfl, rfl, rfl, rfl, trivial⟩ ?_
  refine CX.seq ?_
  refine CX.region ?_
  refine RX.cons rfl rfl (op_box rfl rfl rfl rfl fun g4 => ?_)
  refine RX.cons rfl rfl (op_box rfl rfl rfl rfl fun g5 => ?_)
  refine RX.cons rfl rfl (op_box rfl rfl rfl rfl fun g6 => ?_)
  refine RX.cons rfl rfl (op_box rfl rfl rfl rfl fun g7 => ?_)
  refine RX.cons rfl rfl (op_alloc rfl rfl rfl zero_3 fun g8 => ?_)
  refine RX.nil (XX.next (V' := [(0, _), (1, _), (2, _), (3, _), (4, _), (5, _), (6, _), (7, _), (8, .pointer (some ⟨g8, 0, none⟩))]) ⟨rfl, rfl, rfl, rfl, rfl, rfl, rfl, rfl, rfl, trivial⟩ ?_)
  refine CX.seq ?_
  refine CX.seq ?_
  refine CX.region ?_
  refine RX.cons rfl rfl (op_yld (y_load (i := 4) rfl rfl one_59 rfl rfl) rfl rfl ?_)
  refine RX.cons rfl rfl (op_yld (y_loadA (i := 3) rfl rfl agg_24 rfl rfl) rfl rfl ?_)
  refine RX.cons rfl rfl (op_callE rfl rfl rfl rfl rfl ent_45 (fun w hw => w_fsubjects gF s) (fun ⟨gs, gf⟩ _ => ?_))
  refine RX.nil (XX.next (V' := [(0, _), (1, _), (2, _), (3, _), (4, _), (5, _), (6, _), (7, _), (8, .pointer (some ⟨g8, 0, none⟩)), (10, _), (11, _), (12, _)]) ⟨rfl, rfl, rfl, rfl, rfl, rfl, rfl, rfl, rfl, rfl, rfl, rfl, trivial⟩ ?_)
  refine CX.block ?_
  refine CX.ents (L' := [.blk gs (.cells (smC s) 24 (0, 0)), .blk gf (.cells (#[.pointer (some ⟨gF, 0, none⟩)]) 59 (0, 0)), .blk g8 (.cells (#[.int .i64 ((Option.getD none 0 : Nat) : Int)]) 3 (0, 0)), .blk g7 (.cells (#[.int .i64 m]) 3 (0, 0)), .blk g6 (.cells (#[.int .i64 k]) 3 (0, 0)), .blk g5 (.cells (smC s) 24 (0, 0)), .blk g4 (.cells (#[.pointer (some ⟨gF, 0, none⟩)]) 59 (0, 0)), kmap key2 sgV gg kv, pack (List.map sgE kv), .blk gF (.cells (#[.map (some gg), .map (some gcl)]) 89 (0, 0)), kmap (fun x : Int => Value.int .i64 x) (fun x : Int => Value.int .i64 x) gcl kvc]) rfl ?_
  refine CX.rangeFuncJ (σ := Option Nat) (LL := fun h => [.blk gs (.cells (smC s) 24 (0, 0)), .blk gf (.cells (#[.pointer (some ⟨gF, 0, none⟩)]) 59 (0, 0)), kmap (fun x : Int => Value.int .i64 x) (fun x : Int => Value.int .i64 x) gcl kvc, kmap key2 sgV gg kv, pack (List.map sgE kv), .blk gF (.cells (#[.map (some gg), .map (some gcl)]) 89 (0, 0)), .blk g4 (.cells (#[.pointer (some ⟨gF, 0, none⟩)]) 59 (0, 0)), .blk g6 (.cells (#[.int .i64 k]) 3 (0, 0)), .blk g7 (.cells (#[.int .i64 m]) 3 (0, 0)), .blk g8 (.cells (#[.int .i64 ((Option.getD h 0 : Nat) : Int)]) 3 (0, 0))]) (post := fun h => h.getD 0 = fmeas kvc kv s k m) (pend := (fun h : Option Nat => if h.isSome = true then some Code.ret else none)) [.blk gs (.cells (smC s) 24 (0, 0)), .blk gf (.cells (#[.pointer (some ⟨gF, 0, none⟩)]) 59 (0, 0)), kmap (fun x : Int => Value.int .i64 x) (fun x : Int => Value.int .i64 x) gcl kvc, kmap key2 sgV gg kv, pack (List.map sgE kv), .blk gF (.cells (#[.map (some gg), .map (some gcl)]) 89 (0, 0)), .blk g4 (.cells (#[.pointer (some ⟨gF, 0, none⟩)]) 59 (0, 0)), .blk g6 (.cells (#[.int .i64 k]) 3 (0, 0)), .blk g7 (.cells (#[.int .i64 m]) 3 (0, 0)), .blk g8 (.cells (#[.int .i64 ((Option.getD none 0 : Nat) : Int)]) 3 (0, 0))] [.blk g5 (.cells (smC s) 24 (0, 0))] ((perm_pick 0 rfl).trans (List.Perm.cons _ ((perm_pick 0 rfl).trans (List.Perm.cons _ ((perm_pick 8 rfl).trans (List.Perm.cons _ ((perm_pick 5 rfl).trans (List.Perm.cons _ ((perm_pick 5 rfl).trans (List.Perm.cons _ ((perm_pick 5 rfl).trans (List.Perm.cons _ ((perm_pick 4 rfl).trans (List.Perm.cons _ ((perm_pick 2 rfl).trans (List.Perm.cons _ ((perm_pick 1 rfl).trans (List.Perm.cons _ ((perm_pick 0 rfl).trans (List.Perm.cons _ (List.Perm.refl _))))))))))))))))))))) rfl ent_62 ?_ ?_ ?_
  · intro l Dk fn a w1 ha hw hs
    refine (w_subjects1 (l := l) (gF := gF) (St := (fun h : Option Nat => [.blk l (.loop (leftBy (mkRec fn a.tmps _ _ _ Dk) ((fun h : Option Nat => if h.isSome = true then some Code.ret else none) h))), .blk Dk (.deferred (some [])), kmap key2 sgV gg kv, pack (List.map sgE kv), .blk gF (.cells (#[.map (some gg), .map (some gcl)]) 89 (0, 0)), .blk g4 (.cells (#[.pointer (some ⟨gF, 0, none⟩)]) 59 (0, 0)), .blk g6 (.cells (#[.int .i64 k]) 3 (0, 0)), .blk g7 (.cells (#[.int .i64 m]) 3 (0, 0)), .blk g8 (.cells (#[.int .i64 ((Option.getD h 0 : Nat) : Int)]) 3 (0, 0))])) (pre := fun h => h = none) (Rl := RLm kv k m) (ok := fun x => ∃ y, x = key2 y) none s kvc ?_ ?_ ?_ ?_ (hs.perm ((perm_pick 2 rfl).trans (List.Perm.cons _ ((perm_pick 2 rfl).trans (List.Perm.cons _ ((perm_pick 2 rfl).trans (List.Perm.cons _ ((perm_pick 0 rfl).trans (List.Perm.cons _ ((perm_pick 0 rfl).trans (List.Perm.cons _ ((perm_pick 0 rfl).trans (List.Perm.cons _ ((perm_pick 0 rfl).trans (List.Perm.cons _ ((perm_pick 0 rfl).trans (List.Perm.cons _ ((perm_pick 0 rfl).trans (List.Perm.cons _ ((perm_pick 0 rfl).trans (List.Perm.cons _ ((perm_pick 0 rfl).trans (List.Perm.cons _ ((perm_pick 0 rfl).trans (List.Perm.cons _ (List.Perm.refl _))))))))))))))))))))))))))).mono ?_
    · rintro h x w2 rfl ⟨y, rfl⟩ hag hs2
      refine (round_of_CXJ (n := Try.f29.ntmps) (V0 := (13, key2 y) :: [(4, .pointer (some ⟨g4, 0, none⟩)), (6, .pointer (some ⟨g6, 0, none⟩)), (7, .pointer (some ⟨g7, 0, none⟩)), (8, .pointer (some ⟨g8, 0, none⟩))]) (σ := Nat) (τ := Option Nat) (M := [kmap key2 sgV gg kv, pack (List.map sgE kv), .blk gF (.cells (#[.map (some gg), .map (some gcl)]) 89 (0, 0)), .blk g4 (.cells (#[.pointer (some ⟨gF, 0, none⟩)]) 59 (0, 0)), .blk g6 (.cells (#[.int .i64 k]) 3 (0, 0)), .blk g7 (.cells (#[.int .i64 m]) 3 (0, 0)), .blk g8 (.cells (#[.int .i64 ((Option.getD none 0 : Nat) : Int)]) 3 (0, 0))]) (fun g9 => [(4, .pointer (some ⟨g4, 0, none⟩)), (6, .pointer (some ⟨g6, 0, none⟩)), (7, .pointer (some ⟨g7, 0, none⟩)), (8, .pointer (some ⟨g8, 0, none⟩)), (9, .pointer (some ⟨g9, 0, none⟩))]) (fun g9 => [kmap key2 sgV gg kv, pack (List.map sgE kv), .blk gF (.cells (#[.map (some gg), .map (some gcl)]) 89 (0, 0)), .blk g4 (.cells (#[.pointer (some ⟨gF, 0, none⟩)]) 59 (0, 0)), .blk g6 (.cells (#[.int .i64 k]) 3 (0, 0)), .blk g7 (.cells (#[.int .i64 m]) 3 (0, 0)), .blk g8 (.cells (#[.int .i64 ((Option.getD none 0 : Nat) : Int)]) 3 (0, 0)), .blk g9 (.cells (#[.int .i64 y.1, .int .i64 y.2]) 93 (0, 0))]) (fun _ => True) (LL := fun h' => [kmap key2 sgV gg kv, pack (List.map sgE kv), .blk gF (.cells (#[.map (some gg), .map (some gcl)]) 89 (0, 0)), .blk g4 (.cells (#[.pointer (some ⟨gF, 0, none⟩)]) 59 (0, 0)), .blk g6 (.cells (#[.int .i64 k]) 3 (0, 0)), .blk g7 (.cells (#[.int .i64 m]) 3 (0, 0)), .blk g8 (.cells (#[.int .i64 ((Option.getD h' 0 : Nat) : Int)]) 3 (0, 0))]) (post := fun h' => (y.1 = k ∧ h' = some (cnt (grpOf y kv) m)) ∨ (y.1 ≠ k ∧ h' = none)) (pend := (fun h : Option Nat => if h.isSome = true then some Code.ret else none)) rfl rfl rfl ?_ ?_ ?_ hs2).imp fun f h1 => h1.imp fun tm h2 => h2.imp fun as1 h3 => h3.imp fun bd h4 => ⟨h4.1, h4.2.mono fun e w' ⟨h', hp, he, hz⟩ => ⟨(h', ((fun h : Option Nat => if h.isSome = true then some Code.ret else none) h').isNone), ?_, he, hz⟩⟩
      · exact (ha.sub (V' := [(4, .pointer (some ⟨g4, 0, none⟩)), (6, .pointer (some ⟨g6, 0, none⟩)), (7, .pointer (some ⟨g7, 0, none⟩)), (8, .pointer (some ⟨g8, 0, none⟩))]) ⟨rfl, rfl, rfl, rfl, trivial⟩).round 13 rfl _
      · refine CX.region ?_
        refine RX.cons rfl rfl (op_alloc rfl rfl rfl zero_93 fun g9 => ?_)
        refine RX.cons rfl rfl (op_storeAll (i := 0) rfl rfl rfl rfl szt_93 rfl (plain_of rfl) rfl rfl ?_)
        refine RX.nil (XX.meetP ([]) g9 trivial ⟨rfl, rfl, rfl, rfl, rfl, trivial⟩ ((perm_pick 1 rfl).trans (List.Perm.cons _ ((perm_pick 1 rfl).trans (List.Perm.cons _ ((perm_pick 1 rfl).trans (List.Perm.cons _ ((perm_pick 1 rfl).trans (List.Perm.cons _ ((perm_pick 1 rfl).trans (List.Perm.cons _ ((perm_pick 1 rfl).trans (List.Perm.cons _ ((perm_pick 1 rfl).trans (List.Perm.cons _ ((perm_pick 1 rfl).trans (List.Perm.cons _ ((perm_pick 1 rfl).trans (List.Perm.cons _ ((perm_pick 0 rfl).trans (List.Perm.cons _ (List.Perm.refl _))))))))))))))))))))))
      · intro g9 _
        refine CX.block ?_
        refine CX.seq ?_
        refine CX.region ?_
        refine RX.cons rfl rfl (op_w (yw_field0 rfl fld_93_0 rfl) rfl rfl ?_)
        refine RX.cons rfl rfl (op_yld (y_load (i := 9) rfl rfl one_3 rfl rfl) rfl rfl ?_)
        refine RX.cons rfl rfl (op_yld (y_load (i := 6) rfl rfl one_3 rfl rfl) rfl rfl ?_)
        refine RX.cons rfl rfl (op_w (yw_eql rfl rfl rfl) rfl rfl ?_)
        refine RX.nil (XX.next (V' := [(4, _), (7, _), (8, .pointer (some ⟨g8, 0, none⟩)), (9, _), (17, _)]) ⟨rfl, rfl, rfl, rfl, rfl, trivial⟩ ?_)
        refine CX.condD (p := y.1 = k) rfl (fun c17 => ?_) (fun c17 => ?_)
        · refine CX.seq ?_
          refine CX.drawL 8 ([kmap key2 sgV gg kv, pack (List.map sgE kv), .blk gF (.cells (#[.map (some gg), .map (some gcl)]) 89 (0, 0)), .blk g4 (.cells (#[.pointer (some ⟨gF, 0, none⟩)]) 59 (0, 0)), .blk g6 (.cells (#[.int .i64 k]) 3 (0, 0)), .blk g7 (.cells (#[.int .i64 m]) 3 (0, 0)), .blk g9 (.cells (#[.int .i64 y.1, .int .i64 y.2]) 93 (0, 0))]) [(0, 16, 262144), (1, 262144, 524288), (2, 524288, 1048576), (4, 1048576, 2097152), (0, 512, 4194304), (24, 6291456, 8388608), (0, 128, 16777216), (96, 25165824, 33554432), (255, 33554688, 0)] (by kernel_rfl) (by kernel_rfl) (by kernel_rfl) ?_
          refine DX.take 0 1 (by kernel_rfl) rfl rfl rfl rfl rfl (List.Sublist.cons _ (List.Sublist.cons _ (List.Sublist.cons_cons _ (List.Sublist.cons_cons _ (List.Sublist.cons_cons _ (List.Sublist.cons_cons _ (List.Sublist.cons_cons _ (List.Sublist.cons_cons _ (List.Sublist.cons _ (List.Sublist.refl _)))))))))) (y_load (i := 3) rfl rfl one_59 rfl rfl) ?_
          refine DX.takeW 1 3 (by kernel_rfl) rfl rfl rfl rfl rfl (yw_nilCheck rfl rfl) ?_
          refine DX.takeW 2 7 (by kernel_rfl) rfl rfl rfl rfl rfl (yw_field0 rfl fld_89_0 rfl) ?_
          refine DX.take 3 15 (by kernel_rfl) rfl rfl rfl rfl rfl (List.Sublist.cons _ (List.Sublist.cons _ (List.Sublist.cons_cons _ (List.Sublist.cons_cons _ (List.Sublist.cons_cons _ (List.Sublist.cons_cons _ (List.Sublist.cons_cons _ (List.Sublist.cons_cons _ (List.Sublist.cons _ (List.Sublist.refl _)))))))))) (y_load (i := 2) rfl rfl one_85 rfl rfl) ?_
          refine DX.take 4 31 (by kernel_rfl) rfl rfl rfl rfl rfl (List.Sublist.cons _ (List.Sublist.cons _ (List.Sublist.cons_cons _ (List.Sublist.cons_cons _ (List.Sublist.cons_cons _ (List.Sublist.cons_cons _ (List.Sublist.cons_cons _ (List.Sublist.cons_cons _ (List.Sublist.cons _ (List.Sublist.refl _)))))))))) (y_loadA (i := 6) rfl rfl agg_93 rfl rfl) ?_
          refine DX.take 5 63 (by kernel_rfl) rfl rfl rfl rfl rfl (List.Sublist.cons _ (List.Sublist.cons _ (List.Sublist.cons_cons _ (List.Sublist.cons_cons _ (List.Sublist.cons_cons _ (List.Sublist.cons_cons _ (List.Sublist.cons_cons _ (List.Sublist.cons_cons _ (List.Sublist.cons _ (List.Sublist.refl _)))))))))) (y_klookup (i := 0) (k := y) (kv := kv) (encK := key2) (encV := sgV) rfl rfl rfl kmapt_85 rfl) ?_
          refine DX.know (t := 23) (u := .slice ((sgOf y kv).1.1) ((sgOf y kv).2.length) ((sgOf y kv).1.2)) rfl (sgV_of y kv) ?_
          refine DX.take 6 127 (by kernel_rfl) rfl rfl rfl rfl rfl (List.Sublist.cons _ (List.Sublist.cons _ (List.Sublist.cons_cons _ (List.Sublist.cons_cons _ (List.Sublist.cons_cons _ (List.Sublist.cons_cons _ (List.Sublist.cons_cons _ (List.Sublist.cons_cons _ (List.Sublist.cons _ (List.Sublist.refl _)))))))))) (y_load (i := 5) rfl rfl one_3 rfl rfl) ?_
          refine DX.step 7 255 (by kernel_rfl) rfl rfl rfl (op_callV (v := .int .i64 ((cnt (sgOf y kv).2 m : Nat) : Int)) rfl rfl rfl rfl rfl ent_47 (fun w hw => w_count (sgOf y kv).2 (sg_rd hw (i := 3) rfl y) (by rw [sgOf_snd]; exact hkv y) m) (DXs.mk (List.Sublist.cons _ (List.Sublist.cons _ (List.Sublist.cons_cons _ (List.Sublist.cons_cons _ (List.Sublist.cons_cons _ (List.Sublist.cons_cons _ (List.Sublist.cons_cons _ (List.Sublist.cons_cons _ (List.Sublist.cons _ (List.Sublist.refl _)))))))))) ?_))
          refine DX.stepT 8 511 (by kernel_rfl) rfl rfl rfl rfl (op_storeAll (i := 8) rfl rfl rfl rfl szt_3 rfl (plain_of rfl) rfl rfl ?_)
          refine DX.done (by kernel_rfl) (XX.next (V' := [(8, .pointer (some ⟨g8, 0, none⟩))]) ⟨rfl, trivial⟩ ?_)
          refine CX.ret ?_
          refine XX.block_ret ?_
          exact XX.metJ ([.blk g9 (.cells (#[.int .i64 y.1, .int .i64 y.2]) 93 (0, 0))]) (some (cnt (sgOf y kv).2 m)) (.inl ⟨c17, by rw [sgOf_snd]⟩) rfl ((perm_pick 0 rfl).trans (List.Perm.cons _ ((perm_pick 0 rfl).trans (List.Perm.cons _ ((perm_pick 0 rfl).trans (List.Perm.cons _ ((perm_pick 0 rfl).trans (List.Perm.cons _ ((perm_pick 0 rfl).trans (List.Perm.cons _ ((perm_pick 0 rfl).trans (List.Perm.cons _ ((perm_pick 0 rfl).trans (List.Perm.cons _ ((perm_pick 0 rfl).trans (List.Perm.cons _ ((perm_pick 0 rfl).trans (List.Perm.cons _ (List.Perm.refl _)))))))))))))))))))
        · refine CX.skip (XX.inBlock (V' := []) trivial ?_)
          exact XX.metJ ([.blk g9 (.cells (#[.int .i64 y.1, .int .i64 y.2]) 93 (0, 0))]) none (.inr ⟨c17, rfl⟩) rfl ((perm_pick 0 rfl).trans (List.Perm.cons _ ((perm_pick 0 rfl).trans (List.Perm.cons _ ((perm_pick 0 rfl).trans (List.Perm.cons _ ((perm_pick 0 rfl).trans (List.Perm.cons _ ((perm_pick 0 rfl).trans (List.Perm.cons _ ((perm_pick 0 rfl).trans (List.Perm.cons _ ((perm_pick 0 rfl).trans (List.Perm.cons _ ((perm_pick 0 rfl).trans (List.Perm.cons _ ((perm_pick 0 rfl).trans (List.Perm.cons _ (List.Perm.refl _)))))))))))))))))))
      · intro y' e'
        rw [← key2_inj e']
        rcases hp with ⟨h5, h6⟩ | ⟨h5, h6⟩
        · exact .inl ⟨h5, by rw [h6]; rfl, h6⟩
        · exact .inr ⟨h5, by rw [h6]; rfl, h6⟩
    · exact fun i st _ hu => (upto_meas hu _ (List.map_take ..).symm).1
    · exact fun y _ => ⟨y, rfl⟩
    · exact fun w' hw' => hw'.cellOf (i := 7) rfl rfl
    · exact fun e w' ⟨h, hwt, he, hz⟩ => ⟨h, went_meas hwt, ⟨_, he⟩, hz.perm ((perm_pick 3 rfl).trans (List.Perm.cons _ ((perm_pick 3 rfl).trans (List.Perm.cons _ ((perm_pick 0 rfl).trans (List.Perm.cons _ ((perm_pick 0 rfl).trans (List.Perm.cons _ ((perm_pick 0 rfl).trans (List.Perm.cons _ ((perm_pick 0 rfl).trans (List.Perm.cons _ ((perm_pick 0 rfl).trans (List.Perm.cons _ ((perm_pick 0 rfl).trans (List.Perm.cons _ ((perm_pick 0 rfl).trans (List.Perm.cons _ ((perm_pick 0 rfl).trans (List.Perm.cons _ ((perm_pick 0 rfl).trans (List.Perm.cons _ ((perm_pick 0 rfl).trans (List.Perm.cons _ (List.Perm.refl _)))))))))))))))))))))))))⟩
  · intro h l Dk ob hh hp
    obtain rfl : h = none := by cases h with | none => rfl | some v => cases hp
    refine XX.inBlock (V' := [(8, .pointer (some ⟨g8, 0, none⟩))]) ⟨rfl, trivial⟩ ?_
    refine XX.next (V' := [(8, .pointer (some ⟨g8, 0, none⟩))]) ⟨rfl, trivial⟩ ?_
    refine CX.seq ?_
    refine CX.region ?_
    refine RX.cons rfl rfl (op_storeAll (i := 11) rfl rfl rfl rfl szt_3 rfl (plain_of rfl) rfl rfl ?_)
    refine RX.nil (XX.next (V' := [(8, .pointer (some ⟨g8, 0, none⟩))]) ⟨rfl, trivial⟩ ?_)
    refine CX.ret ?_
    exact ret_cellM (i := 11) (k := 1) rfl rfl one_3 rfl rfl fun w1 hw => ⟨(), trivial, by rw [← hh] <;> rfl, hw.pick ((perm_pick 5 rfl).trans (List.Perm.cons _ ((perm_pick 5 rfl).trans (List.Perm.cons _ ((perm_pick 5 rfl).trans (List.Perm.cons _ ((perm_pick 4 rfl).trans (List.Perm.cons _ (List.Perm.refl _)))))))))⟩
  · intro h l Dk ob c hh hp
    obtain ⟨v, rfl⟩ : ∃ v, h = some v := by cases h with | none => cases hp | some v => exact ⟨v, rfl⟩
    obtain rfl : c = Code.ret := (Option.some.inj hp).symm
    refine CX.ret ?_
    refine XX.block_ret ?_
    refine XX.then_ret ?_
    exact ret_cellM (i := 11) (k := 1) rfl rfl one_3 rfl rfl fun w1 hw => ⟨(), trivial, by rw [← hh] <;> rfl, hw.pick ((perm_pick 5 rfl).trans (List.Perm.cons _ ((perm_pick 5 rfl).trans (List.Perm.cons _ ((perm_pick 5 rfl).trans (List.Perm.cons _ ((perm_pick 4 rfl).trans (List.Perm.cons _ (List.Perm.refl _)))))))))⟩

end Go.Proofs.Ytpcfgoadkfajfaa
namespace Go.Proofs.Ytpcfgoadkfajfaa
set_option linter.all false
def alR (s : Sm) (r : Ru) : Bool := decide (r.act = 3) && decide (r.n = s.acc)
def mtR (fm : Int → Int → Nat) (a : Int) (r : Ru) : Bool := decide (r.act = a) && decide (r.n < ((fm r.sub r.mea : Nat) : Int))
def mkR (v h : Bool) : Int := if v = true then 3 else if h = true then 2 else 1
def judK (fm : Int → Int → Nat) (rs : List Ru) (s : Sm) : Int := if rs.any (alR s) = true then 1 else mkR (rs.any (mtR fm 2)) (rs.any (mtR fm 1))
theorem any_snoc {α : Type} {p : α → Bool} {l : List α} {i : Nat} {x : α} (h : l[i]? = some x) : (l.take (i + 1)).any p = ((l.take i).any p || p x) := by rw [take_succ h, List.any_append]; simp
theorem any_at {α : Type} {p : α → Bool} {l : List α} {x : α} (h : x ∈ l) (hp : p x = true) : l.any p = true := List.any_eq_true.2 ⟨x, h, hp⟩
theorem mkR_hold (v h : Bool) : max (mkR v h) 2 = mkR v (h || true) := by cases v <;> cases h <;> decide
theorem mkR_void (v h : Bool) : 3 = mkR (v || true) h := by cases v <;> cases h <;> decide
theorem mkR_range (v h : Bool) : 1 ≤ mkR v h ∧ mkR v h ≤ 3 := by cases v <;> cases h <;> decide
theorem judK_filter (rs : List Ru) (l : List Sm) (s : Sm) : judK (fun k m => meas l s k m) (rs.filter okR) s = jud rs l s := by
  have ha : ∀ p q : Ru → Bool, (∀ r, q r = (okR r && p r)) → (rs.filter okR).any p = rs.any q := fun p q h => by
    rw [List.any_filter]; congr 1; funext r; rw [h]
  have e1 : (rs.filter okR).any (alR s) = free rs s := ha _ _ fun r => by unfold alR; rw [Bool.and_assoc]
  have e2 : ∀ a, (rs.filter okR).any (mtR (fun k m => meas l s k m) a) = meets rs l s a := fun a => ha _ _ fun r => by unfold mtR; rw [Bool.and_assoc]
  unfold judK jud mkR
  rw [e1, e2, e2]
end Go.Proofs.Ytpcfgoadkfajfaa
namespace Go.Proofs.Ytpcfgoadkfajfaa
set_option linter.all false
open Go Go.RowKit
set_option maxRecDepth 100000
theorem ent_28 : ∀ args w, (callFunc 28 args).run Try.prog w = .ok (.enter 28 args) w := enters_of Try.func28 (by kernel_rfl) rfl
theorem ent_29 : ∀ args w, (callFunc 29 args).run Try.prog w = .ok (.enter 29 args) w := enters_of Try.func29 (by kernel_rfl) rfl
theorem zero_44 : Zero Try.prog 44 (.agg (#[.int .i64 0, .int .i64 0, .int .i64 0, .int .i64 0])) := ⟨(Try.prog.info? 44).get!, by kernel_rfl, by kernel_rfl⟩
theorem szt_44 : SzT Try.prog 44 4 := ⟨(Try.prog.info? 44).get!, by kernel_rfl, by kernel_rfl⟩
set_option maxRecDepth 100000 in
theorem w_Measure {w : World} {A : Option Addr} {cap : Nat} (ls : List Sm) (hr : Rd w A 9 (ls.map smC)) (hl : ls.length ≤ 100000) (s : Sm) (k m : Int) :
    Calls Try.prog 14 #[.slice A ls.length cap, .agg (smC s), .int .i64 k, .int .i64 m] w (fun e w' => e = .returned (.int .i64 ((meas ls s k m : Nat) : Int)) ∧ SL w [] w' []) := by
  refine calls_of_CX (O := []) (L := []) (args := [.slice A ls.length cap, .agg (smC s), .int .i64 k, .int .i64 m]) Try.func14 rfl (by simp [Try.ntmps14]) (SL.refl w) ?_
  refine CX.sub (V' := [(0, .slice A ls.length cap), (1, .agg (smC s)), (2, .int .i64 k), (3, .int .i64 m)]) ⟨rfl, rfl, rfl, rfl, trivial⟩ ?_
  refine CX.seq ?_
  refine CX.region ?_
  refine RX.cons rfl rfl (op_box rfl rfl rfl rfl fun g5 => ?_)
  refine RX.cons rfl rfl (op_w (yw_assign rfl rfl) rfl rfl ?_)
  refine RX.nil (XX.next (V' := [(0, _), (2, _), (3, _), (5, _)]) ⟨rfl, rfl, rfl, rfl, trivial⟩ ?_)
  refine CX.seq ?_
  refine CX.drawL 6 ([.blk g5 (.cells (smC s) 24 (0, 0))]) [(0, 1, 512), (1, 512, 1024), (0, 32, 2048), (0, 4, 4096), (0, 8, 8192), (30, 15360, 16384), (63, 16384, 256)] (by kernel_rfl) (by kernel_rfl) (by kernel_rfl) ?_
  refine DX.takeW 0 1 (by kernel_rfl) rfl rfl rfl rfl rfl (yw_move rfl rfl) ?_
  refine DX.take 2 5 (by kernel_rfl) rfl rfl rfl rfl rfl (List.Sublist.refl _) (y_loadA (i := 0) rfl rfl agg_24 rfl rfl) ?_
  refine DX.takeW 3 13 (by kernel_rfl) rfl rfl rfl rfl rfl (yw_move rfl rfl) ?_
  refine DX.takeW 4 29 (by kernel_rfl) rfl rfl rfl rfl rfl (yw_move rfl rfl) ?_
  refine DX.step 1 31 (by kernel_rfl) rfl rfl rfl (op_callE rfl rfl rfl rfl rfl ent_28 (fun w hw => w_newFilter ls (hw.rd hr (by simp)) hl) (fun ⟨⟨gF, gg, gcl⟩, kv, kvc⟩ ⟨hcl, hgs⟩ => (DXs.mk (List.Sublist.cons _ (List.Sublist.cons _ (List.Sublist.cons _ (List.Sublist.cons _ (List.Sublist.refl _))))) ?_)))
  refine DX.step 5 63 (by kernel_rfl) rfl rfl rfl (op_callP [kmap key2 sgV gg kv, pack (List.map sgE kv), .blk gF (.cells (#[.map (some gg), .map (some gcl)]) 89 (0, 0)), kmap (fun x : Int => Value.int .i64 x) (fun x : Int => Value.int .i64 x) gcl kvc] [.blk g5 (.cells (smC s) 24 (0, 0))] rfl rfl rfl rfl rfl ent_29 ((perm_pick 0 rfl).trans (List.Perm.cons _ ((perm_pick 0 rfl).trans (List.Perm.cons _ ((perm_pick 0 rfl).trans (List.Perm.cons _ ((perm_pick 0 rfl).trans (List.Perm.cons _ (List.Perm.refl _))))))))) (σ := Unit) (val := fun _ => .int .i64 ((fmeas kvc kv s k m : Nat) : Int)) (LL := fun _ => [kmap key2 sgV gg kv, pack (List.map sgE kv), .blk gF (.cells (#[.map (some gg), .map (some gcl)]) 89 (0, 0)), kmap (fun x : Int => Value.int .i64 x) (fun x : Int => Value.int .i64 x) gcl kvc]) (post := fun _ => True) (fun w hw hs => w_measure kv kvc s k m (fun y => Nat.le_trans (hgs.len y) (by omega)) hs) (fun _ _ => (DXs.mk (List.Sublist.cons _ (List.Sublist.cons _ (List.Sublist.cons _ (List.Sublist.cons _ (List.Sublist.refl _))))) ?_)))
  refine DX.takeW 6 127 (by kernel_rfl) rfl rfl rfl rfl rfl (yw_assign rfl rfl) ?_
  refine DX.done (by kernel_rfl) (XX.next (V' := [(8, .int .i64 ((fmeas kvc kv s k m : Nat) : Int))]) ⟨rfl, trivial⟩ ?_)
  refine CX.ret ?_
  exact ret_tmp rfl rfl fun w1 hw => ⟨by rw [fmeas_eq hcl hgs], hw.sub (List.nil_sublist _)⟩

set_option maxRecDepth 100000 in
theorem w_judge {w : World} {gg gF gcl : Nat} {A : Option Addr} {cap : Nat} (kv : List ((Int × Int) × Sg)) (kvc : List (Int × Int)) (rs : List Ru) (s : Sm) (hkv : ∀ y, (grpOf y kv).length ≤ 1000000) (hr : Rd w A 4 (rs.map ruC)) (hl : rs.length ≤ 1000000) (hO : ∀ q, A = some q → q.block ∉ (List.flatMap Ent.blocks [kmap key2 sgV gg kv, pack (List.map sgE kv), .blk gF (.cells (#[.map (some gg), .map (some gcl)]) 89 (0, 0)), kmap (fun x : Int => Value.int .i64 x) (fun x : Int => Value.int .i64 x) gcl kvc])) (hs : SL w (List.flatMap Ent.blocks [kmap key2 sgV gg kv, pack (List.map sgE kv), .blk gF (.cells (#[.map (some gg), .map (some gcl)]) 89 (0, 0)), kmap (fun x : Int => Value.int .i64 x) (fun x : Int => Value.int .i64 x) gcl kvc]) w [kmap key2 sgV gg kv, pack (List.map sgE kv), .blk gF (.cells (#[.map (some gg), .map (some gcl)]) 89 (0, 0)), kmap (fun x : Int => Value.int .i64 x) (fun x : Int => Value.int .i64 x) gcl kvc]) :
    Calls Try.prog 36 #[.pointer (some ⟨gF, 0, none⟩), .slice A rs.length cap, .agg (smC s)] w (fun e w' => ∃ z : Unit, True ∧ e = .returned (.int .i64 (judK (fmeas kvc kv s) rs s)) ∧ SL w (List.flatMap Ent.blocks [kmap key2 sgV gg kv, pack (List.map sgE kv), .blk gF (.cells (#[.map (some gg), .map (some gcl)]) 89 (0, 0)), kmap (fun x : Int => Value.int .i64 x) (fun x : Int => Value.int .i64 x) gcl kvc]) w' [kmap key2 sgV gg kv, pack (List.map sgE kv), .blk gF (.cells (#[.map (some gg), .map (some gcl)]) 89 (0, 0)), kmap (fun x : Int => Value.int .i64 x) (fun x : Int => Value.int .i64 x) gcl kvc]) := by
  refine calls_of_CX (O := (List.flatMap Ent.blocks [kmap key2 sgV gg kv, pack (List.map sgE kv), .blk gF (.cells (#[.map (some gg), .map (some gcl)]) 89 (0, 0)), kmap (fun x : Int => Value.int .i64 x) (fun x : Int => Value.int .i64 x) gcl kvc])) (L := [kmap key2 sgV gg kv, pack (List.map sgE kv), .blk gF (.cells (#[.map (some gg), .map (some gcl)]) 89 (0, 0)), kmap (fun x : Int => Value.int .i64 x) (fun x : Int => Value.int .i64 x) gcl kvc]) (args := [.pointer (some ⟨gF, 0, none⟩), .slice A rs.length cap, .agg (smC s)]) Try.func36 rfl (by simp [Try.ntmps36]) hs ?_
  refine CX.sub (V' := [(0, .pointer (some ⟨gF, 0, none⟩)), (1, .slice A rs.length cap), (2, .agg (smC s))]) ⟨rfl, rfl, rfl, trivial⟩ ?_
  refine CX.seq ?_
  refine CX.region ?_
  refine RX.cons rfl rfl (op_box rfl rfl rfl rfl fun g5 => ?_)
  refine RX.cons rfl rfl (op_w (yw_assign rfl rfl) rfl rfl ?_)
  refine RX.nil (XX.next (V' := [(0, _), (1, _), (5, _)]) ⟨rfl, rfl, rfl, trivial⟩ ?_)
  refine CX.seq ?_
  refine CX.region ?_
  refine RX.cons rfl rfl (op_w (yw_assign rfl rfl) rfl rfl ?_)
  refine RX.nil (XX.next (V' := [(0, _), (1, _), (5, _), (7, _)]) ⟨rfl, rfl, rfl, rfl, trivial⟩ ?_)
  refine CX.seq ?_
  refine CX.seq ?_
  refine CX.region ?_
  refine RX.cons rfl rfl (op_w (yw_move rfl rfl) rfl rfl ?_)
  refine RX.cons rfl rfl (op_w (yw_lenS rfl Try.underlying30 rfl) rfl rfl ?_)
  refine RX.cons rfl rfl (op_w (yw_move rfl rfl) rfl rfl ?_)
  refine RX.nil (XX.next (V' := [(0, _), (5, _), (7, _), (10, _), (11, _), (12, _)]) ⟨rfl, rfl, rfl, rfl, rfl, rfl, trivial⟩ ?_)
  refine CX.block ?_
  refine CX.loop (σ := Nat × Int) (fun z => [(0, .pointer (some ⟨gF, 0, none⟩)), (5, .pointer (some ⟨g5, 0, none⟩)), (7, .int .i64 z.2), (10, .slice A rs.length cap), (11, .int .i64 ((rs.length : Nat) : Int)), (12, .int .i64 ((z.1 : Nat) : Int))]) (fun z => [.blk g5 (.cells (smC s) 24 (0, 0)), kmap key2 sgV gg kv, pack (List.map sgE kv), .blk gF (.cells (#[.map (some gg), .map (some gcl)]) 89 (0, 0)), kmap (fun x : Int => Value.int .i64 x) (fun x : Int => Value.int .i64 x) gcl kvc]) (fun z => z.1 ≤ rs.length ∧ (List.take z.1 rs).any (alR s) = false ∧ z.2 = mkR ((List.take z.1 rs).any (mtR (fmeas kvc kv s) 2)) ((List.take z.1 rs).any (mtR (fmeas kvc kv s) 1))) (fun z => rs.length - z.1) (0, 1) ⟨Nat.zero_le _, rfl, rfl⟩ ⟨rfl, rfl, rfl, rfl, rfl, rfl, trivial⟩ rfl (fun z hI => ?_)
  obtain ⟨i, mark⟩ := z
  dsimp only at hI ⊢
  obtain ⟨hi, hal, hmk⟩ := hI
  have hmr := mkR_range ((List.take i rs).any (mtR (fmeas kvc kv s) 2)) ((List.take i rs).any (mtR (fmeas kvc kv s) 1))
  rw [← hmk] at hmr
  refine CX.seq ?_
  refine CX.region ?_
  refine RX.cons rfl rfl (op_w (yw_lss rfl rfl rfl) rfl rfl ?_)
  refine RX.nil (XX.next (V' := [(0, _), (5, _), (7, _), (10, _), (11, _), (12, _), (13, _)]) ⟨rfl, rfl, rfl, rfl, rfl, rfl, rfl, trivial⟩ ?_)
  refine CX.seq ?_
  refine CX.condD (p := ((i : Nat) : Int) < ((rs.length : Nat) : Int)) rfl (fun c13 => ?_) (fun c13 => ?_)
  · obtain ⟨x0, hx0⟩ := get_some (l := rs) (k := i) (by omega)
    have hx0m := List.mem_of_getElem? hx0
    have hA : ∃ b j, A = some ⟨b, j, none⟩ := hr.some (k := 0) (by simp; omega)
    have hO1 : ab A ∉ (List.flatMap Ent.blocks [kmap key2 sgV gg kv, pack (List.map sgE kv), .blk gF (.cells (#[.map (some gg), .map (some gcl)]) 89 (0, 0)), kmap (fun x : Int => Value.int .i64 x) (fun x : Int => Value.int .i64 x) gcl kvc]) := by obtain ⟨b, j, e⟩ := hA; rw [e]; exact hO _ e
    refine CX.skip (XX.next (V' := [(0, _), (5, _), (7, _), (10, _), (11, _), (12, _)]) ⟨rfl, rfl, rfl, rfl, rfl, rfl, trivial⟩ ?_)
    refine CX.seq ?_
    refine CX.block ?_
    refine CX.seq ?_
    refine CX.region ?_
    refine RX.cons rfl rfl (op_w (yw_index (k := i) rfl slt_30 rfl rfl (by omega) (by omega) hA) rfl rfl ?_)
    refine RX.cons rfl rfl (op_yld (y_elem rfl rfl agg_44 hr hO1 (map_get hx0)) rfl rfl ?_)
    refine RX.cons rfl rfl (op_alloc rfl rfl rfl zero_44 fun g9 => ?_)
    refine RX.cons rfl rfl (op_storeAll (i := 0) rfl rfl rfl rfl szt_44 rfl (plain_of rfl) rfl rfl ?_)
    refine RX.nil (XX.next (V' := [(0, _), (5, _), (7, _), (9, _), (10, _), (11, _), (12, _)]) ⟨rfl, rfl, rfl, rfl, rfl, rfl, rfl, trivial⟩ ?_)
    refine CX.seq ?_
    refine CX.region ?_
    refine RX.cons rfl rfl (op_w (yw_field0 rfl fld_44_0 rfl) rfl rfl ?_)
    refine RX.cons rfl rfl (op_yld (y_load (i := 0) rfl rfl one_3 rfl rfl) rfl rfl ?_)
    refine RX.nil (XX.next (V' := [(0, _), (5, _), (7, _), (9, _), (10, _), (11, _), (12, _), (17, _)]) ⟨rfl, rfl, rfl, rfl, rfl, rfl, rfl, rfl, trivial⟩ ?_)
    refine CX.block ?_
    refine CX.seq ?_
    refine CX.region ?_
    refine RX.cons rfl rfl (op_w (yw_eql rfl rfl rfl) rfl rfl ?_)
    refine RX.cons rfl rfl (op_w (yw_assign rfl rfl) rfl rfl ?_)
    refine RX.nil (XX.next (V' := [(0, _), (5, _), (7, _), (9, _), (10, _), (11, _), (12, _), (17, _), (18, _)]) ⟨rfl, rfl, rfl, rfl, rfl, rfl, rfl, rfl, rfl, trivial⟩ ?_)
    refine CX.condD (p := Ru.act x0 = 3) rfl (fun c18 => ?_) (fun c18 => ?_)
    · refine CX.seq ?_
      refine CX.region ?_
      refine RX.cons rfl rfl (op_w (yw_fieldAddr rfl fld_44_3 rfl) rfl rfl ?_)
      refine RX.cons rfl rfl (op_yld (y_load (i := 0) rfl rfl one_3 rfl rfl) rfl rfl ?_)
      refine RX.cons rfl rfl (op_w (yw_fieldAddr rfl fld_24_2 rfl) rfl rfl ?_)
      refine RX.cons rfl rfl (op_yld (y_load (i := 1) rfl rfl one_3 rfl rfl) rfl rfl ?_)
      refine RX.cons rfl rfl (op_w (yw_eql rfl rfl rfl) rfl rfl ?_)
      refine RX.nil (XX.next (V' := [(0, _), (5, _), (7, _), (10, _), (11, _), (12, _), (24, _)]) ⟨rfl, rfl, rfl, rfl, rfl, rfl, rfl, trivial⟩ ?_)
      refine CX.condD (p := Ru.n x0 = Sm.acc s) rfl (fun c24 => ?_) (fun c24 => ?_)
      · refine CX.seq ?_
        refine CX.region ?_
        refine RX.cons rfl rfl (op_w (yw_assign rfl rfl) rfl rfl ?_)
        refine RX.nil (XX.next (V' := [(6, .int .i64 1)]) ⟨rfl, trivial⟩ ?_)
        refine CX.ret ?_
        refine XX.block_ret ?_
        refine XX.block_ret ?_
        refine XX.then_ret ?_
        refine XX.then_ret ?_
        refine XX.block_ret ?_
        refine XX.then_ret ?_
        exact ret_tmp rfl rfl fun w1 hw => ⟨(), trivial, by rw [judK, if_pos (any_at hx0m (by simp [alR]; omega))], hw.pick ((perm_pick 2 rfl).trans (List.Perm.cons _ ((perm_pick 2 rfl).trans (List.Perm.cons _ ((perm_pick 2 rfl).trans (List.Perm.cons _ ((perm_pick 2 rfl).trans (List.Perm.cons _ (List.Perm.refl _)))))))))⟩
      · refine CX.skip (XX.inBlock (V' := [(0, _), (5, _), (7, _), (10, _), (11, _), (12, _)]) ⟨rfl, rfl, rfl, rfl, rfl, rfl, trivial⟩ ?_)
        refine XX.inBlock (V' := [(0, _), (5, _), (7, _), (10, _), (11, _), (12, _)]) ⟨rfl, rfl, rfl, rfl, rfl, rfl, trivial⟩ ?_
        refine XX.next (V' := [(0, _), (5, _), (7, _), (10, _), (11, _), (12, _)]) ⟨rfl, rfl, rfl, rfl, rfl, rfl, trivial⟩ ?_
        refine CX.region ?_
        refine RX.cons rfl rfl (op_w (yw_add rfl rfl rfl (by omega) (by omega)) rfl rfl ?_)
        refine RX.cons rfl rfl (op_w (yw_move rfl rfl) rfl rfl ?_)
        refine RX.nil (XX.againP ([.blk g9 (.cells (ruC x0) 44 (0, 0))]) (i + 1, mark) (by dsimp only; omega) ⟨by dsimp only; omega, by dsimp only; rw [any_snoc hx0, hal, show alR s x0 = false from (by simp [alR]; omega)]; rfl, by dsimp only; rw [any_snoc hx0, any_snoc hx0, show mtR (fmeas kvc kv s) 2 x0 = false from (by simp [mtR]; omega), show mtR (fmeas kvc kv s) 1 x0 = false from (by simp [mtR]; omega)]; rw [Bool.or_false, Bool.or_false]; exact hmk⟩ ⟨rfl, rfl, rfl, rfl, rfl, rfl, trivial⟩ ((perm_pick 1 rfl).trans (List.Perm.cons _ ((perm_pick 1 rfl).trans (List.Perm.cons _ ((perm_pick 1 rfl).trans (List.Perm.cons _ ((perm_pick 1 rfl).trans (List.Perm.cons _ ((perm_pick 1 rfl).trans (List.Perm.cons _ (List.Perm.refl _))))))))))))
    · refine CX.seq ?_
      refine CX.region ?_
      refine RX.cons rfl rfl (op_w (yw_eql rfl rfl rfl) rfl rfl ?_)
      refine RX.cons rfl rfl (op_w (yw_assign rfl rfl) rfl rfl ?_)
      refine RX.nil (XX.next (V' := [(0, _), (5, _), (7, _), (9, _), (10, _), (11, _), (12, _), (17, _), (25, _)]) ⟨rfl, rfl, rfl, rfl, rfl, rfl, rfl, rfl, rfl, trivial⟩ ?_)
      refine CX.condD (p := Ru.act x0 = 1) rfl (fun c25 => ?_) (fun c25 => ?_)
      · refine CX.seq ?_
        refine CX.drawL 10 ([.blk g9 (.cells (ruC x0) 44 (0, 0)), .blk g5 (.cells (smC s) 24 (0, 0))]) [(0, 1, 134217728), (0, 32, 268435456), (0, 512, 536870912), (4, 536870912, 1073741824), (0, 512, 2147483648), (16, 2147483648, 4294967296), (43, 5771362304, 8589934592), (0, 512, 17179869184), (128, 17179869184, 34359738368), (320, 42949672960, 68719476736)] (by kernel_rfl) (by kernel_rfl) (by kernel_rfl) ?_
        refine DX.takeW 0 1 (by kernel_rfl) rfl rfl rfl rfl rfl (yw_move rfl rfl) ?_
        refine DX.take 1 3 (by kernel_rfl) rfl rfl rfl rfl rfl (List.Sublist.cons_cons _ (List.Sublist.cons_cons _ (List.nil_sublist _))) (y_loadA (i := 1) rfl rfl agg_24 rfl rfl) ?_
        refine DX.takeW 2 7 (by kernel_rfl) rfl rfl rfl rfl rfl (yw_fieldAddr rfl fld_44_1 rfl) ?_
        refine DX.take 3 15 (by kernel_rfl) rfl rfl rfl rfl rfl (List.Sublist.cons_cons _ (List.Sublist.cons_cons _ (List.nil_sublist _))) (y_load (i := 0) rfl rfl one_3 rfl rfl) ?_
        refine DX.takeW 4 31 (by kernel_rfl) rfl rfl rfl rfl rfl (yw_fieldAddr rfl fld_44_2 rfl) ?_
        refine DX.take 5 63 (by kernel_rfl) rfl rfl rfl rfl rfl (List.Sublist.cons_cons _ (List.Sublist.cons_cons _ (List.nil_sublist _))) (y_load (i := 0) rfl rfl one_3 rfl rfl) ?_
        refine DX.takeW 7 191 (by kernel_rfl) rfl rfl rfl rfl rfl (yw_fieldAddr rfl fld_44_3 rfl) ?_
        refine DX.take 8 447 (by kernel_rfl) rfl rfl rfl rfl rfl (List.Sublist.cons_cons _ (List.Sublist.cons_cons _ (List.nil_sublist _))) (y_load (i := 0) rfl rfl one_3 rfl rfl) ?_
        refine DX.step 6 511 (by kernel_rfl) rfl rfl rfl (op_callP [kmap key2 sgV gg kv, pack (List.map sgE kv), .blk gF (.cells (#[.map (some gg), .map (some gcl)]) 89 (0, 0)), kmap (fun x : Int => Value.int .i64 x) (fun x : Int => Value.int .i64 x) gcl kvc] [.blk g9 (.cells (ruC x0) 44 (0, 0)), .blk g5 (.cells (smC s) 24 (0, 0))] rfl rfl rfl rfl rfl ent_29 ((perm_pick 2 rfl).trans (List.Perm.cons _ ((perm_pick 2 rfl).trans (List.Perm.cons _ ((perm_pick 2 rfl).trans (List.Perm.cons _ ((perm_pick 2 rfl).trans (List.Perm.cons _ (List.Perm.refl _))))))))) (σ := Unit) (val := fun _ => .int .i64 ((fmeas kvc kv s (Ru.sub x0) (Ru.mea x0) : Nat) : Int)) (LL := fun _ => [kmap key2 sgV gg kv, pack (List.map sgE kv), .blk gF (.cells (#[.map (some gg), .map (some gcl)]) 89 (0, 0)), kmap (fun x : Int => Value.int .i64 x) (fun x : Int => Value.int .i64 x) gcl kvc]) (post := fun _ => True) (fun w hw hs => w_measure kv kvc s (Ru.sub x0) (Ru.mea x0) hkv hs) (fun _ _ => (DXs.mk (List.Sublist.cons _ (List.Sublist.cons _ (List.Sublist.cons _ (List.Sublist.cons _ (List.Sublist.refl _))))) ?_)))
        refine DX.takeW 9 1023 (by kernel_rfl) rfl rfl rfl rfl rfl (yw_gtr rfl rfl rfl) ?_
        refine DX.done (by kernel_rfl) (XX.next (V' := [(0, _), (5, _), (7, _), (10, _), (11, _), (12, _), (36, _)]) ⟨rfl, rfl, rfl, rfl, rfl, rfl, rfl, trivial⟩ ?_)
        refine CX.condD (p := Ru.n x0 < ((fmeas kvc kv s (Ru.sub x0) (Ru.mea x0) : Nat) : Int)) rfl (fun c36 => ?_) (fun c36 => ?_)
        · refine CX.region ?_
          refine RX.cons rfl rfl (op_w (yw_move rfl rfl) rfl rfl ?_)
          refine RX.cons rfl rfl (op_w (yw_max rfl rfl rfl) rfl rfl ?_)
          refine RX.cons rfl rfl (op_w (yw_assign rfl rfl) rfl rfl ?_)
          refine RX.nil (XX.inBlock (V' := [(0, _), (5, _), (7, _), (10, _), (11, _), (12, _)]) ⟨rfl, rfl, rfl, rfl, rfl, rfl, trivial⟩ ?_)
          refine XX.inBlock (V' := [(0, _), (5, _), (7, _), (10, _), (11, _), (12, _)]) ⟨rfl, rfl, rfl, rfl, rfl, rfl, trivial⟩ ?_
          refine XX.next (V' := [(0, _), (5, _), (7, _), (10, _), (11, _), (12, _)]) ⟨rfl, rfl, rfl, rfl, rfl, rfl, trivial⟩ ?_
          refine CX.region ?_
          refine RX.cons rfl rfl (op_w (yw_add rfl rfl rfl (by omega) (by omega)) rfl rfl ?_)
          refine RX.cons rfl rfl (op_w (yw_move rfl rfl) rfl rfl ?_)
          refine RX.nil (XX.againP ([.blk g9 (.cells (ruC x0) 44 (0, 0))]) (i + 1, max mark 2) (by dsimp only; omega) ⟨by dsimp only; omega, by dsimp only; rw [any_snoc hx0, hal, show alR s x0 = false from (by simp [alR]; omega)]; rfl, by dsimp only; rw [any_snoc hx0, any_snoc hx0, show mtR (fmeas kvc kv s) 2 x0 = false from (by simp [mtR]; omega), show mtR (fmeas kvc kv s) 1 x0 = true from (by simp [mtR]; omega)]; rw [Bool.or_false, hmk]; exact mkR_hold _ _⟩ ⟨rfl, rfl, rfl, rfl, rfl, rfl, trivial⟩ ((perm_pick 5 rfl).trans (List.Perm.cons _ ((perm_pick 0 rfl).trans (List.Perm.cons _ ((perm_pick 0 rfl).trans (List.Perm.cons _ ((perm_pick 0 rfl).trans (List.Perm.cons _ ((perm_pick 0 rfl).trans (List.Perm.cons _ (List.Perm.refl _))))))))))))
        · refine CX.skip (XX.inBlock (V' := [(0, _), (5, _), (7, _), (10, _), (11, _), (12, _)]) ⟨rfl, rfl, rfl, rfl, rfl, rfl, trivial⟩ ?_)
          refine XX.inBlock (V' := [(0, _), (5, _), (7, _), (10, _), (11, _), (12, _)]) ⟨rfl, rfl, rfl, rfl, rfl, rfl, trivial⟩ ?_
          refine XX.next (V' := [(0, _), (5, _), (7, _), (10, _), (11, _), (12, _)]) ⟨rfl, rfl, rfl, rfl, rfl, rfl, trivial⟩ ?_
          refine CX.region ?_
          refine RX.cons rfl rfl (op_w (yw_add rfl rfl rfl (by omega) (by omega)) rfl rfl ?_)
          refine RX.cons rfl rfl (op_w (yw_move rfl rfl) rfl rfl ?_)
          refine RX.nil (XX.againP ([.blk g9 (.cells (ruC x0) 44 (0, 0))]) (i + 1, mark) (by dsimp only; omega) ⟨by dsimp only; omega, by dsimp only; rw [any_snoc hx0, hal, show alR s x0 = false from (by simp [alR]; omega)]; rfl, by dsimp only; rw [any_snoc hx0, any_snoc hx0, show mtR (fmeas kvc kv s) 2 x0 = false from (by simp [mtR]; omega), show mtR (fmeas kvc kv s) 1 x0 = false from (by simp [mtR]; omega)]; rw [Bool.or_false, Bool.or_false]; exact hmk⟩ ⟨rfl, rfl, rfl, rfl, rfl, rfl, trivial⟩ ((perm_pick 5 rfl).trans (List.Perm.cons _ ((perm_pick 0 rfl).trans (List.Perm.cons _ ((perm_pick 0 rfl).trans (List.Perm.cons _ ((perm_pick 0 rfl).trans (List.Perm.cons _ ((perm_pick 0 rfl).trans (List.Perm.cons _ (List.Perm.refl _))))))))))))
      · refine CX.seq ?_
        refine CX.region ?_
        refine RX.cons rfl rfl (op_w (yw_eql rfl rfl rfl) rfl rfl ?_)
        refine RX.cons rfl rfl (op_w (yw_assign rfl rfl) rfl rfl ?_)
        refine RX.nil (XX.next (V' := [(0, _), (5, _), (7, _), (9, _), (10, _), (11, _), (12, _), (39, _)]) ⟨rfl, rfl, rfl, rfl, rfl, rfl, rfl, rfl, trivial⟩ ?_)
        refine CX.condD (p := Ru.act x0 = 2) rfl (fun c39 => ?_) (fun c39 => ?_)
        · refine CX.seq ?_
          refine CX.drawL 10 ([.blk g9 (.cells (ruC x0) 44 (0, 0)), .blk g5 (.cells (smC s) 24 (0, 0))]) [(0, 1, 2199023255552), (0, 32, 4398046511104), (0, 512, 8796093022208), (4, 8796093022208, 17592186044416), (0, 512, 35184372088832), (16, 35184372088832, 70368744177664), (43, 94557999988736, 140737488355328), (0, 512, 281474976710656), (128, 281474976710656, 562949953421312), (320, 703687441776640, 1125899906842624)] (by kernel_rfl) (by kernel_rfl) (by kernel_rfl) ?_
          refine DX.takeW 0 1 (by kernel_rfl) rfl rfl rfl rfl rfl (yw_move rfl rfl) ?_
          refine DX.take 1 3 (by kernel_rfl) rfl rfl rfl rfl rfl (List.Sublist.cons_cons _ (List.Sublist.cons_cons _ (List.nil_sublist _))) (y_loadA (i := 1) rfl rfl agg_24 rfl rfl) ?_
          refine DX.takeW 2 7 (by kernel_rfl) rfl rfl rfl rfl rfl (yw_fieldAddr rfl fld_44_1 rfl) ?_
          refine DX.take 3 15 (by kernel_rfl) rfl rfl rfl rfl rfl (List.Sublist.cons_cons _ (List.Sublist.cons_cons _ (List.nil_sublist _))) (y_load (i := 0) rfl rfl one_3 rfl rfl) ?_
          refine DX.takeW 4 31 (by kernel_rfl) rfl rfl rfl rfl rfl (yw_fieldAddr rfl fld_44_2 rfl) ?_
          refine DX.take 5 63 (by kernel_rfl) rfl rfl rfl rfl rfl (List.Sublist.cons_cons _ (List.Sublist.cons_cons _ (List.nil_sublist _))) (y_load (i := 0) rfl rfl one_3 rfl rfl) ?_
          refine DX.takeW 7 191 (by kernel_rfl) rfl rfl rfl rfl rfl (yw_fieldAddr rfl fld_44_3 rfl) ?_
          refine DX.take 8 447 (by kernel_rfl) rfl rfl rfl rfl rfl (List.Sublist.cons_cons _ (List.Sublist.cons_cons _ (List.nil_sublist _))) (y_load (i := 0) rfl rfl one_3 rfl rfl) ?_
          refine DX.step 6 511 (by kernel_rfl) rfl rfl rfl (op_callP [kmap key2 sgV gg kv, pack (List.map sgE kv), .blk gF (.cells (#[.map (some gg), .map (some gcl)]) 89 (0, 0)), kmap (fun x : Int => Value.int .i64 x) (fun x : Int => Value.int .i64 x) gcl kvc] [.blk g9 (.cells (ruC x0) 44 (0, 0)), .blk g5 (.cells (smC s) 24 (0, 0))] rfl rfl rfl rfl rfl ent_29 ((perm_pick 2 rfl).trans (List.Perm.cons _ ((perm_pick 2 rfl).trans (List.Perm.cons _ ((perm_pick 2 rfl).trans (List.Perm.cons _ ((perm_pick 2 rfl).trans (List.Perm.cons _ (List.Perm.refl _))))))))) (σ := Unit) (val := fun _ => .int .i64 ((fmeas kvc kv s (Ru.sub x0) (Ru.mea x0) : Nat) : Int)) (LL := fun _ => [kmap key2 sgV gg kv, pack (List.map sgE kv), .blk gF (.cells (#[.map (some gg), .map (some gcl)]) 89 (0, 0)), kmap (fun x : Int => Value.int .i64 x) (fun x : Int => Value.int .i64 x) gcl kvc]) (post := fun _ => True) (fun w hw hs => w_measure kv kvc s (Ru.sub x0) (Ru.mea x0) hkv hs) (fun _ _ => (DXs.mk (List.Sublist.cons _ (List.Sublist.cons _ (List.Sublist.cons _ (List.Sublist.cons _ (List.Sublist.refl _))))) ?_)))
          refine DX.takeW 9 1023 (by kernel_rfl) rfl rfl rfl rfl rfl (yw_gtr rfl rfl rfl) ?_
          refine DX.done (by kernel_rfl) (XX.next (V' := [(0, _), (5, _), (7, _), (10, _), (11, _), (12, _), (50, _)]) ⟨rfl, rfl, rfl, rfl, rfl, rfl, rfl, trivial⟩ ?_)
          refine CX.condD (p := Ru.n x0 < ((fmeas kvc kv s (Ru.sub x0) (Ru.mea x0) : Nat) : Int)) rfl (fun c50 => ?_) (fun c50 => ?_)
          · refine CX.region ?_
            refine RX.cons rfl rfl (op_w (yw_assign rfl rfl) rfl rfl ?_)
            refine RX.nil (XX.inBlock (V' := [(0, _), (5, _), (7, _), (10, _), (11, _), (12, _)]) ⟨rfl, rfl, rfl, rfl, rfl, rfl, trivial⟩ ?_)
            refine XX.inBlock (V' := [(0, _), (5, _), (7, _), (10, _), (11, _), (12, _)]) ⟨rfl, rfl, rfl, rfl, rfl, rfl, trivial⟩ ?_
            refine XX.next (V' := [(0, _), (5, _), (7, _), (10, _), (11, _), (12, _)]) ⟨rfl, rfl, rfl, rfl, rfl, rfl, trivial⟩ ?_
            refine CX.region ?_
            refine RX.cons rfl rfl (op_w (yw_add rfl rfl rfl (by omega) (by omega)) rfl rfl ?_)
            refine RX.cons rfl rfl (op_w (yw_move rfl rfl) rfl rfl ?_)
            refine RX.nil (XX.againP ([.blk g9 (.cells (ruC x0) 44 (0, 0))]) (i + 1, 3) (by dsimp only; omega) ⟨by dsimp only; omega, by dsimp only; rw [any_snoc hx0, hal, show alR s x0 = false from (by simp [alR]; omega)]; rfl, by dsimp only; rw [any_snoc hx0, any_snoc hx0, show mtR (fmeas kvc kv s) 2 x0 = true from (by simp [mtR]; omega), show mtR (fmeas kvc kv s) 1 x0 = false from (by simp [mtR]; omega)]; rw [Bool.or_false]; exact mkR_void _ _⟩ ⟨rfl, rfl, rfl, rfl, rfl, rfl, trivial⟩ ((perm_pick 5 rfl).trans (List.Perm.cons _ ((perm_pick 0 rfl).trans (List.Perm.cons _ ((perm_pick 0 rfl).trans (List.Perm.cons _ ((perm_pick 0 rfl).trans (List.Perm.cons _ ((perm_pick 0 rfl).trans (List.Perm.cons _ (List.Perm.refl _))))))))))))
          · refine CX.skip (XX.inBlock (V' := [(0, _), (5, _), (7, _), (10, _), (11, _), (12, _)]) ⟨rfl, rfl, rfl, rfl, rfl, rfl, trivial⟩ ?_)
            refine XX.inBlock (V' := [(0, _), (5, _), (7, _), (10, _), (11, _), (12, _)]) ⟨rfl, rfl, rfl, rfl, rfl, rfl, trivial⟩ ?_
            refine XX.next (V' := [(0, _), (5, _), (7, _), (10, _), (11, _), (12, _)]) ⟨rfl, rfl, rfl, rfl, rfl, rfl, trivial⟩ ?_
            refine CX.region ?_
            refine RX.cons rfl rfl (op_w (yw_add rfl rfl rfl (by omega) (by omega)) rfl rfl ?_)
            refine RX.cons rfl rfl (op_w (yw_move rfl rfl) rfl rfl ?_)
            refine RX.nil (XX.againP ([.blk g9 (.cells (ruC x0) 44 (0, 0))]) (i + 1, mark) (by dsimp only; omega) ⟨by dsimp only; omega, by dsimp only; rw [any_snoc hx0, hal, show alR s x0 = false from (by simp [alR]; omega)]; rfl, by dsimp only; rw [any_snoc hx0, any_snoc hx0, show mtR (fmeas kvc kv s) 2 x0 = false from (by simp [mtR]; omega), show mtR (fmeas kvc kv s) 1 x0 = false from (by simp [mtR]; omega)]; rw [Bool.or_false, Bool.or_false]; exact hmk⟩ ⟨rfl, rfl, rfl, rfl, rfl, rfl, trivial⟩ ((perm_pick 5 rfl).trans (List.Perm.cons _ ((perm_pick 0 rfl).trans (List.Perm.cons _ ((perm_pick 0 rfl).trans (List.Perm.cons _ ((perm_pick 0 rfl).trans (List.Perm.cons _ ((perm_pick 0 rfl).trans (List.Perm.cons _ (List.Perm.refl _))))))))))))
        · refine CX.skip (XX.inBlock (V' := [(0, _), (5, _), (7, _), (10, _), (11, _), (12, _)]) ⟨rfl, rfl, rfl, rfl, rfl, rfl, trivial⟩ ?_)
          refine XX.inBlock (V' := [(0, _), (5, _), (7, _), (10, _), (11, _), (12, _)]) ⟨rfl, rfl, rfl, rfl, rfl, rfl, trivial⟩ ?_
          refine XX.next (V' := [(0, _), (5, _), (7, _), (10, _), (11, _), (12, _)]) ⟨rfl, rfl, rfl, rfl, rfl, rfl, trivial⟩ ?_
          refine CX.region ?_
          refine RX.cons rfl rfl (op_w (yw_add rfl rfl rfl (by omega) (by omega)) rfl rfl ?_)
          refine RX.cons rfl rfl (op_w (yw_move rfl rfl) rfl rfl ?_)
          refine RX.nil (XX.againP ([.blk g9 (.cells (ruC x0) 44 (0, 0))]) (i + 1, mark) (by dsimp only; omega) ⟨by dsimp only; omega, by dsimp only; rw [any_snoc hx0, hal, show alR s x0 = false from (by simp [alR]; omega)]; rfl, by dsimp only; rw [any_snoc hx0, any_snoc hx0, show mtR (fmeas kvc kv s) 2 x0 = false from (by simp [mtR]; omega), show mtR (fmeas kvc kv s) 1 x0 = false from (by simp [mtR]; omega)]; rw [Bool.or_false, Bool.or_false]; exact hmk⟩ ⟨rfl, rfl, rfl, rfl, rfl, rfl, trivial⟩ ((perm_pick 1 rfl).trans (List.Perm.cons _ ((perm_pick 1 rfl).trans (List.Perm.cons _ ((perm_pick 1 rfl).trans (List.Perm.cons _ ((perm_pick 1 rfl).trans (List.Perm.cons _ ((perm_pick 1 rfl).trans (List.Perm.cons _ (List.Perm.refl _))))))))))))
  · rw [List.take_of_length_le (by omega)] at hal hmk
    refine CX.exit ?_
    refine XX.then_exit ?_
    refine XX.then_exit ?_
    refine XX.block_exit ?_
    refine XX.next (V' := [(7, _)]) ⟨rfl, trivial⟩ ?_
    refine CX.seq ?_
    refine CX.region ?_
    refine RX.cons rfl rfl (op_w (yw_move rfl rfl) rfl rfl ?_)
    refine RX.cons rfl rfl (op_w (yw_assign rfl rfl) rfl rfl ?_)
    refine RX.nil (XX.next (V' := [(6, .int .i64 mark)]) ⟨rfl, trivial⟩ ?_)
    refine CX.ret ?_
    exact ret_tmp rfl rfl fun w1 hw => ⟨(), trivial, by rw [judK, if_neg (by rw [hal]; decide), ← hmk], hw.pick ((perm_pick 1 rfl).trans (List.Perm.cons _ ((perm_pick 1 rfl).trans (List.Perm.cons _ ((perm_pick 1 rfl).trans (List.Perm.cons _ ((perm_pick 1 rfl).trans (List.Perm.cons _ (List.Perm.refl _)))))))))⟩

end Go.Proofs.Ytpcfgoadkfajfaa
namespace Go.Proofs.Ytpcfgoadkfajfaa
set_option linter.all false
open Go Go.RowKit
set_option maxRecDepth 100000
theorem slb_30 : SlB Try.prog 30 44 4 32 (.agg (#[.int .i64 0, .int .i64 0, .int .i64 0, .int .i64 0])) := ⟨Try.underlying30, ⟨(Try.prog.info? 44).get!, by kernel_rfl, by kernel_rfl, by kernel_rfl, by kernel_rfl⟩, by decide, by decide⟩
theorem ent_34 : ∀ args w, (callFunc 34 args).run Try.prog w = .ok (.enter 34 args) w := enters_of Try.func34 (by kernel_rfl) rfl
theorem nil_of {w : World} {A : Option Addr} {sz : Nat} {α : Type} {enc : α → Array Value} {xs : List α} (hr : Rd w A sz (xs.map enc)) (h : Option.isNone A = true) : xs = [] := by
  cases xs with
  | nil => rfl
  | cons x r =>
    obtain ⟨b, j, e⟩ := hr.some (k := 0) (by simp)
    rw [e] at h; cases h
/-- What is deleted from a list: the rules that are not valid. -/
theorem take_filter_snoc {l : List Ru} {j : Nat} {x : Ru} (h : l[j]? = some x) : (l.take (j + 1)).filter okR = (l.take j).filter okR ++ (if okR x = true then [x] else []) := by
  rw [take_succ h, List.filter_append]; congr 1
  by_cases e : okR x = true <;> simp [e]
theorem set_take_succ {α : Type} {l : List α} {i : Nat} (x : α) (h : i < l.length) : (l.set i x).take (i + 1) = l.take i ++ [x] := by
  rw [List.take_add_one, List.take_set_of_le (Nat.le_refl _), List.getElem?_set_self h]; rfl
theorem filter_all_ok {l : List Ru} (h : ∀ x ∈ l, okR x = true) : l.filter okR = l := List.filter_eq_self.2 h
set_option maxRecDepth 100000 in
theorem w_cloneR {w : World} {A : Option Addr} {cap : Nat} (rs : List Ru) (hr : Rd w A 4 (rs.map ruC)) (hl : rs.length ≤ 1000000) :
    Calls Try.prog 33 #[.slice A rs.length cap] w (fun e w' => ∃ z : Option Addr × Nat, True ∧ e = .returned (.slice z.1 rs.length z.2) ∧ SL w [] w' [.row z.1 z.2 44 4 (List.map ruC rs)]) := by
  refine calls_of_CX (O := []) (L := []) (args := [.slice A rs.length cap]) Try.func33 rfl (by simp [Try.ntmps33]) (SL.refl w) ?_
  refine CX.sub (V' := [(0, .slice A rs.length cap)]) ⟨rfl, trivial⟩ ?_
  refine CX.seq ?_
  refine CX.region ?_
  refine RX.cons rfl rfl (op_w (yw_assign rfl rfl) rfl rfl ?_)
  refine RX.nil (XX.next (V' := [(0, _)]) ⟨rfl, trivial⟩ ?_)
  refine CX.seq ?_
  refine CX.seq ?_
  refine CX.region ?_
  refine RX.cons rfl rfl (op_w (yw_move rfl rfl) rfl rfl ?_)
  refine RX.cons rfl rfl (op_w (yw_slnil rfl Try.underlying30 rfl rfl) rfl rfl ?_)
  refine RX.nil (XX.next (V' := [(0, _), (4, _)]) ⟨rfl, rfl, trivial⟩ ?_)
  refine CX.cond (b := Option.isNone A) rfl (fun c4 => ?_) (fun c4 => ?_)
  · obtain rfl : rs = [] := nil_of hr c4
    refine CX.rowNil 44 4 ?_
    refine CX.seq ?_
    refine CX.region ?_
    refine RX.cons rfl rfl (op_w (yw_assign rfl rfl) rfl rfl ?_)
    refine RX.nil (XX.next (V' := [(2, .slice none 0 0)]) ⟨rfl, trivial⟩ ?_)
    refine CX.ret ?_
    refine XX.then_ret ?_
    exact ret_tmp rfl rfl fun w1 hw => ⟨(none, 0), trivial, rfl, hw⟩
  · refine CX.skip (XX.next (V' := [(0, _)]) ⟨rfl, trivial⟩ ?_)
    refine CX.seq ?_
    refine CX.region ?_
    refine RX.cons rfl rfl (op_buildSlice rfl rfl rfl slb_30 rfl rfl (by intro v hv; simp at hv) (by decide) fun rr => ?_)
    refine RX.cons rfl rfl (op_w (yw_move rfl rfl) rfl rfl ?_)
    refine RX.cons rfl rfl (op_appendM0 ruC (i := 0) (xs := []) rs rfl rfl rfl slb_30 rfl rfl rfl rfl hr (by simp) (by simp; omega) (by simp; omega) fun A1 c1 => ?_)
    refine RX.cons rfl rfl (op_w (yw_assign rfl rfl) rfl rfl ?_)
    refine RX.nil (XX.next (V' := [(2, .slice A1 (([] ++ rs).length) c1)]) ⟨rfl, trivial⟩ ?_)
    refine CX.ret ?_
    exact ret_tmp rfl rfl fun w1 hw => ⟨(A1, c1), trivial, rfl, hw⟩

set_option maxRecDepth 100000 in
theorem w_cloneS {w : World} {A : Option Addr} {cap : Nat} (ls : List Sm) (hr : Rd w A 9 (ls.map smC)) (hl : ls.length ≤ 1000000) :
    Calls Try.prog 38 #[.slice A ls.length cap] w (fun e w' => ∃ z : Option Addr × Nat, True ∧ e = .returned (.slice z.1 ls.length z.2) ∧ SL w [] w' [.row z.1 z.2 24 9 (List.map smC ls)]) := by
  refine calls_of_CX (O := []) (L := []) (args := [.slice A ls.length cap]) Try.func38 rfl (by simp [Try.ntmps38]) (SL.refl w) ?_
  refine CX.sub (V' := [(0, .slice A ls.length cap)]) ⟨rfl, trivial⟩ ?_
  refine CX.seq ?_
  refine CX.region ?_
  refine RX.cons rfl rfl (op_w (yw_assign rfl rfl) rfl rfl ?_)
  refine RX.nil (XX.next (V' := [(0, _)]) ⟨rfl, trivial⟩ ?_)
  refine CX.seq ?_
  refine CX.seq ?_
  refine CX.region ?_
  refine RX.cons rfl rfl (op_w (yw_move rfl rfl) rfl rfl ?_)
  refine RX.cons rfl rfl (op_w (yw_slnil rfl Try.underlying22 rfl rfl) rfl rfl ?_)
  refine RX.nil (XX.next (V' := [(0, _), (4, _)]) ⟨rfl, rfl, trivial⟩ ?_)
  refine CX.cond (b := Option.isNone A) rfl (fun c4 => ?_) (fun c4 => ?_)
  · obtain rfl : ls = [] := nil_of hr c4
    refine CX.rowNil 24 9 ?_
    refine CX.seq ?_
    refine CX.region ?_
    refine RX.cons rfl rfl (op_w (yw_assign rfl rfl) rfl rfl ?_)
    refine RX.nil (XX.next (V' := [(2, .slice none 0 0)]) ⟨rfl, trivial⟩ ?_)
    refine CX.ret ?_
    refine XX.then_ret ?_
    exact ret_tmp rfl rfl fun w1 hw => ⟨(none, 0), trivial, rfl, hw⟩
  · refine CX.skip (XX.next (V' := [(0, _)]) ⟨rfl, trivial⟩ ?_)
    refine CX.seq ?_
    refine CX.region ?_
    refine RX.cons rfl rfl (op_buildSlice rfl rfl rfl slb_22 rfl rfl (by intro v hv; simp at hv) (by decide) fun sr => ?_)
    refine RX.cons rfl rfl (op_w (yw_move rfl rfl) rfl rfl ?_)
    refine RX.cons rfl rfl (op_appendM0 smC (i := 0) (xs := []) ls rfl rfl rfl slb_22 rfl rfl rfl rfl hr (by simp) (by simp; omega) (by simp; omega) fun A1 c1 => ?_)
    refine RX.cons rfl rfl (op_w (yw_assign rfl rfl) rfl rfl ?_)
    refine RX.nil (XX.next (V' := [(2, .slice A1 (([] ++ ls).length) c1)]) ⟨rfl, trivial⟩ ?_)
    refine CX.ret ?_
    exact ret_tmp rfl rfl fun w1 hw => ⟨(A1, c1), trivial, rfl, hw⟩

set_option maxRecDepth 100000 in
theorem w_idxR {w : World} {A : Option Addr} {cap : Nat} (rs : List Ru) (hr : Rd w A 4 (rs.map ruC)) (hl : rs.length ≤ 1000000) :
    Calls Try.prog 49 #[.slice A rs.length cap, .func (.func 34) #[] #[]] w (fun e w' => ∃ v : Int, ((∃ (j : Nat) (x : Ru), v = ((j : Nat) : Int) ∧ rs[j]? = some x ∧ okR x = false ∧ ∀ y ∈ rs.take j, okR y = true) ∨ (v = -1 ∧ ∀ y ∈ rs, okR y = true)) ∧ e = .returned (.int .i64 v) ∧ SL w [] w' []) := by
  refine calls_of_CX (O := []) (L := []) (args := [.slice A rs.length cap, .func (.func 34) #[] #[]]) Try.func49 rfl (by simp [Try.ntmps49]) (SL.refl w) ?_
  refine CX.sub (V' := [(0, .slice A rs.length cap), (1, .func (.func 34) #[] #[])]) ⟨rfl, rfl, trivial⟩ ?_
  refine CX.seq ?_
  refine CX.region ?_
  refine RX.cons rfl rfl (op_w (yw_assign rfl rfl) rfl rfl ?_)
  refine RX.nil (XX.next (V' := [(0, _), (1, _)]) ⟨rfl, rfl, trivial⟩ ?_)
  refine CX.seq ?_
  refine CX.seq ?_
  refine CX.region ?_
  refine RX.cons rfl rfl (op_w (yw_move rfl rfl) rfl rfl ?_)
  refine RX.cons rfl rfl (op_w (yw_lenS rfl Try.underlying30 rfl) rfl rfl ?_)
  refine RX.cons rfl rfl (op_w (yw_move rfl rfl) rfl rfl ?_)
  refine RX.nil (XX.next (V' := [(0, _), (1, _), (7, _), (8, _)]) ⟨rfl, rfl, rfl, rfl, trivial⟩ ?_)
  refine CX.block ?_
  refine CX.loop (σ := Nat) (fun i => [(0, .slice A rs.length cap), (1, .func (.func 34) #[] #[]), (7, .int .i64 ((rs.length : Nat) : Int)), (8, .int .i64 ((i : Nat) : Int))]) (fun i => []) (fun i => i ≤ rs.length ∧ ∀ y ∈ rs.take i, okR y = true) (fun i => rs.length - i) 0 ⟨Nat.zero_le _, by simp⟩ ⟨rfl, rfl, rfl, rfl, trivial⟩ rfl (fun i hI => ?_)
  obtain ⟨hi, hall⟩ := hI
  refine CX.seq ?_
  refine CX.region ?_
  refine RX.cons rfl rfl (op_w (yw_lss rfl rfl rfl) rfl rfl ?_)
  refine RX.nil (XX.next (V' := [(0, _), (1, _), (7, _), (8, _), (9, _)]) ⟨rfl, rfl, rfl, rfl, rfl, trivial⟩ ?_)
  refine CX.seq ?_
  refine CX.condD (p := ((i : Nat) : Int) < ((rs.length : Nat) : Int)) rfl (fun c9 => ?_) (fun c9 => ?_)
  · obtain ⟨x0, hx0⟩ := get_some (l := rs) (k := i) (by omega)
    have hx0m := List.mem_of_getElem? hx0
    have hA : ∃ b j, A = some ⟨b, j, none⟩ := hr.some (k := 0) (by simp; omega)
    refine CX.skip (XX.next (V' := [(0, _), (1, _), (7, _), (8, _)]) ⟨rfl, rfl, rfl, rfl, trivial⟩ ?_)
    refine CX.seq ?_
    refine CX.block ?_
    refine CX.seq ?_
    refine CX.region ?_
    refine RX.cons rfl rfl (op_w (yw_move rfl rfl) rfl rfl ?_)
    refine RX.cons rfl rfl (op_w (yw_assign rfl rfl) rfl rfl ?_)
    refine RX.nil (XX.next (V' := [(0, _), (1, _), (5, _), (7, _), (8, _)]) ⟨rfl, rfl, rfl, rfl, rfl, trivial⟩ ?_)
    refine CX.seq ?_
    refine CX.region ?_
    refine RX.cons rfl rfl (op_w (yw_move rfl rfl) rfl rfl ?_)
    refine RX.cons rfl rfl (op_w (yw_move rfl rfl) rfl rfl ?_)
    refine RX.cons rfl rfl (op_w (yw_move rfl rfl) rfl rfl ?_)
    refine RX.cons rfl rfl (op_w (yw_index (k := i) rfl slt_30 rfl rfl (by omega) (by omega) hA) rfl rfl ?_)
    refine RX.cons rfl rfl (op_yld (y_elem rfl rfl agg_44 hr (by simp) (map_get hx0)) rfl rfl ?_)
    refine RX.cons rfl rfl (op_callV (v := .bool (!(okR x0))) rfl rfl rfl rfl rfl ent_34 (fun w hw => w_judge1 x0) ?_)
    refine RX.nil (XX.next (V' := [(0, _), (1, _), (5, _), (7, _), (8, _), (16, _)]) ⟨rfl, rfl, rfl, rfl, rfl, rfl, trivial⟩ ?_)
    refine CX.cond (b := !(okR x0)) rfl (fun c16 => ?_) (fun c16 => ?_)
    · refine CX.seq ?_
      refine CX.region ?_
      refine RX.cons rfl rfl (op_w (yw_move rfl rfl) rfl rfl ?_)
      refine RX.cons rfl rfl (op_w (yw_assign rfl rfl) rfl rfl ?_)
      refine RX.nil (XX.next (V' := [(4, .int .i64 ((i : Nat) : Int))]) ⟨rfl, trivial⟩ ?_)
      refine CX.ret ?_
      refine XX.block_ret ?_
      refine XX.then_ret ?_
      refine XX.then_ret ?_
      refine XX.block_ret ?_
      refine XX.then_ret ?_
      exact ret_tmp rfl rfl fun w1 hw => ⟨((i : Nat) : Int), .inl ⟨i, x0, rfl, hx0, by simpa using c16, hall⟩, rfl, hw.sub (List.nil_sublist _)⟩
    · refine CX.skip (XX.inBlock (V' := [(0, _), (1, _), (7, _), (8, _)]) ⟨rfl, rfl, rfl, rfl, trivial⟩ ?_)
      refine XX.next (V' := [(0, _), (1, _), (7, _), (8, _)]) ⟨rfl, rfl, rfl, rfl, trivial⟩ ?_
      refine CX.region ?_
      refine RX.cons rfl rfl (op_w (yw_add rfl rfl rfl (by omega) (by omega)) rfl rfl ?_)
      refine RX.cons rfl rfl (op_w (yw_move rfl rfl) rfl rfl ?_)
      refine RX.nil (XX.againP ([]) (i + 1) (by omega) ⟨by omega, all_snocP (p := fun x : Ru => okR x = true) hx0 (by simpa using c16) hall⟩ ⟨rfl, rfl, rfl, rfl, trivial⟩ (List.Perm.refl _))
  · rw [List.take_of_length_le (by omega)] at hall
    refine CX.exit ?_
    refine XX.then_exit ?_
    refine XX.then_exit ?_
    refine XX.block_exit ?_
    refine XX.next (V' := []) trivial ?_
    refine CX.seq ?_
    refine CX.region ?_
    refine RX.cons rfl rfl (op_w (yw_assign rfl rfl) rfl rfl ?_)
    refine RX.nil (XX.next (V' := [(4, .int .i64 (-1))]) ⟨rfl, trivial⟩ ?_)
    refine CX.ret ?_
    exact ret_tmp rfl rfl fun w1 hw => ⟨-1, .inr ⟨rfl, hall⟩, rfl, hw.sub (List.nil_sublist _)⟩

end Go.Proofs.Ytpcfgoadkfajfaa
namespace Go.Proofs.Ytpcfgoadkfajfaa
set_option linter.all false
open Go Go.RowKit
set_option maxRecDepth 100000
theorem ent_49 : ∀ args w, (callFunc 49 args).run Try.prog w = .ok (.enter 49 args) w := enters_of Try.func49 (by kernel_rfl) rfl
theorem drop_more {α : Type} {l m : List α} {j : Nat} (h : l.drop j = m.drop j) : l.drop (j + 1) = m.drop (j + 1) := by
  have := congrArg (List.drop 1) h
  rwa [List.drop_drop, List.drop_drop] at this
theorem drop_at {α : Type} {l m : List α} {j : Nat} {x : α} (h : l.drop j = m.drop j) (hx : m[j]? = some x) : l[j]? = some x := by
  have := congrArg (fun q : List α => q[0]?) h
  simp only [List.getElem?_drop, Nat.add_zero] at this
  rw [this]; exact hx
set_option maxRecDepth 100000 in
theorem w_delR {w : World} {A : Option Addr} {cap : Nat} (rs : List Ru) (hl : rs.length ≤ 1000000) (hs : SL w (List.flatMap Ent.blocks [.row A cap 44 4 (List.map ruC rs)]) w [.row A cap 44 4 (List.map ruC rs)]) :
    Calls Try.prog 32 #[.slice A (List.length (rs : List Ru)) cap, .func (.func 34) #[] #[]] w (fun e w' => ∃ z : Unit, True ∧ e = .returned (.slice A (List.length (List.filter okR rs)) cap) ∧ SL w (List.flatMap Ent.blocks [.row A cap 44 4 (List.map ruC rs)]) w' [.row A cap 44 4 (List.map ruC (List.filter okR rs))]) := by
  refine calls_of_CX (O := (List.flatMap Ent.blocks [.row A cap 44 4 (List.map ruC rs)])) (L := [.row A cap 44 4 (List.map ruC rs)]) (args := [.slice A (List.length (rs : List Ru)) cap, .func (.func 34) #[] #[]]) Try.func32 rfl (by simp [Try.ntmps32]) hs ?_
  refine CX.sub (V' := [(0, .slice A (List.length (rs : List Ru)) cap), (1, .func (.func 34) #[] #[])]) ⟨rfl, rfl, trivial⟩ ?_
  refine CX.seq ?_
  refine CX.region ?_
  refine RX.cons rfl rfl (op_w (yw_assign rfl rfl) rfl rfl ?_)
  refine RX.nil (XX.next (V' := [(0, _), (1, _)]) ⟨rfl, rfl, trivial⟩ ?_)
  refine CX.seq ?_
  refine CX.region ?_
  refine RX.cons rfl rfl (op_w (yw_move rfl rfl) rfl rfl ?_)
  refine RX.cons rfl rfl (op_w (yw_move rfl rfl) rfl rfl ?_)
  refine RX.cons rfl rfl (op_callE rfl rfl rfl rfl rfl ent_49 (fun w hw => w_idxR rs (Ent.rd (hw.ents _ (List.mem_of_getElem? (i := 0) rfl))) hl) (fun v0 hv0 => ?_))
  refine RX.cons rfl rfl (op_w (yw_assign rfl rfl) rfl rfl ?_)
  refine RX.nil (XX.next (V' := [(0, _), (1, _), (5, _)]) ⟨rfl, rfl, rfl, trivial⟩ ?_)
  refine CX.seq ?_
  refine CX.seq ?_
  rcases hv0 with ⟨i0, x1, rfl, hx1, hbad, hgood⟩ | ⟨rfl, hgood⟩
  · have hi0 := (List.getElem?_eq_some_iff.1 hx1).1
    refine CX.region ?_
    refine RX.cons rfl rfl (op_w (yw_move rfl rfl) rfl rfl ?_)
    refine RX.cons rfl rfl (op_w (yw_eql rfl rfl rfl) rfl rfl ?_)
    refine RX.nil (XX.next (V' := [(0, _), (1, _), (5, _), (12, _)]) ⟨rfl, rfl, rfl, rfl, trivial⟩ ?_)
    refine CX.condD (p := ((i0 : Nat) : Int) = (-1)) rfl (fun c12 => ?_) (fun c12 => ?_)
    · exfalso; omega
    · refine CX.skip (XX.next (V' := [(0, _), (1, _), (5, _)]) ⟨rfl, rfl, rfl, trivial⟩ ?_)
      refine CX.seq ?_
      refine CX.seq ?_
      refine CX.region ?_
      refine RX.cons rfl rfl (op_w (yw_move rfl rfl) rfl rfl ?_)
      refine RX.cons rfl rfl (op_w (yw_add rfl rfl rfl (by omega) (by omega)) rfl rfl ?_)
      refine RX.know (t := 15) (u := .int .i64 ((i0 + 1 : Nat) : Int)) rfl (congrArg (Value.int .i64) (by omega)) ?_
      refine RX.cons rfl rfl (op_w (yw_assign rfl rfl) rfl rfl ?_)
      refine RX.nil (XX.next (V' := [(0, _), (1, _), (5, _), (6, _)]) ⟨rfl, rfl, rfl, rfl, trivial⟩ ?_)
      refine CX.block ?_
      refine CX.loop (σ := Nat × Nat × List Ru) (fun z => [(0, .slice A rs.length cap), (1, .func (.func 34) #[] #[]), (5, .int .i64 ((z.2.1 : Nat) : Int)), (6, .int .i64 ((z.1 : Nat) : Int))]) (fun z => [.row A cap 44 4 (List.map ruC z.2.2)]) (fun z => z.1 ≤ rs.length ∧ z.2.1 < z.1 ∧ z.2.2.length = rs.length ∧ List.take z.2.1 z.2.2 = List.filter okR (List.take z.1 rs) ∧ List.drop z.1 z.2.2 = List.drop z.1 rs) (fun z => rs.length - z.1) (i0 + 1, i0, rs) ⟨by dsimp only; omega, by dsimp only; omega, rfl, by dsimp only; rw [take_filter_snoc hx1, hbad, filter_all_ok hgood]; simp, rfl⟩ ⟨rfl, rfl, rfl, rfl, trivial⟩ rfl (fun z hI => ?_)
      obtain ⟨j, i, ys⟩ := z
      dsimp only at hI ⊢
      obtain ⟨hj, hij, hyn, hyt, hyd⟩ := hI
      refine CX.seq ?_
      refine CX.seq ?_
      refine CX.region ?_
      refine RX.cons rfl rfl (op_w (yw_move rfl rfl) rfl rfl ?_)
      refine RX.cons rfl rfl (op_w (yw_move rfl rfl) rfl rfl ?_)
      refine RX.cons rfl rfl (op_w (yw_lenS rfl Try.underlying30 rfl) rfl rfl ?_)
      refine RX.cons rfl rfl (op_w (yw_lss rfl rfl rfl) rfl rfl ?_)
      refine RX.nil (XX.next (V' := [(0, _), (1, _), (5, _), (6, _), (19, _)]) ⟨rfl, rfl, rfl, rfl, rfl, trivial⟩ ?_)
      refine CX.condD (p := ((j : Nat) : Int) < ((rs.length : Nat) : Int)) rfl (fun c19 => ?_) (fun c19 => ?_)
      · obtain ⟨x0, hx0⟩ := get_some (l := rs) (k := j) (by omega)
        have hx0m := List.mem_of_getElem? hx0
        have hy0 : ys[j]? = some x0 := drop_at hyd hx0
        refine CX.rowSome 0 rfl (by rw [List.length_map]; omega) (fun hA => ?_)
        refine CX.skip (XX.next (V' := [(0, _), (1, _), (5, _), (6, _)]) ⟨rfl, rfl, rfl, rfl, trivial⟩ ?_)
        refine CX.seq ?_
        refine CX.block ?_
        refine CX.seq ?_
        refine CX.region ?_
        refine RX.cons rfl rfl (op_w (yw_move rfl rfl) rfl rfl ?_)
        refine RX.cons rfl rfl (op_w (yw_move rfl rfl) rfl rfl ?_)
        refine RX.cons rfl rfl (op_w (yw_index (k := j) rfl slt_30 rfl rfl (by omega) (by omega) hA) rfl rfl ?_)
        refine RX.cons rfl rfl (op_yld (y_rowElem (i := 0) rfl rfl agg_44 rfl (map_get hy0)) rfl rfl ?_)
        refine RX.cons rfl rfl (op_alloc rfl rfl rfl zero_44 fun g7 => ?_)
        refine RX.cons rfl rfl (op_storeAll (i := 0) rfl rfl rfl rfl szt_44 rfl (plain_of rfl) rfl rfl ?_)
        refine RX.nil (XX.next (V' := [(0, _), (1, _), (5, _), (6, _), (7, _)]) ⟨rfl, rfl, rfl, rfl, rfl, trivial⟩ ?_)
        refine CX.seq ?_
        refine CX.region ?_
        refine RX.cons rfl rfl (op_w (yw_move rfl rfl) rfl rfl ?_)
        refine RX.cons rfl rfl (op_yld (y_loadA (i := 0) rfl rfl agg_44 rfl rfl) rfl rfl ?_)
        refine RX.cons rfl rfl (op_callV (v := .bool (!(okR x0))) rfl rfl rfl rfl rfl ent_34 (fun w hw => w_judge1 x0) ?_)
        refine RX.cons rfl rfl (op_w (yw_not rfl rfl) rfl rfl ?_)
        refine RX.nil (XX.next (V' := [(0, _), (1, _), (5, _), (6, _), (7, _), (29, _)]) ⟨rfl, rfl, rfl, rfl, rfl, rfl, trivial⟩ ?_)
        refine CX.cond (b := !(!(okR x0))) rfl (fun c29 => ?_) (fun c29 => ?_)
        · refine CX.seq ?_
          refine CX.region ?_
          refine RX.cons rfl rfl (op_w (yw_move rfl rfl) rfl rfl ?_)
          refine RX.cons rfl rfl (op_w (yw_move rfl rfl) rfl rfl ?_)
          refine RX.cons rfl rfl (op_yld (y_loadA (i := 0) rfl rfl agg_44 rfl rfl) rfl rfl ?_)
          refine RX.cons rfl rfl (op_w (yw_index (k := i) rfl slt_30 rfl rfl (by omega) (by omega) hA) rfl rfl ?_)
          refine RX.cons rfl rfl (op_storeElemE (i := 1) (k := i) (ys := List.map ruC (ys.set i x0)) rfl rfl rfl rfl szt_44 rfl (plain_of rfl) rfl (by rw [List.length_map]; omega) (by rw [List.map_set]; rfl) ?_)
          refine RX.nil (XX.next (V' := [(0, _), (1, _), (5, _), (6, _)]) ⟨rfl, rfl, rfl, rfl, trivial⟩ ?_)
          refine CX.region ?_
          refine RX.cons rfl rfl (op_w (yw_move rfl rfl) rfl rfl ?_)
          refine RX.cons rfl rfl (op_w (yw_add rfl rfl rfl (by omega) (by omega)) rfl rfl ?_)
          refine RX.know (t := 35) (u := .int .i64 ((i + 1 : Nat) : Int)) rfl (congrArg (Value.int .i64) (by omega)) ?_
          refine RX.cons rfl rfl (op_w (yw_assign rfl rfl) rfl rfl ?_)
          refine RX.nil (XX.inBlock (V' := [(0, _), (1, _), (5, _), (6, _)]) ⟨rfl, rfl, rfl, rfl, trivial⟩ ?_)
          refine XX.next (V' := [(0, _), (1, _), (5, _), (6, _)]) ⟨rfl, rfl, rfl, rfl, trivial⟩ ?_
          refine CX.region ?_
          refine RX.cons rfl rfl (op_w (yw_move rfl rfl) rfl rfl ?_)
          refine RX.cons rfl rfl (op_w (yw_add rfl rfl rfl (by omega) (by omega)) rfl rfl ?_)
          refine RX.cons rfl rfl (op_w (yw_assign rfl rfl) rfl rfl ?_)
          refine RX.nil (XX.againP ([.blk g7 (.cells (ruC x0) 44 (0, 0))]) (j + 1, i + 1, ys.set i x0) (by dsimp only; omega) ⟨by dsimp only; omega, by dsimp only; omega, by dsimp only; rw [List.length_set]; exact hyn, by dsimp only; rw [take_filter_snoc hx0, set_take_succ _ (by omega), hyt, if_pos (by simpa using c29)], by dsimp only; rw [List.drop_set_of_lt (by omega)]; exact drop_more hyd⟩ ⟨rfl, rfl, rfl, rfl, trivial⟩ ((perm_pick 1 rfl).trans (List.Perm.cons _ (List.Perm.refl _))))
        · refine CX.skip (XX.inBlock (V' := [(0, _), (1, _), (5, _), (6, _)]) ⟨rfl, rfl, rfl, rfl, trivial⟩ ?_)
          refine XX.next (V' := [(0, _), (1, _), (5, _), (6, _)]) ⟨rfl, rfl, rfl, rfl, trivial⟩ ?_
          refine CX.region ?_
          refine RX.cons rfl rfl (op_w (yw_move rfl rfl) rfl rfl ?_)
          refine RX.cons rfl rfl (op_w (yw_add rfl rfl rfl (by omega) (by omega)) rfl rfl ?_)
          refine RX.cons rfl rfl (op_w (yw_assign rfl rfl) rfl rfl ?_)
          refine RX.nil (XX.againP ([.blk g7 (.cells (ruC x0) 44 (0, 0))]) (j + 1, i, ys) (by dsimp only; omega) ⟨by dsimp only; omega, by dsimp only; omega, hyn, by dsimp only; rw [take_filter_snoc hx0, hyt, if_neg (by simpa using c29), List.append_nil], drop_more hyd⟩ ⟨rfl, rfl, rfl, rfl, trivial⟩ ((perm_pick 1 rfl).trans (List.Perm.cons _ (List.Perm.refl _))))
      · rw [List.take_of_length_le (l := rs) (by omega)] at hyt
        refine CX.exit ?_
        refine XX.then_exit ?_
        refine XX.then_exit ?_
        refine XX.block_exit ?_
        refine XX.next (V' := [(0, _), (5, _)]) ⟨rfl, rfl, trivial⟩ ?_
        refine CX.seq ?_
        refine CX.region ?_
        refine RX.cons rfl rfl (op_w (yw_move rfl rfl) rfl rfl ?_)
        refine RX.cons rfl rfl (op_w (yw_move rfl rfl) rfl rfl ?_)
        refine RX.cons rfl rfl (op_w (yw_sliceFrom (k := i) rfl slt_30 rfl rfl (by omega) (by omega)) rfl rfl ?_)
        refine RX.cons rfl rfl (op_clearTail (i := 0) (k := i) rfl rfl slb_30 (plain_of rfl) rfl rfl (by rw [List.length_map]; exact hyn) (by omega) ?_)
        refine RX.know1 0 (q := .row A cap 44 4 (List.map ruC (List.take i ys))) rfl (by rw [List.map_take]) ?_
        refine RX.nil (XX.next (V' := [(0, _), (5, _)]) ⟨rfl, rfl, trivial⟩ ?_)
        refine CX.seq ?_
        refine CX.rowCap 0 (xs := List.take i ys) (enc := ruC) rfl (fun hcap => ?_)
        rw [List.length_take, Nat.min_eq_left (by omega)] at hcap
        refine CX.region ?_
        refine RX.cons rfl rfl (op_w (yw_move rfl rfl) rfl rfl ?_)
        refine RX.cons rfl rfl (op_w (yw_move rfl rfl) rfl rfl ?_)
        refine RX.cons rfl rfl (op_w (yw_sliceTo (k := i) rfl slt_30 rfl rfl (by omega) (by omega)) rfl rfl ?_)
        refine RX.cons rfl rfl (op_w (yw_assign rfl rfl) rfl rfl ?_)
        refine RX.nil (XX.next (V' := [(4, .slice A i cap)]) ⟨rfl, trivial⟩ ?_)
        refine CX.ret ?_
        exact ret_tmp rfl rfl fun w1 hw => ⟨(), trivial, by rw [← hyt, List.length_take, Nat.min_eq_left (by omega)], by rw [← hyt]; exact hw.pick ((perm_pick 0 rfl).trans (List.Perm.cons _ (List.Perm.refl _)))⟩
  · refine CX.region ?_
    refine RX.cons rfl rfl (op_w (yw_move rfl rfl) rfl rfl ?_)
    refine RX.cons rfl rfl (op_w (yw_eql rfl rfl rfl) rfl rfl ?_)
    refine RX.nil (XX.next (V' := [(0, _), (1, _), (5, _), (12, _)]) ⟨rfl, rfl, rfl, rfl, trivial⟩ ?_)
    refine CX.condD (p := -1 = (-1)) rfl (fun c12 => ?_) (fun c12 => ?_)
    · refine CX.seq ?_
      refine CX.region ?_
      refine RX.cons rfl rfl (op_w (yw_move rfl rfl) rfl rfl ?_)
      refine RX.cons rfl rfl (op_w (yw_assign rfl rfl) rfl rfl ?_)
      refine RX.nil (XX.next (V' := [(4, .slice A (List.length (rs : List Ru)) cap)]) ⟨rfl, trivial⟩ ?_)
      refine CX.ret ?_
      refine XX.then_ret ?_
      exact ret_tmp rfl rfl fun w1 hw => ⟨(), trivial, by rw [filter_all_ok hgood], by rw [filter_all_ok hgood]; exact hw.pick ((perm_pick 0 rfl).trans (List.Perm.cons _ (List.Perm.refl _)))⟩
    · exact absurd rfl c12

end Go.Proofs.Ytpcfgoadkfajfaa
namespace Go.Proofs.Ytpcfgoadkfajfaa
set_option linter.all false
open Go Go.RowKit
set_option maxRecDepth 100000
theorem ent_33 : ∀ args w, (callFunc 33 args).run Try.prog w = .ok (.enter 33 args) w := enters_of Try.func33 (by kernel_rfl) rfl
theorem ent_32 : ∀ args w, (callFunc 32 args).run Try.prog w = .ok (.enter 32 args) w := enters_of Try.func32 (by kernel_rfl) rfl
theorem ent_36 : ∀ args w, (callFunc 36 args).run Try.prog w = .ok (.enter 36 args) w := enters_of Try.func36 (by kernel_rfl) rfl
theorem SL.apartO {w0 w : World} {O : List Nat} {M R : List Ent} (h : SL w0 O w (M ++ R)) (i : Nat) {A : Option Addr} {cap : Nat} {e : TypeId} {sz : Nat} {xs : List (Array Value)} (hq : R[i]? = some (.row A cap e sz xs)) : ∀ q, A = some q → q.block ∉ M.flatMap Ent.blocks := fun q hA => h.apart i hq (b := q.block) (by simp [Ent.blocks, hA])
theorem judK_fmeas {ls : List Sm} {kvc : List (Int × Int)} {kv : List ((Int × Int) × Sg)} (hc : ClOk (rep (edgesOf ls)) (accs ls) kvc) (hg : GsOk ls kvc kv) (rs : List Ru) (s : Sm) : judK (fmeas kvc kv s) (rs.filter okR) s = jud rs ls s := by
  rw [← judK_filter, show fmeas kvc kv s = fun k m => meas ls s k m from funext fun k => funext fun m => fmeas_eq hc hg s k m]
set_option maxRecDepth 100000 in
theorem w_Judge {w : World} {AR A : Option Addr} {capR cap : Nat} (rs : List Ru) (ls : List Sm) (hrR : Rd w AR 4 (rs.map ruC)) (hr : Rd w A 9 (ls.map smC)) (hlR : rs.length ≤ 1000000) (hl : ls.length ≤ 100000) :
    Calls Try.prog 19 #[.slice AR rs.length capR, .slice A ls.length cap] w (fun e w' => ∃ z : Option Addr × Nat, True ∧ e = .returned (.slice z.1 (List.length (List.map (jud rs ls) ls)) z.2) ∧ SL w [] w' [.row z.1 z.2 3 1 (List.map iR (List.map (jud rs ls) ls))]) := by
  refine calls_of_CX (O := []) (L := []) (args := [.slice AR rs.length capR, .slice A ls.length cap]) Try.func19 rfl (by simp [Try.ntmps19]) (SL.refl w) ?_
  refine CX.sub (V' := [(0, .slice AR rs.length capR), (1, .slice A ls.length cap)]) ⟨rfl, rfl, trivial⟩ ?_
  refine CX.seq ?_
  refine CX.region ?_
  refine RX.cons rfl rfl (op_w (yw_assign rfl rfl) rfl rfl ?_)
  refine RX.nil (XX.next (V' := [(0, _), (1, _)]) ⟨rfl, rfl, trivial⟩ ?_)
  refine CX.seq ?_
  refine CX.region ?_
  refine RX.cons rfl rfl (op_w (yw_move rfl rfl) rfl rfl ?_)
  refine RX.cons rfl rfl (op_callE rfl rfl rfl rfl rfl ent_33 (fun w hw => w_cloneR rs (hw.rd hrR (by simp)) hlR) (fun ⟨A1, c1⟩ _ => ?_))
  refine RX.cons rfl rfl (op_callP [.row A1 c1 44 4 (List.map ruC rs)] [] rfl rfl rfl rfl rfl ent_32 ((perm_pick 0 rfl).trans (List.Perm.cons _ (List.Perm.refl _))) (σ := Unit) (val := fun _ => .slice A1 (List.length (List.filter okR rs)) c1) (LL := fun _ => [.row A1 c1 44 4 (List.map ruC (List.filter okR rs))]) (post := fun _ => True) (fun w hw hs => w_delR rs hlR hs) (fun _ _ => ?_))
  refine RX.cons rfl rfl (op_w (yw_assign rfl rfl) rfl rfl ?_)
  refine RX.nil (XX.next (V' := [(0, _), (1, _)]) ⟨rfl, rfl, trivial⟩ ?_)
  refine CX.seq ?_
  refine CX.region ?_
  refine RX.cons rfl rfl (op_w (yw_move rfl rfl) rfl rfl ?_)
  refine RX.cons rfl rfl (op_callE rfl rfl rfl rfl rfl ent_28 (fun w hw => w_newFilter ls (hw.rd hr (by simp)) hl) (fun ⟨⟨gF, gg, gcl⟩, kv, kvc⟩ ⟨hcl, hgs⟩ => ?_))
  refine RX.cons rfl rfl (op_w (yw_assign rfl rfl) rfl rfl ?_)
  refine RX.nil (XX.next (V' := [(0, _), (1, _), (5, _)]) ⟨rfl, rfl, rfl, trivial⟩ ?_)
  refine CX.seq ?_
  refine CX.region ?_
  refine RX.cons rfl rfl (op_w (yw_assign rfl rfl) rfl rfl ?_)
  refine RX.nil (XX.next (V' := [(0, _), (1, _), (5, _), (6, _)]) ⟨rfl, rfl, rfl, rfl, trivial⟩ ?_)
  refine CX.seq ?_
  refine CX.seq ?_
  refine CX.region ?_
  refine RX.cons rfl rfl (op_w (yw_move rfl rfl) rfl rfl ?_)
  refine RX.cons rfl rfl (op_w (yw_lenS rfl Try.underlying22 rfl) rfl rfl ?_)
  refine RX.cons rfl rfl (op_w (yw_move rfl rfl) rfl rfl ?_)
  refine RX.nil (XX.next (V' := [(0, _), (5, _), (6, _), (14, _), (15, _), (16, _)]) ⟨rfl, rfl, rfl, rfl, rfl, rfl, trivial⟩ ?_)
  refine CX.block ?_
  refine CX.rowNil 3 1 ?_
  refine CX.loop (σ := Nat × (Option Addr × Nat) × List Int) (fun z => [(0, .slice A1 (List.length ((List.filter okR rs) : List Ru)) c1), (5, .pointer (some ⟨gF, 0, none⟩)), (6, .slice z.2.1.1 (List.length (z.2.2 : List Int)) z.2.1.2), (14, .slice A ls.length cap), (15, .int .i64 ((ls.length : Nat) : Int)), (16, .int .i64 ((z.1 : Nat) : Int))]) (fun z => [.row z.2.1.1 z.2.1.2 3 1 (List.map iR z.2.2), kmap key2 sgV gg kv, pack (List.map sgE kv), .blk gF (.cells (#[.map (some gg), .map (some gcl)]) 89 (0, 0)), kmap (fun x : Int => Value.int .i64 x) (fun x : Int => Value.int .i64 x) gcl kvc, .row A1 c1 44 4 (List.map ruC (List.filter okR rs))]) (fun z => z.1 ≤ ls.length ∧ z.2.2 = List.map (jud rs ls) (List.take z.1 ls)) (fun z => ls.length - z.1) (0, (none, 0), []) ⟨Nat.zero_le _, rfl⟩ ⟨rfl, rfl, rfl, rfl, rfl, rfl, trivial⟩ rfl (fun z hI => ?_)
  obtain ⟨i, ⟨A2, c2⟩, ys⟩ := z
  dsimp only at hI ⊢
  obtain ⟨hi, hys⟩ := hI
  have hyn : ys.length = i := by rw [hys, List.length_map, List.length_take]; omega
  refine CX.seq ?_
  refine CX.region ?_
  refine RX.cons rfl rfl (op_w (yw_lss rfl rfl rfl) rfl rfl ?_)
  refine RX.nil (XX.next (V' := [(0, _), (5, _), (6, _), (14, _), (15, _), (16, _), (17, _)]) ⟨rfl, rfl, rfl, rfl, rfl, rfl, rfl, trivial⟩ ?_)
  refine CX.seq ?_
  refine CX.condD (p := ((i : Nat) : Int) < ((ls.length : Nat) : Int)) rfl (fun c17 => ?_) (fun c17 => ?_)
  · obtain ⟨x0, hx0⟩ := get_some (l := ls) (k := i) (by omega)
    have hx0m := List.mem_of_getElem? hx0
    have hA : ∃ b j, A = some ⟨b, j, none⟩ := hr.some (k := 0) (by simp; omega)
    refine CX.skip (XX.next (V' := [(0, _), (5, _), (6, _), (14, _), (15, _), (16, _)]) ⟨rfl, rfl, rfl, rfl, rfl, rfl, trivial⟩ ?_)
    refine CX.seq ?_
    refine CX.block ?_
    refine CX.seq ?_
    refine CX.region ?_
    refine RX.cons rfl rfl (op_w (yw_index (k := i) rfl slt_22 rfl rfl (by omega) (by omega) hA) rfl rfl ?_)
    refine RX.cons rfl rfl (op_yld (y_elem rfl rfl agg_24 hr (by simp) (map_get hx0)) rfl rfl ?_)
    refine RX.cons rfl rfl (op_alloc rfl rfl rfl zero_24 fun g8 => ?_)
    refine RX.cons rfl rfl (op_storeAll (i := 0) rfl rfl rfl rfl szt_24 rfl (plain_of rfl) rfl rfl ?_)
    refine RX.nil (XX.next (V' := [(0, _), (5, _), (6, _), (8, _), (14, _), (15, _), (16, _)]) ⟨rfl, rfl, rfl, rfl, rfl, rfl, rfl, trivial⟩ ?_)
    refine CX.region ?_
    refine RX.cons rfl rfl (op_w (yw_move rfl rfl) rfl rfl ?_)
    refine RX.cons rfl rfl (op_w (yw_move rfl rfl) rfl rfl ?_)
    refine RX.cons rfl rfl (op_w (yw_move rfl rfl) rfl rfl ?_)
    refine RX.cons rfl rfl (op_yld (y_loadA (i := 0) rfl rfl agg_24 rfl rfl) rfl rfl ?_)
    refine RX.cons rfl rfl (op_callP [kmap key2 sgV gg kv, pack (List.map sgE kv), .blk gF (.cells (#[.map (some gg), .map (some gcl)]) 89 (0, 0)), kmap (fun x : Int => Value.int .i64 x) (fun x : Int => Value.int .i64 x) gcl kvc] [.blk g8 (.cells (smC x0) 24 (0, 0)), .row A2 c2 3 1 (List.map iR ys), .row A1 c1 44 4 (List.map ruC (List.filter okR rs))] rfl rfl rfl rfl rfl ent_36 ((perm_pick 2 rfl).trans (List.Perm.cons _ ((perm_pick 2 rfl).trans (List.Perm.cons _ ((perm_pick 2 rfl).trans (List.Perm.cons _ ((perm_pick 2 rfl).trans (List.Perm.cons _ (List.Perm.refl _))))))))) (σ := Unit) (val := fun _ => .int .i64 (judK (fmeas kvc kv x0) (List.filter okR rs) x0)) (LL := fun _ => [kmap key2 sgV gg kv, pack (List.map sgE kv), .blk gF (.cells (#[.map (some gg), .map (some gcl)]) 89 (0, 0)), kmap (fun x : Int => Value.int .i64 x) (fun x : Int => Value.int .i64 x) gcl kvc]) (post := fun _ => True) (fun w hw hs => w_judge kv kvc (List.filter okR rs) x0 (fun y => Nat.le_trans (hgs.len y) (by omega)) (Ent.rd (hw.ents _ (List.mem_of_getElem? (i := 6) rfl))) (Nat.le_trans (List.length_filter_le _ _) hlR) (hw.apartO 2 rfl) hs) (fun _ _ => ?_))
    refine RX.cons rfl rfl (op_buildSlice rfl rfl rfl slb_36 rfl rfl (by intro v hv; simp only [List.mem_cons, List.not_mem_nil, or_false] at hv; subst hv; exact ⟨rfl, (plain_of rfl)⟩) (by decide) fun g9 => ?_)
    refine RX.cons rfl rfl (op_appendM iR (i := 6) (j := 0) (xs := ys) ([judK (fmeas kvc kv x0) (List.filter okR rs) x0]) rfl rfl rfl slb_36 rfl rfl rfl rfl rfl rfl (by rw [List.length_singleton]; omega) (by rw [List.length_singleton]; omega) fun A3 c3 => ?_)
    refine RX.cons rfl rfl (op_w (yw_assign rfl rfl) rfl rfl ?_)
    refine RX.nil (XX.inBlock (V' := [(0, _), (5, _), (6, _), (14, _), (15, _), (16, _)]) ⟨rfl, rfl, rfl, rfl, rfl, rfl, trivial⟩ ?_)
    refine XX.next (V' := [(0, _), (5, _), (6, _), (14, _), (15, _), (16, _)]) ⟨rfl, rfl, rfl, rfl, rfl, rfl, trivial⟩ ?_
    refine CX.region ?_
    refine RX.cons rfl rfl (op_w (yw_add rfl rfl rfl (by omega) (by omega)) rfl rfl ?_)
    refine RX.cons rfl rfl (op_w (yw_move rfl rfl) rfl rfl ?_)
    refine RX.nil (XX.againP ([.row (some ⟨g9, 0, none⟩) 1 3 1 (List.map iR ([judK (fmeas kvc kv x0) (List.filter okR rs) x0])), .blk g8 (.cells (smC x0) 24 (0, 0))]) (i + 1, (A3, c3), ys ++ [judK (fmeas kvc kv x0) (List.filter okR rs) x0]) (by dsimp only; omega) ⟨by dsimp only; omega, by dsimp only; rw [take_map_succ hx0, ← hys, judK_fmeas hcl hgs]⟩ ⟨rfl, rfl, rfl, rfl, rfl, rfl, trivial⟩ ((perm_pick 6 rfl).trans (List.Perm.cons _ ((perm_pick 1 rfl).trans (List.Perm.cons _ ((perm_pick 1 rfl).trans (List.Perm.cons _ ((perm_pick 1 rfl).trans (List.Perm.cons _ ((perm_pick 1 rfl).trans (List.Perm.cons _ ((perm_pick 2 rfl).trans (List.Perm.cons _ (List.Perm.refl _))))))))))))))
  · rw [List.take_of_length_le (by omega)] at hys
    refine CX.exit ?_
    refine XX.then_exit ?_
    refine XX.then_exit ?_
    refine XX.block_exit ?_
    refine XX.next (V' := [(6, _)]) ⟨rfl, trivial⟩ ?_
    refine CX.seq ?_
    refine CX.region ?_
    refine RX.cons rfl rfl (op_w (yw_move rfl rfl) rfl rfl ?_)
    refine RX.cons rfl rfl (op_w (yw_assign rfl rfl) rfl rfl ?_)
    refine RX.nil (XX.next (V' := [(4, .slice A2 (List.length (ys : List Int)) c2)]) ⟨rfl, trivial⟩ ?_)
    refine CX.ret ?_
    exact ret_tmp rfl rfl fun w1 hw => ⟨(A2, c2), trivial, by rw [hys], by rw [← hys]; exact hw.pick ((perm_pick 0 rfl).trans (List.Perm.cons _ (List.Perm.refl _)))⟩

end Go.Proofs.Ytpcfgoadkfajfaa
namespace Go.Proofs.Ytpcfgoadkfajfaa
set_option linter.all false
open Go Go.RowKit
set_option maxRecDepth 100000
theorem fld_58_6 : Fld Try.prog 58 6 6 := ⟨_, _, (Try.prog.info? 3).get!, Try.underlying58, rfl, rfl, by kernel_rfl, by decide +kernel⟩
theorem fld_58_1 : Fld Try.prog 58 1 1 := ⟨_, _, (Try.prog.info? 3).get!, Try.underlying58, rfl, rfl, by kernel_rfl, by decide +kernel⟩
theorem slt_31 : SlT Try.prog 31 58 18 := ⟨(Try.prog.info? 58).get!, Try.underlying31, by kernel_rfl, by kernel_rfl⟩
theorem agg_58 : AggT Try.prog 58 18 := ⟨_, _, Try.underlying58, rfl, (by kernel_rfl : Try.prog.info? 58 = some (Try.prog.info? 58).get!), by kernel_rfl⟩
theorem ent_58 : ∀ args w, (callFunc 58 args).run Try.prog w = .ok (.enter 58 args) w := enters_of Try.func58 (by kernel_rfl) rfl
theorem zero_58 : Zero Try.prog 58 (.agg (#[.int .i64 0, .int .i64 0, .int .i64 0, .int .i64 0, .int .i64 0, .int .i64 0, .int .i64 0, .int .i64 0, .int .i64 0, .int .i64 0, .int .i64 0, .int .i64 0, .int .i64 0, .int .i64 0, .int .i64 0, .int .i64 0, .int .i64 0, .string .empty])) := ⟨(Try.prog.info? 58).get!, by kernel_rfl, by kernel_rfl⟩
theorem ent_57 : ∀ args w, (callFunc 57 args).run Try.prog w = .ok (.enter 57 args) w := enters_of Try.func57 (by kernel_rfl) rfl
theorem szt_58 : SzT Try.prog 58 18 := ⟨(Try.prog.info? 58).get!, by kernel_rfl, by kernel_rfl⟩
/-- A fact. -/
structure Fc where
  kind : Int
  id : Int
  ver : Int
  per : Int
  sec : Int
  acc : Int
  dev : Int
  song : Int
  ter : Int
  hol : Int
  role : Int
  since : Int
  till : Int
  amt : Int
  shr : Int
  cur : Int
  mark : Int
  text : ByteArray
abbrev fcC (f : Fc) : Array Value := #[.int .i64 f.kind, .int .i64 f.id, .int .i64 f.ver, .int .i64 f.per, .int .i64 f.sec, .int .i64 f.acc, .int .i64 f.dev, .int .i64 f.song, .int .i64 f.ter, .int .i64 f.hol, .int .i64 f.role, .int .i64 f.since, .int .i64 f.till, .int .i64 f.amt, .int .i64 f.shr, .int .i64 f.cur, .int .i64 f.mark, .string f.text]
def fc0 : Fc := ⟨0, 0, 0, 0, 0, 0, 0, 0, 0, 0, 0, 0, 0, 0, 0, 0, 0, .empty⟩
def hitF (d i : Int) (f : Fc) : Bool := decide (f.dev = d ∧ f.id = i)
/-- The mark given by hand; 0 if there is none. -/
def markOf (fs : List Fc) (d i : Int) : Int := ((fs.find? (hitF d i)).getD fc0).mark
set_option maxRecDepth 100000 in
theorem w_of1 {w : World} {gd gi : Nat} (f : Fc) (d i : Int) (h1 : w.cell? ⟨gd, 0, none⟩ = some (.int .i64 d)) (h2 : w.cell? ⟨gi, 0, none⟩ = some (.int .i64 i)) :
    Calls Try.prog 58 #[.agg (fcC f), .pointer (some ⟨gd, 0, none⟩), .pointer (some ⟨gi, 0, none⟩)] w (fun e w' => e = .returned (.bool (hitF d i f)) ∧ SL w [] w' []) := by
  refine calls_of_CX (O := []) (L := []) (args := [.agg (fcC f), .pointer (some ⟨gd, 0, none⟩), .pointer (some ⟨gi, 0, none⟩)]) Try.func58 rfl (by simp [Try.ntmps58]) (SL.refl w) ?_
  refine CX.sub (V' := [(0, .agg (fcC f)), (1, .pointer (some ⟨gd, 0, none⟩)), (2, .pointer (some ⟨gi, 0, none⟩))]) ⟨rfl, rfl, rfl, trivial⟩ ?_
  refine CX.seq ?_
  refine CX.region ?_
  refine RX.cons rfl rfl (op_box rfl rfl rfl rfl fun gf => ?_)
  refine RX.cons rfl rfl (op_w (yw_assign rfl rfl) rfl rfl ?_)
  refine RX.nil (XX.next (V' := [(1, _), (2, _), (3, _)]) ⟨rfl, rfl, rfl, trivial⟩ ?_)
  refine CX.seq ?_
  refine CX.region ?_
  refine RX.cons rfl rfl (op_w (yw_fieldAddr rfl fld_58_6 rfl) rfl rfl ?_)
  refine RX.cons rfl rfl (op_yld (y_load (i := 0) rfl rfl one_3 rfl rfl) rfl rfl ?_)
  refine RX.cons rfl rfl (op_yld (y_loadG (v := .int .i64 d) rfl rfl one_3 h1 (by simp)) rfl rfl ?_)
  refine RX.cons rfl rfl (op_w (yw_eql rfl rfl rfl) rfl rfl ?_)
  refine RX.cons rfl rfl (op_w (yw_move rfl rfl) rfl rfl ?_)
  refine RX.splitD (t := 9) (p := Fc.dev f = d) rfl (fun d9 => ?_) (fun d9 => ?_)
  · refine RX.consG rfl rfl rfl rfl rfl (op_w (yw_fieldAddr rfl fld_58_1 rfl) rfl rfl ?_)
    refine RX.consG rfl rfl rfl rfl rfl (op_yld (y_load (i := 0) rfl rfl one_3 rfl rfl) rfl rfl ?_)
    refine RX.consG rfl rfl rfl rfl rfl (op_yld (y_loadG (v := .int .i64 i) rfl rfl one_3 h2 (by simp)) rfl rfl ?_)
    refine RX.consG rfl rfl rfl rfl rfl (op_w (yw_eql rfl rfl rfl) rfl rfl ?_)
    refine RX.cons rfl rfl (op_w (yw_pickT rfl rfl rfl) rfl rfl ?_)
    refine RX.cons rfl rfl (op_w (yw_assign rfl rfl) rfl rfl ?_)
    refine RX.nil (XX.next (V' := [(4, .bool (decide (Fc.id f = i)))]) ⟨rfl, trivial⟩ ?_)
    refine CX.ret ?_
    exact ret_tmp rfl rfl fun w1 hw => ⟨congrArg (fun b => Ending.returned (Value.bool b)) (by unfold hitF; first | exact (decide_eq_false (by omega)).symm | exact decide_eq_decide.2 (by omega) | exact (decide_eq_true (by omega)).symm), hw.sub (List.nil_sublist _)⟩
  · refine RX.skip rfl rfl rfl rfl rfl rfl rfl ?_
    refine RX.skip rfl rfl rfl rfl rfl rfl rfl ?_
    refine RX.skip rfl rfl rfl rfl rfl rfl rfl ?_
    refine RX.skip rfl rfl rfl rfl rfl rfl rfl ?_
    refine RX.cons rfl rfl (op_w (yw_pickF rfl rfl rfl) rfl rfl ?_)
    refine RX.cons rfl rfl (op_w (yw_assign rfl rfl) rfl rfl ?_)
    refine RX.nil (XX.next (V' := [(4, .bool false)]) ⟨rfl, trivial⟩ ?_)
    refine CX.ret ?_
    exact ret_tmp rfl rfl fun w1 hw => ⟨congrArg (fun b => Ending.returned (Value.bool b)) (by unfold hitF; first | exact (decide_eq_false (by omega)).symm | exact decide_eq_decide.2 (by omega) | exact (decide_eq_true (by omega)).symm), hw.sub (List.nil_sublist _)⟩

theorem find_here {p : Fc → Bool} {fs : List Fc} {j : Nat} {x : Fc} (hx : fs[j]? = some x) (hp : p x = true) (h : ∀ y ∈ fs.take j, p y = false) : fs.find? p = some x := by
  have hj := (List.getElem?_eq_some_iff.1 hx).1
  have e : fs = fs.take j ++ x :: fs.drop (j + 1) := by
    conv => lhs; rw [← List.take_append_drop j fs]
    rw [List.drop_eq_getElem_cons hj, (List.getElem?_eq_some_iff.1 hx).2]
  rw [e, List.find?_append, List.find?_eq_none.2 (fun y hy => by rw [h y hy]; simp)]
  simp [hp]
theorem find_not {p : Fc → Bool} {fs : List Fc} (h : ∀ y ∈ fs, p y = false) : fs.find? p = none := List.find?_eq_none.2 (fun y hy => by rw [h y hy]; simp)
set_option maxRecDepth 100000 in
theorem w_idxF {w : World} {AM : Option Addr} {capM : Nat} (fs : List Fc) (hrM : Rd w AM 18 (fs.map fcC)) (hlM : fs.length ≤ 1000000) (d i : Int) {gd gi : Nat} (h1 : w.cell? ⟨gd, 0, none⟩ = some (.int .i64 d)) (h2 : w.cell? ⟨gi, 0, none⟩ = some (.int .i64 i)) :
    Calls Try.prog 57 #[.slice AM fs.length capM, .func (.func 58) #[] #[.pointer (some ⟨gd, 0, none⟩), .pointer (some ⟨gi, 0, none⟩)]] w (fun e w' => ∃ v : Int, ((∃ (j : Nat) (x : Fc), v = ((j : Nat) : Int) ∧ fs[j]? = some x ∧ fs.find? (hitF d i) = some x) ∨ (v = -1 ∧ fs.find? (hitF d i) = none)) ∧ e = .returned (.int .i64 v) ∧ SL w [] w' []) := by
  refine calls_of_CX (O := []) (L := []) (args := [.slice AM fs.length capM, .func (.func 58) #[] #[.pointer (some ⟨gd, 0, none⟩), .pointer (some ⟨gi, 0, none⟩)]]) Try.func57 rfl (by simp [Try.ntmps57]) (SL.refl w) ?_
  refine CX.sub (V' := [(0, .slice AM fs.length capM), (1, .func (.func 58) #[] #[.pointer (some ⟨gd, 0, none⟩), .pointer (some ⟨gi, 0, none⟩)])]) ⟨rfl, rfl, trivial⟩ ?_
  refine CX.seq ?_
  refine CX.region ?_
  refine RX.cons rfl rfl (op_w (yw_assign rfl rfl) rfl rfl ?_)
  refine RX.nil (XX.next (V' := [(0, _), (1, _)]) ⟨rfl, rfl, trivial⟩ ?_)
  refine CX.seq ?_
  refine CX.seq ?_
  refine CX.region ?_
  refine RX.cons rfl rfl (op_w (yw_move rfl rfl) rfl rfl ?_)
  refine RX.cons rfl rfl (op_w (yw_lenS rfl Try.underlying31 rfl) rfl rfl ?_)
  refine RX.cons rfl rfl (op_w (yw_move rfl rfl) rfl rfl ?_)
  refine RX.nil (XX.next (V' := [(0, _), (1, _), (7, _), (8, _)]) ⟨rfl, rfl, rfl, rfl, trivial⟩ ?_)
  refine CX.block ?_
  refine CX.loop (σ := Nat) (fun k => [(0, .slice AM fs.length capM), (1, .func (.func 58) #[] #[.pointer (some ⟨gd, 0, none⟩), .pointer (some ⟨gi, 0, none⟩)]), (7, .int .i64 ((fs.length : Nat) : Int)), (8, .int .i64 ((k : Nat) : Int))]) (fun k => []) (fun k => k ≤ fs.length ∧ ∀ y ∈ fs.take k, hitF d i y = false) (fun k => fs.length - k) 0 ⟨Nat.zero_le _, by simp⟩ ⟨rfl, rfl, rfl, rfl, trivial⟩ rfl (fun k hI => ?_)
  obtain ⟨hk, hall⟩ := hI
  refine CX.seq ?_
  refine CX.region ?_
  refine RX.cons rfl rfl (op_w (yw_lss rfl rfl rfl) rfl rfl ?_)
  refine RX.nil (XX.next (V' := [(0, _), (1, _), (7, _), (8, _), (9, _)]) ⟨rfl, rfl, rfl, rfl, rfl, trivial⟩ ?_)
  refine CX.seq ?_
  refine CX.condD (p := ((k : Nat) : Int) < ((fs.length : Nat) : Int)) rfl (fun c9 => ?_) (fun c9 => ?_)
  · obtain ⟨x0, hx0⟩ := get_some (l := fs) (k := k) (by omega)
    have hx0m := List.mem_of_getElem? hx0
    have hAM : ∃ b j, AM = some ⟨b, j, none⟩ := hrM.some (k := 0) (by simp; omega)
    refine CX.skip (XX.next (V' := [(0, _), (1, _), (7, _), (8, _)]) ⟨rfl, rfl, rfl, rfl, trivial⟩ ?_)
    refine CX.seq ?_
    refine CX.block ?_
    refine CX.seq ?_
    refine CX.region ?_
    refine RX.cons rfl rfl (op_w (yw_move rfl rfl) rfl rfl ?_)
    refine RX.cons rfl rfl (op_w (yw_assign rfl rfl) rfl rfl ?_)
    refine RX.nil (XX.next (V' := [(0, _), (1, _), (5, _), (7, _), (8, _)]) ⟨rfl, rfl, rfl, rfl, rfl, trivial⟩ ?_)
    refine CX.seq ?_
    refine CX.region ?_
    refine RX.cons rfl rfl (op_w (yw_move rfl rfl) rfl rfl ?_)
    refine RX.cons rfl rfl (op_w (yw_move rfl rfl) rfl rfl ?_)
    refine RX.cons rfl rfl (op_w (yw_move rfl rfl) rfl rfl ?_)
    refine RX.cons rfl rfl (op_w (yw_index (k := k) rfl slt_31 rfl rfl (by omega) (by omega) hAM) rfl rfl ?_)
    refine RX.cons rfl rfl (op_yld (y_elem rfl rfl agg_58 hrM (by simp) (map_get hx0)) rfl rfl ?_)
    refine RX.cons rfl rfl (op_callV (v := .bool (hitF d i x0)) rfl rfl rfl rfl rfl ent_58 (fun w hw => w_of1 x0 d i (hw.keepC h1 (by simp)) (hw.keepC h2 (by simp))) ?_)
    refine RX.nil (XX.next (V' := [(0, _), (1, _), (5, _), (7, _), (8, _), (16, _)]) ⟨rfl, rfl, rfl, rfl, rfl, rfl, trivial⟩ ?_)
    refine CX.cond (b := hitF d i x0) rfl (fun c16 => ?_) (fun c16 => ?_)
    · refine CX.seq ?_
      refine CX.region ?_
      refine RX.cons rfl rfl (op_w (yw_move rfl rfl) rfl rfl ?_)
      refine RX.cons rfl rfl (op_w (yw_assign rfl rfl) rfl rfl ?_)
      refine RX.nil (XX.next (V' := [(4, .int .i64 ((k : Nat) : Int))]) ⟨rfl, trivial⟩ ?_)
      refine CX.ret ?_
      refine XX.block_ret ?_
      refine XX.then_ret ?_
      refine XX.then_ret ?_
      refine XX.block_ret ?_
      refine XX.then_ret ?_
      exact ret_tmp rfl rfl fun w1 hw => ⟨((k : Nat) : Int), .inl ⟨k, x0, rfl, hx0, find_here hx0 (by simpa using c16) hall⟩, rfl, hw.sub (List.nil_sublist _)⟩
    · refine CX.skip (XX.inBlock (V' := [(0, _), (1, _), (7, _), (8, _)]) ⟨rfl, rfl, rfl, rfl, trivial⟩ ?_)
      refine XX.next (V' := [(0, _), (1, _), (7, _), (8, _)]) ⟨rfl, rfl, rfl, rfl, trivial⟩ ?_
      refine CX.region ?_
      refine RX.cons rfl rfl (op_w (yw_add rfl rfl rfl (by omega) (by omega)) rfl rfl ?_)
      refine RX.cons rfl rfl (op_w (yw_move rfl rfl) rfl rfl ?_)
      refine RX.nil (XX.againP ([]) (k + 1) (by omega) ⟨by omega, all_snocP (p := fun x : Fc => hitF d i x = false) hx0 (by simpa using c16) hall⟩ ⟨rfl, rfl, rfl, rfl, trivial⟩ (List.Perm.refl _))
  · rw [List.take_of_length_le (by omega)] at hall
    refine CX.exit ?_
    refine XX.then_exit ?_
    refine XX.then_exit ?_
    refine XX.block_exit ?_
    refine XX.next (V' := []) trivial ?_
    refine CX.seq ?_
    refine CX.region ?_
    refine RX.cons rfl rfl (op_w (yw_assign rfl rfl) rfl rfl ?_)
    refine RX.nil (XX.next (V' := [(4, .int .i64 (-1))]) ⟨rfl, trivial⟩ ?_)
    refine CX.ret ?_
    exact ret_tmp rfl rfl fun w1 hw => ⟨-1, .inr ⟨rfl, find_not hall⟩, rfl, hw.sub (List.nil_sublist _)⟩

set_option maxRecDepth 100000 in
theorem w_first {w : World} {AM : Option Addr} {capM : Nat} (fs : List Fc) (hrM : Rd w AM 18 (fs.map fcC)) (hlM : fs.length ≤ 1000000) (d i : Int) {gd gi : Nat} (h1 : w.cell? ⟨gd, 0, none⟩ = some (.int .i64 d)) (h2 : w.cell? ⟨gi, 0, none⟩ = some (.int .i64 i)) :
    Calls Try.prog 40 #[.slice AM fs.length capM, .func (.func 58) #[] #[.pointer (some ⟨gd, 0, none⟩), .pointer (some ⟨gi, 0, none⟩)]] w (fun e w' => ∃ b : Bool, True ∧ e = .returned (.tuple #[.agg (fcC ((List.find? (hitF d i) fs).getD fc0)), .bool b]) ∧ SL w [] w' []) := by
  refine calls_of_CX (O := []) (L := []) (args := [.slice AM fs.length capM, .func (.func 58) #[] #[.pointer (some ⟨gd, 0, none⟩), .pointer (some ⟨gi, 0, none⟩)]]) Try.func40 rfl (by simp [Try.ntmps40]) (SL.refl w) ?_
  refine CX.sub (V' := [(0, .slice AM fs.length capM), (1, .func (.func 58) #[] #[.pointer (some ⟨gd, 0, none⟩), .pointer (some ⟨gi, 0, none⟩)])]) ⟨rfl, rfl, trivial⟩ ?_
  refine CX.seq ?_
  refine CX.region ?_
  refine RX.cons rfl rfl (op_alloc rfl rfl rfl zero_58 fun g4 => ?_)
  refine RX.cons rfl rfl (op_w (yw_assign rfl rfl) rfl rfl ?_)
  refine RX.nil (XX.next (V' := [(0, _), (1, _), (4, .pointer (some ⟨g4, 0, none⟩))]) ⟨rfl, rfl, rfl, trivial⟩ ?_)
  refine CX.seq ?_
  refine CX.seq ?_
  refine CX.region ?_
  refine RX.cons rfl rfl (op_w (yw_move rfl rfl) rfl rfl ?_)
  refine RX.cons rfl rfl (op_w (yw_move rfl rfl) rfl rfl ?_)
  refine RX.cons rfl rfl (op_callE rfl rfl rfl rfl rfl ent_57 (fun w hw => w_idxF fs (hw.rd hrM (by simp)) hlM d i (hw.keepC h1 (by simp)) (hw.keepC h2 (by simp))) (fun v1 hv1 => ?_))
  refine RX.cons rfl rfl (op_w (yw_assign rfl rfl) rfl rfl ?_)
  refine RX.nil (XX.next (V' := [(0, _), (4, .pointer (some ⟨g4, 0, none⟩)), (6, _)]) ⟨rfl, rfl, rfl, trivial⟩ ?_)
  refine CX.seq ?_
  rcases hv1 with ⟨j, x1, rfl, hx1, hf1⟩ | ⟨rfl, hf1⟩
  · have hj := (List.getElem?_eq_some_iff.1 hx1).1
    refine CX.region ?_
    refine RX.cons rfl rfl (op_w (yw_move rfl rfl) rfl rfl ?_)
    refine RX.cons rfl rfl (op_w (yw_geq rfl rfl rfl) rfl rfl ?_)
    refine RX.nil (XX.next (V' := [(0, _), (4, .pointer (some ⟨g4, 0, none⟩)), (6, _), (12, _)]) ⟨rfl, rfl, rfl, rfl, trivial⟩ ?_)
    refine CX.condD (p := 0 ≤ ((j : Nat) : Int)) rfl (fun c12 => ?_) (fun c12 => ?_)
    · have hAM : ∃ b j, AM = some ⟨b, j, none⟩ := hrM.some (k := 0) (by simp; omega)
      refine CX.seq ?_
      refine CX.region ?_
      refine RX.cons rfl rfl (op_w (yw_move rfl rfl) rfl rfl ?_)
      refine RX.cons rfl rfl (op_w (yw_move rfl rfl) rfl rfl ?_)
      refine RX.cons rfl rfl (op_w (yw_index (k := j) rfl slt_31 rfl rfl (by omega) (by omega) hAM) rfl rfl ?_)
      refine RX.cons rfl rfl (op_yld (y_elem rfl rfl agg_58 hrM (by simp) (map_get hx1)) rfl rfl ?_)
      refine RX.cons rfl rfl (op_storeAll (i := 0) rfl rfl rfl rfl szt_58 rfl (plain_of rfl) rfl rfl ?_)
      refine RX.cons rfl rfl (op_w (yw_assign rfl rfl) rfl rfl ?_)
      refine RX.nil (XX.next (V' := [(4, .pointer (some ⟨g4, 0, none⟩)), (5, .bool true)]) ⟨rfl, rfl, trivial⟩ ?_)
      refine CX.ret ?_
      refine XX.then_ret ?_
      exact ret_cellT (i := 0) rfl rfl rfl agg_58 rfl rfl fun w1 hw => ⟨true, trivial, by rw [hf1]; rfl, hw.sub (List.nil_sublist _)⟩
    · exfalso; omega
  · refine CX.region ?_
    refine RX.cons rfl rfl (op_w (yw_move rfl rfl) rfl rfl ?_)
    refine RX.cons rfl rfl (op_w (yw_geq rfl rfl rfl) rfl rfl ?_)
    refine RX.nil (XX.next (V' := [(0, _), (4, .pointer (some ⟨g4, 0, none⟩)), (6, _), (12, _)]) ⟨rfl, rfl, rfl, rfl, trivial⟩ ?_)
    refine CX.condD (p := 0 ≤ -1) rfl (fun c12 => ?_) (fun c12 => ?_)
    · exfalso; omega
    · refine CX.skip (XX.next (V' := [(4, .pointer (some ⟨g4, 0, none⟩))]) ⟨rfl, trivial⟩ ?_)
      refine CX.seq ?_
      refine CX.region ?_
      refine RX.cons rfl rfl (op_alloc rfl rfl rfl zero_58 fun g7 => ?_)
      refine RX.nil (XX.next (V' := [(4, .pointer (some ⟨g4, 0, none⟩)), (7, _)]) ⟨rfl, rfl, trivial⟩ ?_)
      refine CX.seq ?_
      refine CX.region ?_
      refine RX.cons rfl rfl (op_yld (y_loadA (i := 0) rfl rfl agg_58 rfl rfl) rfl rfl ?_)
      refine RX.cons rfl rfl (op_storeAll (i := 1) rfl rfl rfl rfl szt_58 rfl (plain_of rfl) rfl rfl ?_)
      refine RX.cons rfl rfl (op_w (yw_assign rfl rfl) rfl rfl ?_)
      refine RX.nil (XX.next (V' := [(4, .pointer (some ⟨g4, 0, none⟩)), (5, .bool false)]) ⟨rfl, rfl, trivial⟩ ?_)
      refine CX.ret ?_
      exact ret_cellT (i := 1) rfl rfl rfl agg_58 rfl rfl fun w1 hw => ⟨false, trivial, by rw [hf1]; rfl, hw.sub (List.nil_sublist _)⟩

end Go.Proofs.Ytpcfgoadkfajfaa
namespace Go.Proofs.Ytpcfgoadkfajfaa
set_option linter.all false
open Go Go.RowKit
set_option maxRecDepth 100000
theorem fld_34_1 : Fld Try.prog 34 1 1 := ⟨_, _, (Try.prog.info? 31).get!, Try.underlying34, rfl, rfl, by kernel_rfl, by decide +kernel⟩
theorem one_31 : One Try.prog 31 := ⟨_, Try.underlying31, rfl⟩
theorem ent_41 : ∀ args w, (callFunc 41 args).run Try.prog w = .ok (.enter 41 args) w := enters_of Try.func41 (by kernel_rfl) rfl
theorem ent_40 : ∀ args w, (callFunc 40 args).run Try.prog w = .ok (.enter 40 args) w := enters_of Try.func40 (by kernel_rfl) rfl
theorem fld_58_16 : Fld Try.prog 58 16 16 := ⟨_, _, (Try.prog.info? 3).get!, Try.underlying58, rfl, rfl, by kernel_rfl, by decide +kernel⟩
theorem ent_56 : ∀ args w, (callFunc 56 args).run Try.prog w = .ok (.enter 56 args) w := enters_of Try.func56 (by kernel_rfl) rfl
set_option maxRecDepth 100000 in
theorem w_baseOf {w : World} (d i : Int) :
    Calls Try.prog 41 #[.int .i64 d, .int .i64 i] w (fun e w' => ∃ z : Nat × Nat, True ∧ e = .returned (.func (.func 58) #[] #[.pointer (some ⟨z.1, 0, none⟩), .pointer (some ⟨z.2, 0, none⟩)]) ∧ SL w [] w' [.blk z.1 (.cells #[.int .i64 d] 3 (0, 0)), .blk z.2 (.cells #[.int .i64 i] 3 (0, 0))]) := by
  refine calls_of_CX (O := []) (L := []) (args := [.int .i64 d, .int .i64 i]) Try.func41 rfl (by simp [Try.ntmps41]) (SL.refl w) ?_
  refine CX.sub (V' := [(0, .int .i64 d), (1, .int .i64 i)]) ⟨rfl, rfl, trivial⟩ ?_
  refine CX.seq ?_
  refine CX.region ?_
  refine RX.cons rfl rfl (op_box rfl rfl rfl rfl fun gd => ?_)
  refine RX.cons rfl rfl (op_box rfl rfl rfl rfl fun gi => ?_)
  refine RX.cons rfl rfl (op_w (yw_assign rfl rfl) rfl rfl ?_)
  refine RX.nil (XX.next (V' := [(2, _), (3, _)]) ⟨rfl, rfl, trivial⟩ ?_)
  refine CX.seq ?_
  refine CX.region ?_
  refine RX.cons rfl rfl (op_w (yw_makeFunc rfl rfl rfl) rfl rfl ?_)
  refine RX.cons rfl rfl (op_w (yw_assign rfl rfl) rfl rfl ?_)
  refine RX.nil (XX.next (V' := [(4, .func (.func 58) #[] #[.pointer (some ⟨gd, 0, none⟩), .pointer (some ⟨gi, 0, none⟩)])]) ⟨rfl, trivial⟩ ?_)
  refine CX.ret ?_
  exact ret_tmp rfl rfl fun w1 hw => ⟨(gd, gi), trivial, rfl, hw.pick ((perm_pick 1 rfl).trans (List.Perm.cons _ ((perm_pick 0 rfl).trans (List.Perm.cons _ (List.Perm.refl _)))))⟩

set_option maxRecDepth 100000 in
theorem w_Mark {w : World} {AM : Option Addr} {capM : Nat} (fs : List Fc) (hrM : Rd w AM 18 (fs.map fcC)) (hlM : fs.length ≤ 1000000) (d i : Int) {v0 v2 v3 v4 v5 v6 v7 v8 v9 : Value} :
    Calls Try.prog 24 #[.agg (#[v0, .slice AM fs.length capM, v2, v3, v4, v5, v6, v7, v8, v9]), .int .i64 d, .int .i64 i] w (fun e w' => e = .returned (.int .i64 (markOf fs d i)) ∧ SL w [] w' []) := by
  refine calls_of_CX (O := []) (L := []) (args := [.agg (#[v0, .slice AM fs.length capM, v2, v3, v4, v5, v6, v7, v8, v9]), .int .i64 d, .int .i64 i]) Try.func24 rfl (by simp [Try.ntmps24]) (SL.refl w) ?_
  refine CX.sub (V' := [(0, .agg (#[v0, .slice AM fs.length capM, v2, v3, v4, v5, v6, v7, v8, v9])), (1, .int .i64 d), (2, .int .i64 i)]) ⟨rfl, rfl, rfl, trivial⟩ ?_
  refine CX.seq ?_
  refine CX.region ?_
  refine RX.cons rfl rfl (op_box rfl rfl rfl rfl fun g3 => ?_)
  refine RX.cons rfl rfl (op_w (yw_assign rfl rfl) rfl rfl ?_)
  refine RX.nil (XX.next (V' := [(1, _), (2, _), (3, _)]) ⟨rfl, rfl, rfl, trivial⟩ ?_)
  refine CX.seq ?_
  refine CX.drawL 10 ([.blk g3 (.cells (#[v0, .slice AM fs.length capM, v2, v3, v4, v5, v6, v7, v8, v9]) 34 (0, 0))]) [(0, 8, 1024), (1, 1024, 2048), (0, 2, 4096), (0, 4, 8192), (12, 12288, 16384), (18, 18432, 32768), (32, 32768, 512), (64, 512, 65536), (64, 512, 131072), (0, 0, 128), (767, 65664, 0), (2047, 131072, 256)] (by kernel_rfl) (by kernel_rfl) (by kernel_rfl) ?_
  refine DX.takeW 0 1 (by kernel_rfl) rfl rfl rfl rfl rfl (yw_fieldAddr rfl fld_34_1 rfl) ?_
  refine DX.take 1 3 (by kernel_rfl) rfl rfl rfl rfl rfl (List.Sublist.refl _) (y_load (i := 0) rfl rfl one_31 rfl rfl) ?_
  refine DX.takeW 2 7 (by kernel_rfl) rfl rfl rfl rfl rfl (yw_move rfl rfl) ?_
  refine DX.takeW 3 15 (by kernel_rfl) rfl rfl rfl rfl rfl (yw_move rfl rfl) ?_
  refine DX.step2 4 9 31 527 (by kernel_rfl) rfl rfl rfl rfl rfl rfl (op_callE rfl rfl rfl rfl rfl ent_41 (fun w hw => w_baseOf d i) (fun ⟨gd, gi⟩ _ => (DXs.mk (List.Sublist.cons _ (List.Sublist.cons _ (List.Sublist.refl _))) ?_))) (op_alloc rfl rfl rfl zero_58 fun g7 => (DXs.mk (List.Sublist.cons _ (List.Sublist.refl _)) ?_))
  · refine DX.step2 5 9 63 543 (by kernel_rfl) rfl rfl rfl rfl rfl rfl (op_callE rfl rfl rfl rfl rfl ent_40 (fun w hw => w_first fs (hw.rd hrM (by simp)) hlM d i (hw.cellOf (i := 0) rfl rfl) (hw.cellOf (i := 1) rfl rfl)) (fun b1 _ => (DXs.mk (List.Sublist.cons _ (List.Sublist.cons _ (List.Sublist.refl _))) ?_))) (op_alloc rfl rfl rfl zero_58 fun g7 => (DXs.mk (List.Sublist.cons _ (List.Sublist.cons _ (List.Sublist.cons _ (List.Sublist.refl _)))) ?_))
    · refine DX.takeW 6 127 (by kernel_rfl) rfl rfl rfl rfl rfl (yw_move rfl rfl) ?_
      refine DX.takeW 7 255 (by kernel_rfl) rfl rfl rfl rfl rfl (yw_extract rfl rfl rfl) ?_
      refine DX.takeW 8 511 (by kernel_rfl) rfl rfl rfl rfl rfl (yw_extract rfl rfl rfl) ?_
      refine DX.step 9 1023 (by kernel_rfl) rfl rfl rfl (op_alloc rfl rfl rfl zero_58 fun g7 => (DXs.mk (List.Sublist.cons _ (List.Sublist.cons _ (List.Sublist.cons _ (List.Sublist.refl _)))) ?_))
      refine DX.stepT 10 2047 (by kernel_rfl) rfl rfl rfl rfl (op_storeAll (i := 0) rfl rfl rfl rfl szt_58 rfl (plain_of rfl) rfl rfl ?_)
      refine DX.takeW 11 4095 (by kernel_rfl) rfl rfl rfl rfl rfl (yw_assign rfl rfl) ?_
      refine DX.done (by kernel_rfl) (XX.next (V' := [(7, _)]) ⟨rfl, trivial⟩ ?_)
      refine CX.seq ?_
      refine CX.region ?_
      refine RX.cons rfl rfl (op_w (yw_fieldAddr rfl fld_58_16 rfl) rfl rfl ?_)
      refine RX.cons rfl rfl (op_yld (y_load (i := 0) rfl rfl one_3 rfl rfl) rfl rfl ?_)
      refine RX.cons rfl rfl (op_w (yw_assign rfl rfl) rfl rfl ?_)
      refine RX.nil (XX.next (V' := [(6, .int .i64 (Fc.mark ((List.find? (hitF d i) fs).getD fc0)))]) ⟨rfl, trivial⟩ ?_)
      refine CX.ret ?_
      exact ret_tmp rfl rfl fun w1 hw => ⟨rfl, hw.sub (List.nil_sublist _)⟩
    · refine DX.step 5 575 (by kernel_rfl) rfl rfl rfl (op_callE rfl rfl rfl rfl rfl ent_40 (fun w hw => w_first fs (hw.rd hrM (by simp)) hlM d i (hw.cellOf (i := 1) rfl rfl) (hw.cellOf (i := 2) rfl rfl)) (fun b1 _ => (DXs.mk (List.Sublist.cons _ (List.Sublist.cons _ (List.Sublist.cons _ (List.Sublist.refl _)))) ?_)))
      refine DX.takeW 6 639 (by kernel_rfl) rfl rfl rfl rfl rfl (yw_move rfl rfl) ?_
      refine DX.takeW 7 767 (by kernel_rfl) rfl rfl rfl rfl rfl (yw_extract rfl rfl rfl) ?_
      refine DX.takeW 8 1023 (by kernel_rfl) rfl rfl rfl rfl rfl (yw_extract rfl rfl rfl) ?_
      refine DX.stepT 10 2047 (by kernel_rfl) rfl rfl rfl rfl (op_storeAll (i := 0) rfl rfl rfl rfl szt_58 rfl (plain_of rfl) rfl rfl ?_)
      refine DX.takeW 11 4095 (by kernel_rfl) rfl rfl rfl rfl rfl (yw_assign rfl rfl) ?_
      refine DX.done (by kernel_rfl) (XX.next (V' := [(7, _)]) ⟨rfl, trivial⟩ ?_)
      refine CX.seq ?_
      refine CX.region ?_
      refine RX.cons rfl rfl (op_w (yw_fieldAddr rfl fld_58_16 rfl) rfl rfl ?_)
      refine RX.cons rfl rfl (op_yld (y_load (i := 0) rfl rfl one_3 rfl rfl) rfl rfl ?_)
      refine RX.cons rfl rfl (op_w (yw_assign rfl rfl) rfl rfl ?_)
      refine RX.nil (XX.next (V' := [(6, .int .i64 (Fc.mark ((List.find? (hitF d i) fs).getD fc0)))]) ⟨rfl, trivial⟩ ?_)
      refine CX.ret ?_
      exact ret_tmp rfl rfl fun w1 hw => ⟨rfl, hw.sub (List.nil_sublist _)⟩
  · refine DX.step 4 543 (by kernel_rfl) rfl rfl rfl (op_callE rfl rfl rfl rfl rfl ent_41 (fun w hw => w_baseOf d i) (fun ⟨gd, gi⟩ _ => (DXs.mk (List.Sublist.cons _ (List.Sublist.cons _ (List.Sublist.cons _ (List.Sublist.refl _)))) ?_)))
    refine DX.step 5 575 (by kernel_rfl) rfl rfl rfl (op_callE rfl rfl rfl rfl rfl ent_40 (fun w hw => w_first fs (hw.rd hrM (by simp)) hlM d i (hw.cellOf (i := 0) rfl rfl) (hw.cellOf (i := 1) rfl rfl)) (fun b1 _ => (DXs.mk (List.Sublist.cons _ (List.Sublist.cons _ (List.Sublist.cons _ (List.Sublist.refl _)))) ?_)))
    refine DX.takeW 6 639 (by kernel_rfl) rfl rfl rfl rfl rfl (yw_move rfl rfl) ?_
    refine DX.takeW 7 767 (by kernel_rfl) rfl rfl rfl rfl rfl (yw_extract rfl rfl rfl) ?_
    refine DX.takeW 8 1023 (by kernel_rfl) rfl rfl rfl rfl rfl (yw_extract rfl rfl rfl) ?_
    refine DX.stepT 10 2047 (by kernel_rfl) rfl rfl rfl rfl (op_storeAll (i := 2) rfl rfl rfl rfl szt_58 rfl (plain_of rfl) rfl rfl ?_)
    refine DX.takeW 11 4095 (by kernel_rfl) rfl rfl rfl rfl rfl (yw_assign rfl rfl) ?_
    refine DX.done (by kernel_rfl) (XX.next (V' := [(7, _)]) ⟨rfl, trivial⟩ ?_)
    refine CX.seq ?_
    refine CX.region ?_
    refine RX.cons rfl rfl (op_w (yw_fieldAddr rfl fld_58_16 rfl) rfl rfl ?_)
    refine RX.cons rfl rfl (op_yld (y_load (i := 2) rfl rfl one_3 rfl rfl) rfl rfl ?_)
    refine RX.cons rfl rfl (op_w (yw_assign rfl rfl) rfl rfl ?_)
    refine RX.nil (XX.next (V' := [(6, .int .i64 (Fc.mark ((List.find? (hitF d i) fs).getD fc0)))]) ⟨rfl, trivial⟩ ?_)
    refine CX.ret ?_
    exact ret_tmp rfl rfl fun w1 hw => ⟨rfl, hw.sub (List.nil_sublist _)⟩

set_option maxRecDepth 100000 in
theorem w_of07 {w : World} {AM : Option Addr} {capM : Nat} (fs : List Fc) (hrM : Rd w AM 18 (fs.map fcC)) (hlM : fs.length ≤ 1000000) (d i : Int) :
    Calls Try.prog 56 #[.slice AM fs.length capM, .int .i64 d, .int .i64 i] w (fun e w' => ∃ b : Bool, True ∧ e = .returned (.tuple #[.agg (fcC ((List.find? (hitF d i) fs).getD fc0)), .bool b]) ∧ SL w [] w' []) := by
  refine calls_of_CX (O := []) (L := []) (args := [.slice AM fs.length capM, .int .i64 d, .int .i64 i]) Try.func56 rfl (by simp [Try.ntmps56]) (SL.refl w) ?_
  refine CX.sub (V' := [(0, .slice AM fs.length capM), (1, .int .i64 d), (2, .int .i64 i)]) ⟨rfl, rfl, rfl, trivial⟩ ?_
  refine CX.seq ?_
  refine CX.region ?_
  refine RX.cons rfl rfl (op_alloc rfl rfl rfl zero_58 fun g6 => ?_)
  refine RX.cons rfl rfl (op_w (yw_assign rfl rfl) rfl rfl ?_)
  refine RX.nil (XX.next (V' := [(0, _), (1, _), (2, _), (6, .pointer (some ⟨g6, 0, none⟩))]) ⟨rfl, rfl, rfl, rfl, trivial⟩ ?_)
  refine CX.seq ?_
  refine CX.seq ?_
  refine CX.region ?_
  refine RX.cons rfl rfl (op_w (yw_assign rfl rfl) rfl rfl ?_)
  refine RX.nil (XX.next (V' := [(0, _), (1, _), (2, _), (6, .pointer (some ⟨g6, 0, none⟩)), (8, _)]) ⟨rfl, rfl, rfl, rfl, rfl, trivial⟩ ?_)
  refine CX.block ?_
  refine CX.loop (σ := Nat) (fun k => [(0, .slice AM fs.length capM), (1, .int .i64 d), (2, .int .i64 i), (6, .pointer (some ⟨g6, 0, none⟩)), (8, .int .i64 ((k : Nat) : Int))]) (fun k => [.blk g6 (.cells (#[.int .i64 0, .int .i64 0, .int .i64 0, .int .i64 0, .int .i64 0, .int .i64 0, .int .i64 0, .int .i64 0, .int .i64 0, .int .i64 0, .int .i64 0, .int .i64 0, .int .i64 0, .int .i64 0, .int .i64 0, .int .i64 0, .int .i64 0, .string .empty]) 58 (0, 0))]) (fun k => k ≤ fs.length ∧ ∀ y ∈ fs.take k, hitF d i y = false) (fun k => fs.length - k) 0 ⟨Nat.zero_le _, by simp⟩ ⟨rfl, rfl, rfl, rfl, rfl, trivial⟩ rfl (fun k hI => ?_)
  obtain ⟨hk, hall⟩ := hI
  refine CX.seq ?_
  refine CX.seq ?_
  refine CX.region ?_
  refine RX.cons rfl rfl (op_w (yw_move rfl rfl) rfl rfl ?_)
  refine RX.cons rfl rfl (op_w (yw_move rfl rfl) rfl rfl ?_)
  refine RX.cons rfl rfl (op_w (yw_lenS rfl Try.underlying31 rfl) rfl rfl ?_)
  refine RX.cons rfl rfl (op_w (yw_lss rfl rfl rfl) rfl rfl ?_)
  refine RX.nil (XX.next (V' := [(0, _), (1, _), (2, _), (6, .pointer (some ⟨g6, 0, none⟩)), (8, _), (12, _)]) ⟨rfl, rfl, rfl, rfl, rfl, rfl, trivial⟩ ?_)
  refine CX.condD (p := ((k : Nat) : Int) < ((fs.length : Nat) : Int)) rfl (fun c12 => ?_) (fun c12 => ?_)
  · obtain ⟨x0, hx0⟩ := get_some (l := fs) (k := k) (by omega)
    have hx0m := List.mem_of_getElem? hx0
    have hAM : ∃ b j, AM = some ⟨b, j, none⟩ := hrM.some (k := 0) (by simp; omega)
    refine CX.skip (XX.next (V' := [(0, _), (1, _), (2, _), (6, .pointer (some ⟨g6, 0, none⟩)), (8, _)]) ⟨rfl, rfl, rfl, rfl, rfl, trivial⟩ ?_)
    refine CX.seq ?_
    refine CX.block ?_
    refine CX.seq ?_
    refine CX.region ?_
    refine RX.cons rfl rfl (op_w (yw_move rfl rfl) rfl rfl ?_)
    refine RX.cons rfl rfl (op_w (yw_move rfl rfl) rfl rfl ?_)
    refine RX.cons rfl rfl (op_w (yw_index (k := k) rfl slt_31 rfl rfl (by omega) (by omega) hAM) rfl rfl ?_)
    refine RX.cons rfl rfl (op_w (yw_fieldAddr rfl fld_58_6 rfl) rfl rfl ?_)
    refine RX.cons rfl rfl (op_yld (y_elemF rfl rfl one_3 hrM (by simp) (map_get hx0) rfl) rfl rfl ?_)
    refine RX.cons rfl rfl (op_w (yw_move rfl rfl) rfl rfl ?_)
    refine RX.cons rfl rfl (op_w (yw_eql rfl rfl rfl) rfl rfl ?_)
    refine RX.cons rfl rfl (op_w (yw_move rfl rfl) rfl rfl ?_)
    refine RX.splitD (t := 22) (p := Fc.dev x0 = d) rfl (fun d22 => ?_) (fun d22 => ?_)
    · refine RX.consG rfl rfl rfl rfl rfl (op_w (yw_move rfl rfl) rfl rfl ?_)
      refine RX.consG rfl rfl rfl rfl rfl (op_w (yw_move rfl rfl) rfl rfl ?_)
      refine RX.consG rfl rfl rfl rfl rfl (op_w (yw_index (k := k) rfl slt_31 rfl rfl (by omega) (by omega) hAM) rfl rfl ?_)
      refine RX.consG rfl rfl rfl rfl rfl (op_w (yw_fieldAddr rfl fld_58_1 rfl) rfl rfl ?_)
      refine RX.consG rfl rfl rfl rfl rfl (op_yld (y_elemF rfl rfl one_3 hrM (by simp) (map_get hx0) rfl) rfl rfl ?_)
      refine RX.consG rfl rfl rfl rfl rfl (op_w (yw_move rfl rfl) rfl rfl ?_)
      refine RX.consG rfl rfl rfl rfl rfl (op_w (yw_eql rfl rfl rfl) rfl rfl ?_)
      refine RX.cons rfl rfl (op_w (yw_pickT rfl rfl rfl) rfl rfl ?_)
      refine RX.nil (XX.next (V' := [(0, _), (1, _), (2, _), (6, .pointer (some ⟨g6, 0, none⟩)), (8, _), (30, _)]) ⟨rfl, rfl, rfl, rfl, rfl, rfl, trivial⟩ ?_)
      refine CX.condD (p := Fc.id x0 = i) rfl (fun c30 => ?_) (fun c30 => ?_)
      · refine CX.seq ?_
        refine CX.region ?_
        refine RX.cons rfl rfl (op_w (yw_move rfl rfl) rfl rfl ?_)
        refine RX.cons rfl rfl (op_w (yw_move rfl rfl) rfl rfl ?_)
        refine RX.cons rfl rfl (op_w (yw_index (k := k) rfl slt_31 rfl rfl (by omega) (by omega) hAM) rfl rfl ?_)
        refine RX.cons rfl rfl (op_yld (y_elem rfl rfl agg_58 hrM (by simp) (map_get hx0)) rfl rfl ?_)
        refine RX.cons rfl rfl (op_storeAll (i := 0) rfl rfl rfl rfl szt_58 rfl (plain_of rfl) rfl rfl ?_)
        refine RX.cons rfl rfl (op_w (yw_assign rfl rfl) rfl rfl ?_)
        refine RX.nil (XX.next (V' := [(6, .pointer (some ⟨g6, 0, none⟩)), (7, .bool true)]) ⟨rfl, rfl, trivial⟩ ?_)
        refine CX.ret ?_
        refine XX.block_ret ?_
        refine XX.then_ret ?_
        refine XX.then_ret ?_
        refine XX.block_ret ?_
        refine XX.then_ret ?_
        exact ret_cellT (i := 0) rfl rfl rfl agg_58 rfl rfl fun w1 hw => ⟨_, trivial, by rw [find_here hx0 (decide_eq_true (by omega)) hall]; rfl, hw.sub (List.nil_sublist _)⟩
      · refine CX.skip (XX.inBlock (V' := [(0, _), (1, _), (2, _), (6, .pointer (some ⟨g6, 0, none⟩)), (8, _)]) ⟨rfl, rfl, rfl, rfl, rfl, trivial⟩ ?_)
        refine XX.next (V' := [(0, _), (1, _), (2, _), (6, .pointer (some ⟨g6, 0, none⟩)), (8, _)]) ⟨rfl, rfl, rfl, rfl, rfl, trivial⟩ ?_
        refine CX.region ?_
        refine RX.cons rfl rfl (op_w (yw_move rfl rfl) rfl rfl ?_)
        refine RX.cons rfl rfl (op_w (yw_add rfl rfl rfl (by omega) (by omega)) rfl rfl ?_)
        refine RX.cons rfl rfl (op_w (yw_assign rfl rfl) rfl rfl ?_)
        refine RX.nil (XX.againP ([]) (k + 1) (by omega) ⟨by omega, all_snocP (p := fun x : Fc => hitF d i x = false) hx0 (decide_eq_false (by omega)) hall⟩ ⟨rfl, rfl, rfl, rfl, rfl, trivial⟩ ((perm_pick 0 rfl).trans (List.Perm.cons _ (List.Perm.refl _))))
    · refine RX.skip rfl rfl rfl rfl rfl rfl rfl ?_
      refine RX.skip rfl rfl rfl rfl rfl rfl rfl ?_
      refine RX.skip rfl rfl rfl rfl rfl rfl rfl ?_
      refine RX.skip rfl rfl rfl rfl rfl rfl rfl ?_
      refine RX.skip rfl rfl rfl rfl rfl rfl rfl ?_
      refine RX.skip rfl rfl rfl rfl rfl rfl rfl ?_
      refine RX.skip rfl rfl rfl rfl rfl rfl rfl ?_
      refine RX.cons rfl rfl (op_w (yw_pickF rfl rfl rfl) rfl rfl ?_)
      refine RX.nil (XX.next (V' := [(0, _), (1, _), (2, _), (6, .pointer (some ⟨g6, 0, none⟩)), (8, _), (30, _)]) ⟨rfl, rfl, rfl, rfl, rfl, rfl, trivial⟩ ?_)
      refine CX.condF rfl ?_
      refine CX.skip (XX.inBlock (V' := [(0, _), (1, _), (2, _), (6, .pointer (some ⟨g6, 0, none⟩)), (8, _)]) ⟨rfl, rfl, rfl, rfl, rfl, trivial⟩ ?_)
      refine XX.next (V' := [(0, _), (1, _), (2, _), (6, .pointer (some ⟨g6, 0, none⟩)), (8, _)]) ⟨rfl, rfl, rfl, rfl, rfl, trivial⟩ ?_
      refine CX.region ?_
      refine RX.cons rfl rfl (op_w (yw_move rfl rfl) rfl rfl ?_)
      refine RX.cons rfl rfl (op_w (yw_add rfl rfl rfl (by omega) (by omega)) rfl rfl ?_)
      refine RX.cons rfl rfl (op_w (yw_assign rfl rfl) rfl rfl ?_)
      refine RX.nil (XX.againP ([]) (k + 1) (by omega) ⟨by omega, all_snocP (p := fun x : Fc => hitF d i x = false) hx0 (decide_eq_false (by omega)) hall⟩ ⟨rfl, rfl, rfl, rfl, rfl, trivial⟩ ((perm_pick 0 rfl).trans (List.Perm.cons _ (List.Perm.refl _))))
  · rw [List.take_of_length_le (by omega)] at hall
    refine CX.exit ?_
    refine XX.then_exit ?_
    refine XX.then_exit ?_
    refine XX.block_exit ?_
    refine XX.next (V' := [(6, .pointer (some ⟨g6, 0, none⟩))]) ⟨rfl, trivial⟩ ?_
    refine CX.seq ?_
    refine CX.region ?_
    refine RX.cons rfl rfl (op_w (yw_build (v := .agg (fcC fc0)) rfl rfl (fun _ => by kernel_rfl)) rfl rfl ?_)
    refine RX.cons rfl rfl (op_storeAll (i := 0) rfl rfl rfl rfl szt_58 rfl (plain_of rfl) rfl rfl ?_)
    refine RX.cons rfl rfl (op_w (yw_assign rfl rfl) rfl rfl ?_)
    refine RX.nil (XX.next (V' := [(6, .pointer (some ⟨g6, 0, none⟩)), (7, .bool false)]) ⟨rfl, rfl, trivial⟩ ?_)
    refine CX.ret ?_
    exact ret_cellT (i := 0) rfl rfl rfl agg_58 rfl rfl fun w1 hw => ⟨_, trivial, by rw [find_not hall]; rfl, hw.sub (List.nil_sublist _)⟩

set_option maxRecDepth 100000 in
theorem w_Mark07 {w : World} {AM : Option Addr} {capM : Nat} (fs : List Fc) (hrM : Rd w AM 18 (fs.map fcC)) (hlM : fs.length ≤ 1000000) (d i : Int) {v0 v2 v3 v4 v5 v6 v7 v8 v9 : Value} :
    Calls Try.prog 39 #[.agg (#[v0, .slice AM fs.length capM, v2, v3, v4, v5, v6, v7, v8, v9]), .int .i64 d, .int .i64 i] w (fun e w' => e = .returned (.int .i64 (markOf fs d i)) ∧ SL w [] w' []) := by
  refine calls_of_CX (O := []) (L := []) (args := [.agg (#[v0, .slice AM fs.length capM, v2, v3, v4, v5, v6, v7, v8, v9]), .int .i64 d, .int .i64 i]) Try.func39 rfl (by simp [Try.ntmps39]) (SL.refl w) ?_
  refine CX.sub (V' := [(0, .agg (#[v0, .slice AM fs.length capM, v2, v3, v4, v5, v6, v7, v8, v9])), (1, .int .i64 d), (2, .int .i64 i)]) ⟨rfl, rfl, rfl, trivial⟩ ?_
  refine CX.seq ?_
  refine CX.region ?_
  refine RX.cons rfl rfl (op_box rfl rfl rfl rfl fun g3 => ?_)
  refine RX.cons rfl rfl (op_w (yw_assign rfl rfl) rfl rfl ?_)
  refine RX.nil (XX.next (V' := [(1, _), (2, _), (3, _)]) ⟨rfl, rfl, rfl, trivial⟩ ?_)
  refine CX.seq ?_
  refine CX.region ?_
  refine RX.cons rfl rfl (op_w (yw_fieldAddr rfl fld_34_1 rfl) rfl rfl ?_)
  refine RX.cons rfl rfl (op_yld (y_load (i := 0) rfl rfl one_31 rfl rfl) rfl rfl ?_)
  refine RX.cons rfl rfl (op_w (yw_move rfl rfl) rfl rfl ?_)
  refine RX.cons rfl rfl (op_w (yw_move rfl rfl) rfl rfl ?_)
  refine RX.cons rfl rfl (op_callE rfl rfl rfl rfl rfl ent_56 (fun w hw => w_of07 fs (hw.rd hrM (by simp)) hlM d i) (fun b1 _ => ?_))
  refine RX.cons rfl rfl (op_w (yw_move rfl rfl) rfl rfl ?_)
  refine RX.cons rfl rfl (op_w (yw_extract rfl rfl rfl) rfl rfl ?_)
  refine RX.cons rfl rfl (op_w (yw_extract rfl rfl rfl) rfl rfl ?_)
  refine RX.cons rfl rfl (op_alloc rfl rfl rfl zero_58 fun g7 => ?_)
  refine RX.cons rfl rfl (op_storeAll (i := 0) rfl rfl rfl rfl szt_58 rfl (plain_of rfl) rfl rfl ?_)
  refine RX.cons rfl rfl (op_w (yw_assign rfl rfl) rfl rfl ?_)
  refine RX.nil (XX.next (V' := [(7, _)]) ⟨rfl, trivial⟩ ?_)
  refine CX.seq ?_
  refine CX.region ?_
  refine RX.cons rfl rfl (op_w (yw_fieldAddr rfl fld_58_16 rfl) rfl rfl ?_)
  refine RX.cons rfl rfl (op_yld (y_load (i := 0) rfl rfl one_3 rfl rfl) rfl rfl ?_)
  refine RX.cons rfl rfl (op_w (yw_assign rfl rfl) rfl rfl ?_)
  refine RX.nil (XX.next (V' := [(6, .int .i64 (Fc.mark ((List.find? (hitF d i) fs).getD fc0)))]) ⟨rfl, trivial⟩ ?_)
  refine CX.ret ?_
  exact ret_tmp rfl rfl fun w1 hw => ⟨rfl, hw.sub (List.nil_sublist _)⟩

end Go.Proofs.Ytpcfgoadkfajfaa
