/- Walks, printed by a program. -/
import Derived.Test.YtmndhiaaolfepaaDoorWalkL
import Derived.Test.YtmndhiaaolfepaaDoorDefs2
namespace Go.Proofs.YtmndhiaaolfepaaDoor
set_option linter.all false
open Go Go.RowKit
set_option maxRecDepth 100000
theorem zero_23 : Zero Tryd.prog 23 (.slice none 0 0) := ⟨(Tryd.prog.info? 23).get!, by kernel_rfl, by kernel_rfl⟩
theorem ent_25 : ∀ args w, (callFunc 25 args).run Tryd.prog w = .ok (.enter 25 args) w := enters_of Tryd.func25 (by kernel_rfl) rfl
theorem ent_24 : ∀ args w, (callFunc 24 args).run Tryd.prog w = .ok (.enter 24 args) w := enters_of Tryd.func24 (by kernel_rfl) rfl
theorem ent_31 : ∀ args w, (callFunc 31 args).run Tryd.prog w = .ok (.enter 31 args) w := enters_of Tryd.func31 (by kernel_rfl) rfl
theorem zero_30 : Zero Tryd.prog 30 (.agg (#[.int .i64 0, .int .i64 0, .int .i64 0, .int .i64 0, .int .i64 0, .int .i64 0, .int .i64 0, .int .i64 0, .int .i64 0])) := ⟨(Tryd.prog.info? 30).get!, by kernel_rfl, by kernel_rfl⟩
theorem szt_30 : SzT Tryd.prog 30 9 := ⟨(Tryd.prog.info? 30).get!, by kernel_rfl, by kernel_rfl⟩
theorem one_23 : One Tryd.prog 23 := ⟨_, Tryd.underlying23, rfl⟩
theorem agg_30 : AggT Tryd.prog 30 9 := ⟨_, _, Tryd.underlying30, rfl, (by kernel_rfl : Tryd.prog.info? 30 = some (Tryd.prog.info? 30).get!), by kernel_rfl⟩
theorem slb_23 : SlB Tryd.prog 23 30 9 72 (.agg (#[.int .i64 0, .int .i64 0, .int .i64 0, .int .i64 0, .int .i64 0, .int .i64 0, .int .i64 0, .int .i64 0, .int .i64 0])) := ⟨Tryd.underlying23, ⟨(Tryd.prog.info? 30).get!, by kernel_rfl, by kernel_rfl, by kernel_rfl, by kernel_rfl⟩, by decide, by decide⟩
theorem szt_23 : SzT Tryd.prog 23 1 := ⟨(Tryd.prog.info? 23).get!, by kernel_rfl, by kernel_rfl⟩
set_option maxRecDepth 100000 in
theorem w_countedOf {w : World} (B : Option Addr) (n c : Nat) :
    Calls Tryd.prog 24 #[.slice B n c] w (fun e w' => ∃ g : Nat, True ∧ e = .returned (.func (.func 31) #[] #[.pointer (some ⟨g, 0, none⟩)]) ∧ SL w [] w' [.blk g (.cells #[.slice B n c] 49 (0, 0))]) := by
  refine calls_of_CX (O := []) (L := []) (args := [.slice B n c]) Tryd.func24 rfl (by simp [Tryd.ntmps24]) (SL.refl w) ?_
  refine CX.sub (V' := [(0, .slice B n c)]) ⟨rfl, trivial⟩ ?_
  refine CX.seq ?_
  refine CX.region ?_
  refine RX.cons rfl rfl (op_box rfl rfl rfl rfl fun g1 => ?_)
  refine RX.cons rfl rfl (op_w (yw_assign rfl rfl) rfl rfl ?_)
  refine RX.nil (XX.next (V' := [(1, .pointer (some ⟨g1, 0, none⟩))]) ⟨rfl, trivial⟩ ?_)
  refine CX.seq ?_
  refine CX.region ?_
  refine RX.cons rfl rfl (op_w (yw_makeFunc rfl rfl rfl) rfl rfl ?_)
  refine RX.cons rfl rfl (op_w (yw_assign rfl rfl) rfl rfl ?_)
  refine RX.nil (XX.next (V' := [(2, .func (.func 31) #[] #[.pointer (some ⟨g1, 0, none⟩)])]) ⟨rfl, trivial⟩ ?_)
  refine CX.ret ?_
  exact ret_tmp rfl rfl fun w1 hw => ⟨_, trivial, rfl, hw⟩

set_option maxRecDepth 100000 in
theorem w_streams {w : World} {A : Option Addr} {cap : Nat} (fs : List Fct) (hr : Rd w A 18 (fs.map Fct.cells)) (hn : fs.length ≤ 1000) (hG : Lens w) :
    Calls Tryd.prog 12 #[.slice A fs.length cap] w (fun e w' => ∃ x : Option Addr × Nat, True ∧ e = .returned (.slice x.1 (streams fs).length x.2) ∧ SL w [] w' [.row x.1 x.2 30 9 (List.map Strm.cells (streams fs))]) := by
  refine calls_of_CXM (O := []) (L := []) (args := [.slice A fs.length cap]) Tryd.func12 rfl (by simp [Tryd.ntmps12]) (SL.refl w) ?_
  refine CX.sub (V' := [(0, .slice A fs.length cap)]) ⟨rfl, trivial⟩ ?_
  refine CX.seq ?_
  refine CX.region ?_
  refine RX.cons rfl rfl (op_alloc rfl rfl rfl zero_23 fun gR => ?_)
  refine RX.nil (XX.next (V' := [(0, .slice A fs.length cap), (2, .pointer (some ⟨gR, 0, none⟩))]) ⟨rfl, rfl, trivial⟩ ?_)
  refine CX.seq ?_
  refine CX.seq ?_
  refine CX.region ?_
  refine RX.cons rfl rfl (op_w (yw_move rfl rfl) rfl rfl ?_)
  refine RX.cons rfl rfl (op_callE rfl rfl rfl rfl rfl ent_25 (fun w hw => w_ordered fs (hw.rd hr (by simp)) hn) (fun x25 _ => ?_))
  refine RX.cons rfl rfl (op_callE rfl rfl rfl rfl rfl ent_24 (fun w _ => w_countedOf x25.1 ((ordered fs).length) x25.2) (fun g24 _ => ?_))
  refine RX.nil (XX.next (V' := [(0, .slice A fs.length cap), (2, .pointer (some ⟨gR, 0, none⟩)), (4, .slice A fs.length cap), (5, .slice x25.1 ((ordered fs).length) x25.2), (6, .func (.func 31) #[] #[.pointer (some ⟨g24, 0, none⟩)])]) ⟨rfl, rfl, rfl, rfl, rfl, trivial⟩ ?_)
  refine CX.block ?_
  refine CX.rowNil 30 9 ?_
  refine CX.rangeFunc (σ := Option Addr × Nat) (LL := fun z => [.blk gR (.cells (#[.slice z.1 (counted Plr.start (ordered fs)).length z.2]) 23 (0, 0)), .row z.1 z.2 30 9 (List.map Strm.cells (counted Plr.start (ordered fs)))]) (post := fun _ => True) [.blk gR (.cells (#[.slice none 0 0]) 23 (0, 0)), .row none 0 30 9 (List.map Strm.cells ([]))] [.blk g24 (.cells (#[.slice x25.1 ((ordered fs).length) x25.2]) 49 (0, 0)), .row x25.1 x25.2 54 18 (List.map Fct.cells (ordered fs))] ((perm_pick 3 rfl).trans (List.Perm.cons _ ((perm_pick 0 rfl).trans (List.Perm.cons _ (List.Perm.refl _))))) rfl ent_31 ?_ ?_
  · intro l Dk fn a w1 ha hw hs
    have hM : SL w [] w1 (MS gR l Dk (mkRec fn a.tmps _ _ _ Dk) none 0 [] ++ [.blk g24 (.cells (#[.slice x25.1 ((ordered fs).length) x25.2]) 49 (0, 0)), .row x25.1 x25.2 54 18 (List.map Fct.cells (ordered fs))]) := hw
    have hO0 := hM.fresh (List.subset_append_left _ _) (World.block_lt_of_cell? w _ (hG 0 (by decide)))
    refine (w_counted1 _ none 0 (ordered fs) (fun p hp => ordered_valid fs hp) (by have := ordered_length fs; omega) (hG.keep hw (by simp)) (hM.cellOf (i := 4) rfl rfl) (Ent.rd (hM.ents _ (List.mem_of_getElem? (i := 5) rfl))) hO0 (hM.apart 0 rfl (by simp [Ent.blocks])) ?_ hs ?_).mono ?_
    · exact hM.apartA hO0 1 rfl
    · intro ys x A c w2 hlen hs2
      refine round_of_CX (n := Tryd.f12.ntmps) (V0 := [(7, .agg (Strm.cells x)), (2, .pointer (some ⟨gR, 0, none⟩))]) (σ := Nat) (τ := Option Addr × Nat) (M := [.blk gR (.cells (#[.slice A ys.length c]) 23 (0, 0)), .row A c 30 9 (List.map Strm.cells ys)]) (fun g3 => [(2, .pointer (some ⟨gR, 0, none⟩)), (3, .pointer (some ⟨g3, 0, none⟩))]) (fun g3 => [.blk gR (.cells (#[.slice A ys.length c]) 23 (0, 0)), .row A c 30 9 (List.map Strm.cells ys), .blk g3 (.cells (Strm.cells x) 30 (0, 0))]) (fun _ => True) (LL := fun z => [.blk gR (.cells (#[.slice z.1 (ys ++ [x]).length z.2]) 23 (0, 0)), .row z.1 z.2 30 9 (List.map Strm.cells (ys ++ [x]))]) rfl rfl rfl ?_ ?_ ?_ hs2
      · exact (ha.sub (V' := [(2, _)]) ⟨rfl, trivial⟩).round 7 rfl _
      · refine CX.region ?_
        refine RX.cons rfl rfl (op_alloc rfl rfl rfl zero_30 fun g3 => ?_)
        refine RX.cons rfl rfl (op_storeAll (i := 0) rfl rfl rfl rfl szt_30 rfl (plain_of rfl) rfl rfl ?_)
        refine RX.nil (XX.meetP ([]) g3 trivial ⟨rfl, rfl, trivial⟩ ((perm_pick 1 rfl).trans (List.Perm.cons _ ((perm_pick 1 rfl).trans (List.Perm.cons _ ((perm_pick 1 rfl).trans (List.Perm.cons _ ((perm_pick 1 rfl).trans (List.Perm.cons _ ((perm_pick 0 rfl).trans (List.Perm.cons _ (List.Perm.refl _))))))))))))
      · intro g3 _
        refine CX.block ?_
        refine CX.region ?_
        refine RX.cons rfl rfl (op_yld (y_load (i := 2) rfl rfl one_23 rfl rfl) rfl rfl ?_)
        refine RX.cons rfl rfl (op_yld (y_loadA (i := 4) rfl rfl agg_30 rfl rfl) rfl rfl ?_)
        refine RX.cons rfl rfl (op_buildSlice rfl rfl rfl slb_23 rfl rfl (by intro v hv; simp only [List.mem_cons, List.not_mem_nil, or_false] at hv; subst hv; exact ⟨rfl, (plain_of rfl)⟩) (by decide) fun g1 => ?_)
        refine RX.cons rfl rfl (op_appendM Strm.cells (i := 4) (j := 0) (xs := ys) ([x]) rfl rfl rfl slb_23 rfl rfl rfl rfl rfl rfl (by simp; omega) (by simp; omega) fun A' c' => ?_)
        refine RX.cons rfl rfl (op_storeAll (i := 3) rfl rfl rfl rfl szt_23 rfl (plain_of rfl) rfl rfl ?_)
        refine RX.nil (XX.inBlock (V' := []) trivial ?_)
        refine XX.meetP ([.row (some ⟨g1, 0, none⟩) 1 30 9 (List.map Value.cells [.agg (Strm.cells x)]), .blk g3 (.cells (Strm.cells x) 30 (0, 0))]) (A', c') trivial trivial ((perm_pick 1 rfl).trans (List.Perm.cons _ ((perm_pick 1 rfl).trans (List.Perm.cons _ ((perm_pick 1 rfl).trans (List.Perm.cons _ ((perm_pick 1 rfl).trans (List.Perm.cons _ (List.Perm.refl _)))))))))
    · exact fun e w' ⟨z, _, he, hz⟩ => ⟨z, trivial, ⟨_, he⟩, hz⟩
  · intro z l Dk ob _
    refine XX.inBlock (V' := [(2, .pointer (some ⟨gR, 0, none⟩))]) ⟨rfl, trivial⟩ ?_
    refine XX.next (V' := [(2, .pointer (some ⟨gR, 0, none⟩))]) ⟨rfl, trivial⟩ ?_
    refine CX.seq ?_
    refine CX.region ?_
    refine RX.cons rfl rfl (op_yld (y_load (i := 2) rfl rfl one_23 rfl rfl) rfl rfl ?_)
    refine RX.cons rfl rfl (op_storeAll (i := 2) rfl rfl rfl rfl szt_23 rfl (plain_of rfl) rfl rfl ?_)
    refine RX.nil (XX.next (V' := [(2, .pointer (some ⟨gR, 0, none⟩))]) ⟨rfl, trivial⟩ ?_)
    refine CX.ret ?_
    exact ret_cellM (i := 2) (k := 1) rfl rfl one_23 rfl rfl fun w1 hw => ⟨(z.1, z.2), trivial, rfl, hw.pick ((perm_pick 3 rfl).trans (List.Perm.cons _ (List.Perm.refl _)))⟩

end Go.Proofs.YtmndhiaaolfepaaDoor
