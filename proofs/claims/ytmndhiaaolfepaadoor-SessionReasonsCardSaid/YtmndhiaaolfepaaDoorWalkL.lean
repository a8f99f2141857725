/- Walks, printed by a program. -/
import Derived.Test.YtmndhiaaolfepaaDoorWalkK
import Derived.Test.YtmndhiaaolfepaaDoorRange
namespace Go.Proofs.YtmndhiaaolfepaaDoor
set_option linter.all false
open Go Go.RowKit
set_option maxRecDepth 100000
theorem one_49 : One Tryd.prog 49 := ⟨_, Tryd.underlying49, rfl⟩
theorem zero_54 : Zero Tryd.prog 54 (.agg (#[.int .i64 0, .int .i64 0, .int .i64 0, .int .i64 0, .int .i64 0, .int .i64 0, .int .i64 0, .int .i64 0, .int .i64 0, .int .i64 0, .int .i64 0, .int .i64 0, .int .i64 0, .int .i64 0, .int .i64 0, .int .i64 0, .int .i64 0, .string .empty])) := ⟨(Tryd.prog.info? 54).get!, by kernel_rfl, by kernel_rfl⟩
theorem ent_32 : ∀ args w, (callFunc 32 args).run Tryd.prog w = .ok (.enter 32 args) w := enters_of Tryd.func32 (by kernel_rfl) rfl
theorem ent_33 : ∀ args w, (callFunc 33 args).run Tryd.prog w = .ok (.enter 33 args) w := enters_of Tryd.func33 (by kernel_rfl) rfl
/-- What the loop over the streams keeps: its record, its block; the slice that grows. -/
abbrev MS (gR l Dk : Nat) (rec : Loop) (A : Option Addr) (c : Nat) (ys : List Strm) : List Ent := RB l Dk rec ++ [.blk gR (.cells #[.slice A ys.length c] 23 (0, 0)), .row A c 30 9 (List.map Strm.cells ys)]
/-- A round appends the stream. -/
def YieldOk (gR l Dk : Nat) (rec : Loop) (N : Nat) : Prop := ∀ (ys : List Strm) (x : Strm) (A : Option Addr) (c : Nat) (w : World), ys.length < N → SL w ((MS gR l Dk rec A c ys).flatMap Ent.blocks) w (MS gR l Dk rec A c ys) →
    ∃ f tmps asg body, (Instr.yield l #[.agg x.cells]).run Tryd.prog w = .ok (.round l f tmps asg body) w ∧ RoundIn Fence.wide 0 Tryd.prog l f tmps asg body w fun e w' => ∃ z : Option Addr × Nat, True ∧ e = .returned (.bool true) ∧ SL w ((MS gR l Dk rec A c ys).flatMap Ent.blocks) w' (MS gR l Dk rec z.1 z.2 (ys ++ [x]))

set_option maxRecDepth 100000 in
theorem w_counted1 {w : World} {gR l Dk g1 : Nat} (rec : Loop) (A0 : Option Addr) (c0 : Nat) {B : Option Addr} {cb : Nat} (ps : List Fct) (hps : ∀ p ∈ ps, p.valid = true) (hn : ps.length ≤ 1000) (hG : Lens w) (h1 : w.cell? ⟨g1, 0, none⟩ = some (.slice B ps.length cb)) (hr : Rd w B 18 (ps.map Fct.cells)) (hO0 : 0 ∉ ((MS gR l Dk rec A0 c0 []).flatMap Ent.blocks)) (hO1 : g1 ∉ ((MS gR l Dk rec A0 c0 []).flatMap Ent.blocks)) (hOB : ab B ∉ ((MS gR l Dk rec A0 c0 []).flatMap Ent.blocks)) (hs : SL w ((MS gR l Dk rec A0 c0 []).flatMap Ent.blocks) w (MS gR l Dk rec A0 c0 [])) (hy : YieldOk gR l Dk rec 1000) :
    Calls Tryd.prog 31 #[.func (.yield l) #[] #[], .pointer (some ⟨g1, 0, none⟩)] w (fun e w' => ∃ z : Option Addr × Nat, True ∧ e = .returned (.tuple #[]) ∧ SL w ((MS gR l Dk rec A0 c0 []).flatMap Ent.blocks) w' (MS gR l Dk rec z.1 z.2 (counted Plr.start ps))) := by
  refine calls_of_CX (O := ((MS gR l Dk rec A0 c0 []).flatMap Ent.blocks)) (L := [.blk l (.loop rec), .blk Dk (.deferred (some [])), .blk gR (.cells (#[.slice A0 ([] : List Strm).length c0]) 23 (0, 0)), .row A0 c0 30 9 (List.map Strm.cells ([] : List Strm))]) (args := [.func (.yield l) #[] #[], .pointer (some ⟨g1, 0, none⟩)]) Tryd.func31 rfl (by simp [Tryd.ntmps31]) hs ?_
  refine CX.sub (V' := [(0, .func (.yield l) #[] #[]), (1, .pointer (some ⟨g1, 0, none⟩))]) ⟨rfl, rfl, trivial⟩ ?_
  refine CX.scope ?_
  refine CX.seq ?_
  refine CX.region ?_
  refine RX.cons rfl rfl (op_makeMap rfl rfl rfl fun m => ?_)
  refine RX.cons rfl rfl (op_w (yw_build (v := .agg (#[.int .i64 0, .int .i64 0, .int .i64 0, .int .i64 0, .map (some m)])) rfl rfl (fun _ => by kernel_rfl)) rfl rfl ?_)
  refine RX.cons rfl rfl (op_box rfl rfl rfl rfl fun g2 => ?_)
  refine RX.cons rfl rfl (op_w (yw_assign rfl rfl) rfl rfl ?_)
  refine RX.nil (XX.next (V' := [(0, .func (.yield l) #[] #[]), (1, .pointer (some ⟨g1, 0, none⟩)), (3, .pointer (some ⟨g2, 0, none⟩))]) ⟨rfl, rfl, rfl, trivial⟩ ?_)
  refine CX.seq ?_
  refine CX.label (XX.next (V' := [(0, .func (.yield l) #[] #[]), (1, .pointer (some ⟨g1, 0, none⟩)), (3, .pointer (some ⟨g2, 0, none⟩))]) ⟨rfl, rfl, rfl, trivial⟩ ?_)
  refine CX.seq ?_
  refine CX.region ?_
  refine RX.cons rfl rfl (op_yld (y_loadG (v := .slice B ps.length cb) rfl rfl one_49 h1 hO1) rfl rfl ?_)
  refine RX.cons rfl rfl (op_w (yw_lenS rfl Tryd.underlying49 rfl) rfl rfl ?_)
  refine RX.cons rfl rfl (op_w (yw_move rfl rfl) rfl rfl ?_)
  refine RX.nil (XX.next (V' := [(0, .func (.yield l) #[] #[]), (3, .pointer (some ⟨g2, 0, none⟩)), (12, .slice B ps.length cb), (13, .int .i64 ((ps.length : Nat) : Int)), (14, .int .i64 0)]) ⟨rfl, rfl, rfl, rfl, rfl, trivial⟩ ?_)
  refine CX.block ?_
  refine CX.loop (σ := Nat × Plr × Nat × Option Addr × Nat × List Strm) (fun z => [(0, .func (.yield l) #[] #[]), (3, .pointer (some ⟨g2, 0, none⟩)), (12, .slice B ps.length cb), (13, .int .i64 ((ps.length : Nat) : Int)), (14, .int .i64 ((z.1 : Nat) : Int))]) (fun z => [.blk g2 (.cells (plrCells z.2.1 z.2.2.1) 60 (0, 0)), .imap z.2.2.1 (loopsMap z.2.1), .blk l (.loop rec), .blk Dk (.deferred (some [])), .blk gR (.cells (#[.slice z.2.2.2.1 z.2.2.2.2.2.length z.2.2.2.2.1]) 23 (0, 0)), .row z.2.2.2.1 z.2.2.2.2.1 30 9 (List.map Strm.cells z.2.2.2.2.2)]) (fun z => z.1 ≤ ps.length ∧ PlrOk z.2.1 ∧ z.2.1.session ≤ (z.1 : Int) ∧ z.2.2.2.2.2.length ≤ z.1 ∧ z.2.2.2.2.2 ++ counted z.2.1 (ps.drop z.1) = counted Plr.start ps) (fun z => ps.length - z.1) (0, Plr.start, m, A0, c0, []) ⟨Nat.zero_le _, start_ok, Int.le_refl 0, Nat.zero_le _, rfl⟩ ⟨rfl, rfl, rfl, rfl, rfl, trivial⟩ rfl (fun z hI => ?_)
  obtain ⟨i, x, m, A, c, ys⟩ := z
  dsimp only at hI ⊢
  obtain ⟨hi, hok, hsess, hyl, hf⟩ := hI
  refine CX.seq ?_
  refine CX.region ?_
  refine RX.cons rfl rfl (op_w (yw_lss rfl rfl rfl) rfl rfl ?_)
  refine RX.nil (XX.next (V' := [(0, .func (.yield l) #[] #[]), (3, .pointer (some ⟨g2, 0, none⟩)), (12, .slice B ps.length cb), (13, .int .i64 ((ps.length : Nat) : Int)), (14, .int .i64 ((i : Nat) : Int)), (15, .bool (decide (((i : Nat) : Int) < ((ps.length : Nat) : Int))))]) ⟨rfl, rfl, rfl, rfl, rfl, rfl, trivial⟩ ?_)
  refine CX.seq ?_
  refine CX.condD (p := ((i : Nat) : Int) < ((ps.length : Nat) : Int)) rfl (fun c15 => ?_) (fun c15 => ?_)
  · obtain ⟨p, hp⟩ := get_some (l := ps) (k := i) (by omega)
    obtain ⟨h0, h1', h2, h3⟩ := valid_ranges (hps p (List.mem_of_getElem? hp))
    refine CX.skip (XX.next (V' := [(0, .func (.yield l) #[] #[]), (3, .pointer (some ⟨g2, 0, none⟩)), (12, .slice B ps.length cb), (13, .int .i64 ((ps.length : Nat) : Int)), (14, .int .i64 ((i : Nat) : Int))]) ⟨rfl, rfl, rfl, rfl, rfl, trivial⟩ ?_)
    refine CX.seq ?_
    refine CX.block ?_
    refine CX.seq ?_
    refine CX.region ?_
    refine RX.cons rfl rfl (op_w (yw_index (k := i) rfl slt_49 rfl rfl (by omega) (by omega) (hr.some (k := i) (by simp; omega))) rfl rfl ?_)
    refine RX.cons rfl rfl (op_yld (y_elem rfl rfl agg_54 hr hOB (map_get hp)) rfl rfl ?_)
    refine RX.cons rfl rfl (op_alloc rfl rfl rfl zero_54 fun g1 => ?_)
    refine RX.cons rfl rfl (op_storeAll (i := 0) rfl rfl rfl rfl szt_54 rfl (plain_of rfl) rfl rfl ?_)
    refine RX.nil (XX.next (V' := [(0, .func (.yield l) #[] #[]), (3, .pointer (some ⟨g2, 0, none⟩)), (5, .pointer (some ⟨g1, 0, none⟩)), (12, .slice B ps.length cb), (13, .int .i64 ((ps.length : Nat) : Int)), (14, .int .i64 ((i : Nat) : Int))]) ⟨rfl, rfl, rfl, rfl, rfl, rfl, trivial⟩ ?_)
    refine CX.seq ?_
    refine CX.seq ?_
    refine CX.region ?_
    refine RX.cons rfl rfl (op_w (yw_move rfl rfl) rfl rfl ?_)
    refine RX.cons rfl rfl (op_yld (y_loadA (i := 0) rfl rfl agg_54 rfl rfl) rfl rfl ?_)
    refine RX.cons rfl rfl (op_callP [.blk g2 (.cells (plrCells x m) 60 (0, 0)), .imap m (loopsMap x)] [.blk g1 (.cells (Fct.cells p) 54 (0, 0)), .blk l (.loop rec), .blk Dk (.deferred (some [])), .blk gR (.cells (#[.slice A ys.length c]) 23 (0, 0)), .row A c 30 9 (List.map Strm.cells ys)] rfl rfl rfl rfl rfl ent_32 ((perm_pick 1 rfl).trans (List.Perm.cons _ ((perm_pick 1 rfl).trans (List.Perm.cons _ (List.Perm.refl _))))) (σ := Nat) (val := fun _ => .bool (Plr.look x p).2) (LL := fun m' => [.blk g2 (.cells (plrCells ((Plr.look x p).1) m') 60 (0, 0)), .imap m' (loopsMap ((Plr.look x p).1))]) (post := fun _ => True) (fun w hw hs => w_look x p hs hok h0 h1' h2 h3) (fun m' _ => ?_))
    refine RX.cons rfl rfl (op_w (yw_not rfl rfl) rfl rfl ?_)
    refine RX.nil (XX.next (V' := [(0, .func (.yield l) #[] #[]), (3, .pointer (some ⟨g2, 0, none⟩)), (5, .pointer (some ⟨g1, 0, none⟩)), (12, .slice B ps.length cb), (13, .int .i64 ((ps.length : Nat) : Int)), (14, .int .i64 ((i : Nat) : Int)), (21, .bool (!((Plr.look x p).2)))]) ⟨rfl, rfl, rfl, rfl, rfl, rfl, rfl, trivial⟩ ?_)
    refine CX.cond (b := !((Plr.look x p).2)) rfl (fun c21 => ?_) (fun c21 => ?_)
    · refine CX.exit ?_
      refine XX.then_exit ?_
      refine XX.block_exit ?_
      refine XX.next (V' := [(0, .func (.yield l) #[] #[]), (3, .pointer (some ⟨g2, 0, none⟩)), (12, .slice B ps.length cb), (13, .int .i64 ((ps.length : Nat) : Int)), (14, .int .i64 ((i : Nat) : Int))]) ⟨rfl, rfl, rfl, rfl, rfl, trivial⟩ ?_
      refine CX.region ?_
      refine RX.cons rfl rfl (op_w (yw_add rfl rfl rfl (by omega) (by omega)) rfl rfl ?_)
      refine RX.cons rfl rfl (op_w (yw_move rfl rfl) rfl rfl ?_)
      refine RX.nil (XX.againP ([.blk g1 (.cells (Fct.cells p) 54 (0, 0))]) (i + 1, (x.look p).1, m', A, c, ys) (by dsimp only; omega) ⟨by dsimp only; omega, look_ok hok h0 h1' hsess (by omega), look_sess hok h0 h1' hsess, by dsimp only; omega, by dsimp only; rw [← hf, drop_get hp, counted_no (by simpa using c21)]⟩ ⟨rfl, rfl, rfl, rfl, rfl, trivial⟩ ((perm_pick 0 rfl).trans (List.Perm.cons _ ((perm_pick 0 rfl).trans (List.Perm.cons _ ((perm_pick 1 rfl).trans (List.Perm.cons _ ((perm_pick 1 rfl).trans (List.Perm.cons _ ((perm_pick 1 rfl).trans (List.Perm.cons _ ((perm_pick 1 rfl).trans (List.Perm.cons _ (List.Perm.refl _))))))))))))))
    · refine CX.skip (XX.next (V' := [(0, .func (.yield l) #[] #[]), (3, .pointer (some ⟨g2, 0, none⟩)), (5, .pointer (some ⟨g1, 0, none⟩)), (12, .slice B ps.length cb), (13, .int .i64 ((ps.length : Nat) : Int)), (14, .int .i64 ((i : Nat) : Int))]) ⟨rfl, rfl, rfl, rfl, rfl, rfl, trivial⟩ ?_)
      refine CX.seq ?_
      refine CX.region ?_
      refine RX.cons rfl rfl (op_w (yw_field0 rfl fld_54_0 rfl) rfl rfl ?_)
      refine RX.cons rfl rfl (op_w (yw_fieldAddr rfl fld_33_4 rfl) rfl rfl ?_)
      refine RX.cons rfl rfl (op_yld (y_load (i := 2) rfl rfl one_3 rfl rfl) rfl rfl ?_)
      refine RX.cons rfl rfl (op_callV (v := .tuple #[.int .i64 (periodOf p.second), .int .i64 (dayOf p.second), .bool true]) rfl rfl rfl rfl rfl ent_33 (fun w hw => w_of (hG.keep hw hO0) p.second ⟨h0, h1'⟩) ?_)
      refine RX.cons rfl rfl (op_w (yw_move rfl rfl) rfl rfl ?_)
      refine RX.cons rfl rfl (op_w (yw_extract rfl rfl rfl) rfl rfl ?_)
      refine RX.cons rfl rfl (op_w (yw_extract rfl rfl rfl) rfl rfl ?_)
      refine RX.cons rfl rfl (op_w (yw_extract rfl rfl rfl) rfl rfl ?_)
      refine RX.cons rfl rfl (op_w (yw_assign rfl rfl) rfl rfl ?_)
      refine RX.cons rfl rfl (op_w (yw_assign rfl rfl) rfl rfl ?_)
      refine RX.cons rfl rfl (op_w (yw_assign rfl rfl) rfl rfl ?_)
      refine RX.nil (XX.next (V' := [(0, .func (.yield l) #[] #[]), (3, .pointer (some ⟨g2, 0, none⟩)), (5, .pointer (some ⟨g1, 0, none⟩)), (6, .int .i64 (periodOf p.second)), (12, .slice B ps.length cb), (13, .int .i64 ((ps.length : Nat) : Int)), (14, .int .i64 ((i : Nat) : Int))]) ⟨rfl, rfl, rfl, rfl, rfl, rfl, rfl, trivial⟩ ?_)
      refine CX.seq ?_
      refine CX.draw 25 (by kernel_rfl) ?_
      refine DX.takeW 0 1 (by kernel_rfl) rfl rfl rfl rfl rfl (yw_move rfl rfl) ?_
      refine DX.takeW 1 3 (by kernel_rfl) rfl rfl rfl rfl rfl (yw_field0 rfl fld_54_0 rfl) ?_
      refine DX.takeW 2 7 (by kernel_rfl) rfl rfl rfl rfl rfl (yw_fieldAddr rfl fld_33_6 rfl) ?_
      refine DX.take 3 15 (by kernel_rfl) rfl rfl rfl rfl rfl (List.Sublist.refl _) (y_load (i := 2) rfl rfl one_3 rfl rfl) ?_
      refine DX.takeW 4 31 (by kernel_rfl) rfl rfl rfl rfl rfl (yw_field0 rfl fld_54_0 rfl) ?_
      refine DX.takeW 5 63 (by kernel_rfl) rfl rfl rfl rfl rfl (yw_fieldAddr rfl fld_33_1 rfl) ?_
      refine DX.take 6 127 (by kernel_rfl) rfl rfl rfl rfl rfl (List.Sublist.refl _) (y_load (i := 2) rfl rfl one_3 rfl rfl) ?_
      refine DX.takeW 7 255 (by kernel_rfl) rfl rfl rfl rfl rfl (yw_field0 rfl fld_54_0 rfl) ?_
      refine DX.takeW 8 511 (by kernel_rfl) rfl rfl rfl rfl rfl (yw_fieldAddr rfl fld_33_5 rfl) ?_
      refine DX.take 9 1023 (by kernel_rfl) rfl rfl rfl rfl rfl (List.Sublist.refl _) (y_load (i := 2) rfl rfl one_3 rfl rfl) ?_
      refine DX.takeW 10 2047 (by kernel_rfl) rfl rfl rfl rfl rfl (yw_field0 rfl fld_54_0 rfl) ?_
      refine DX.takeW 11 4095 (by kernel_rfl) rfl rfl rfl rfl rfl (yw_fieldAddr rfl fld_33_7 rfl) ?_
      refine DX.take 12 8191 (by kernel_rfl) rfl rfl rfl rfl rfl (List.Sublist.refl _) (y_load (i := 2) rfl rfl one_3 rfl rfl) ?_
      refine DX.takeW 13 16383 (by kernel_rfl) rfl rfl rfl rfl rfl (yw_field0 rfl fld_54_0 rfl) ?_
      refine DX.takeW 14 32767 (by kernel_rfl) rfl rfl rfl rfl rfl (yw_fieldAddr rfl fld_33_8 rfl) ?_
      refine DX.take 15 65535 (by kernel_rfl) rfl rfl rfl rfl rfl (List.Sublist.refl _) (y_load (i := 2) rfl rfl one_3 rfl rfl) ?_
      refine DX.takeW 16 131071 (by kernel_rfl) rfl rfl rfl rfl rfl (yw_field0 rfl fld_54_0 rfl) ?_
      refine DX.takeW 17 262143 (by kernel_rfl) rfl rfl rfl rfl rfl (yw_fieldAddr rfl fld_33_4 rfl) ?_
      refine DX.take 18 524287 (by kernel_rfl) rfl rfl rfl rfl rfl (List.Sublist.refl _) (y_load (i := 2) rfl rfl one_3 rfl rfl) ?_
      refine DX.takeW 19 1048575 (by kernel_rfl) rfl rfl rfl rfl rfl (yw_move rfl rfl) ?_
      refine DX.takeW 20 2097151 (by kernel_rfl) rfl rfl rfl rfl rfl (yw_move rfl rfl) ?_
      refine DX.takeW 21 4194303 (by kernel_rfl) rfl rfl rfl rfl rfl (yw_nilCheck rfl rfl) ?_
      refine DX.takeW 22 8388607 (by kernel_rfl) rfl rfl rfl rfl rfl (yw_fieldAddr rfl fld_60_3 rfl) ?_
      refine DX.take 23 16777215 (by kernel_rfl) rfl rfl rfl rfl rfl (List.Sublist.refl _) (y_load (i := 0) rfl rfl one_3 rfl rfl) ?_
      refine DX.takeW 24 33554431 (by kernel_rfl) rfl rfl rfl rfl rfl (yw_build (v := .agg (Strm.cells (strm (x.look p).1 p))) rfl rfl (fun _ => by kernel_rfl)) ?_
      refine DX.stepT 25 67108863 (by kernel_rfl) rfl rfl rfl rfl (op_yield [.blk l (.loop rec), .blk Dk (.deferred (some [])), .blk gR (.cells (#[.slice A ys.length c]) 23 (0, 0)), .row A c 30 9 (List.map Strm.cells ys)] [.blk g2 (.cells (plrCells ((Plr.look x p).1) m') 60 (0, 0)), .imap m' (loopsMap ((Plr.look x p).1)), .blk g1 (.cells (Fct.cells p) 54 (0, 0))] rfl rfl rfl rfl rfl ((perm_pick 3 rfl).trans (List.Perm.cons _ ((perm_pick 3 rfl).trans (List.Perm.cons _ ((perm_pick 3 rfl).trans (List.Perm.cons _ ((perm_pick 3 rfl).trans (List.Perm.cons _ (List.Perm.refl _))))))))) (σ := Option Addr × Nat) (LL := fun z => MS gR l Dk rec z.1 z.2 (ys ++ [strm (x.look p).1 p])) (post := fun _ => True) (fun w hw hs => hy ys (strm (x.look p).1 p) A c w (by omega) hs) (fun z _ => ?_))
      refine DX.takeW 26 134217727 (by kernel_rfl) rfl rfl rfl rfl rfl (yw_not rfl rfl) ?_
      refine DX.done (by kernel_rfl) (XX.next (V' := [(0, .func (.yield l) #[] #[]), (3, .pointer (some ⟨g2, 0, none⟩)), (12, .slice B ps.length cb), (13, .int .i64 ((ps.length : Nat) : Int)), (14, .int .i64 ((i : Nat) : Int)), (56, .bool false)]) ⟨rfl, rfl, rfl, rfl, rfl, rfl, trivial⟩ ?_)
      refine CX.condF rfl ?_
      refine CX.skip (XX.inBlock (V' := [(0, .func (.yield l) #[] #[]), (3, .pointer (some ⟨g2, 0, none⟩)), (12, .slice B ps.length cb), (13, .int .i64 ((ps.length : Nat) : Int)), (14, .int .i64 ((i : Nat) : Int))]) ⟨rfl, rfl, rfl, rfl, rfl, trivial⟩ ?_)
      refine XX.next (V' := [(0, .func (.yield l) #[] #[]), (3, .pointer (some ⟨g2, 0, none⟩)), (12, .slice B ps.length cb), (13, .int .i64 ((ps.length : Nat) : Int)), (14, .int .i64 ((i : Nat) : Int))]) ⟨rfl, rfl, rfl, rfl, rfl, trivial⟩ ?_
      refine CX.region ?_
      refine RX.cons rfl rfl (op_w (yw_add rfl rfl rfl (by omega) (by omega)) rfl rfl ?_)
      refine RX.cons rfl rfl (op_w (yw_move rfl rfl) rfl rfl ?_)
      refine RX.nil (XX.againP ([.blk g1 (.cells (Fct.cells p) 54 (0, 0))]) (i + 1, (x.look p).1, m', z.1, z.2, ys ++ [strm (x.look p).1 p]) (by dsimp only; omega) ⟨by dsimp only; omega, look_ok hok h0 h1' hsess (by omega), look_sess hok h0 h1' hsess, by simp; omega, by dsimp only; rw [← hf, drop_get hp, counted_yes (by simpa using c21)]; simp⟩ ⟨rfl, rfl, rfl, rfl, rfl, trivial⟩ ((perm_pick 4 rfl).trans (List.Perm.cons _ ((perm_pick 4 rfl).trans (List.Perm.cons _ ((perm_pick 0 rfl).trans (List.Perm.cons _ ((perm_pick 0 rfl).trans (List.Perm.cons _ ((perm_pick 0 rfl).trans (List.Perm.cons _ ((perm_pick 0 rfl).trans (List.Perm.cons _ (List.Perm.refl _))))))))))))))
  · obtain rfl : i = ps.length := by omega
    rw [List.drop_length, counted, List.append_nil] at hf
    refine CX.exit ?_
    refine XX.then_exit ?_
    refine XX.then_exit ?_
    refine XX.block_exit ?_
    refine XX.scope_normal ?_
    exact end_none rfl fun w1 hw => ⟨(A, c), trivial, rfl, by rw [← hf]; exact hw.pick ((perm_pick 2 rfl).trans (List.Perm.cons _ ((perm_pick 2 rfl).trans (List.Perm.cons _ ((perm_pick 2 rfl).trans (List.Perm.cons _ ((perm_pick 2 rfl).trans (List.Perm.cons _ (List.Perm.refl _)))))))))⟩

end Go.Proofs.YtmndhiaaolfepaaDoor
