/- Walks, printed by a program. -/
import Derived.Test.YtmndhiaaolfepaaDoorWalkA
namespace Go.Proofs.YtmndhiaaolfepaaDoor
set_option linter.all false
open Go Go.RowKit
set_option maxRecDepth 100000
theorem slt_89 : SlT Tryd.prog 89 3 1 := ⟨(Tryd.prog.info? 3).get!, Tryd.underlying89, by kernel_rfl, by kernel_rfl⟩
theorem fld_33_6 : Fld Tryd.prog 33 6 6 := ⟨_, _, (Tryd.prog.info? 3).get!, Tryd.underlying33, rfl, rfl, by kernel_rfl, by decide +kernel⟩
theorem fld_33_1 : Fld Tryd.prog 33 1 1 := ⟨_, _, (Tryd.prog.info? 3).get!, Tryd.underlying33, rfl, rfl, by kernel_rfl, by decide +kernel⟩
theorem ent_46 : ∀ args w, (callFunc 46 args).run Tryd.prog w = .ok (.enter 46 args) w := enters_of Tryd.func46 (by kernel_rfl) rfl
theorem slb_89 : SlB Tryd.prog 89 3 1 8 (.int .i64 0) := ⟨Tryd.underlying89, ⟨(Tryd.prog.info? 3).get!, by kernel_rfl, by kernel_rfl, by kernel_rfl, by kernel_rfl⟩, by decide, by decide⟩
theorem ent_45 : ∀ args w, (callFunc 45 args).run Tryd.prog w = .ok (.enter 45 args) w := enters_of Tryd.func45 (by kernel_rfl) rfl
theorem ent_43 : ∀ args w, (callFunc 43 args).run Tryd.prog w = .ok (.enter 43 args) w := enters_of Tryd.func43 (by kernel_rfl) rfl
set_option maxRecDepth 100000 in
theorem w_or {w : World} {A : Option Addr} {cap : Nat} (vs : List Int) (hr : Rd w A 1 (vs.map fun v => #[.int .i64 v])) (hn : vs.length ≤ 1000) :
    Calls Tryd.prog 45 #[.slice A vs.length cap] w (fun e w' => e = .returned (.int .i64 (firstNZ vs)) ∧ SL w [] w' []) := by
  refine calls_of_CX (O := []) (L := []) (args := [.slice A vs.length cap]) Tryd.func45 rfl (by simp [Tryd.ntmps45]) (SL.refl w) ?_
  refine CX.sub (V' := [(0, .slice A vs.length cap)]) ⟨rfl, trivial⟩ ?_
  refine CX.seq ?_
  refine CX.region ?_
  refine RX.cons rfl rfl (op_w (yw_assign rfl rfl) rfl rfl ?_)
  refine RX.nil (XX.next (V' := [(0, .slice A vs.length cap)]) ⟨rfl, trivial⟩ ?_)
  refine CX.seq ?_
  refine CX.region ?_
  refine RX.cons rfl rfl (op_w (yw_assign rfl rfl) rfl rfl ?_)
  refine RX.nil (XX.next (V' := [(0, .slice A vs.length cap), (3, .int .i64 0)]) ⟨rfl, rfl, trivial⟩ ?_)
  refine CX.seq ?_
  refine CX.seq ?_
  refine CX.region ?_
  refine RX.cons rfl rfl (op_w (yw_move rfl rfl) rfl rfl ?_)
  refine RX.cons rfl rfl (op_w (yw_lenS rfl Tryd.underlying89 rfl) rfl rfl ?_)
  refine RX.cons rfl rfl (op_w (yw_move rfl rfl) rfl rfl ?_)
  refine RX.nil (XX.next (V' := [(3, .int .i64 0), (6, .slice A vs.length cap), (7, .int .i64 ((vs.length : Nat) : Int)), (8, .int .i64 0)]) ⟨rfl, rfl, rfl, rfl, trivial⟩ ?_)
  refine CX.block ?_
  refine CX.loop (σ := Nat) (fun x => [(3, .int .i64 0), (6, .slice A vs.length cap), (7, .int .i64 ((vs.length : Nat) : Int)), (8, .int .i64 ((x : Nat) : Int))]) (fun x => []) (fun x => x ≤ vs.length ∧ firstNZ vs = firstNZ (vs.drop x)) (fun x => vs.length - x) 0 ⟨Nat.zero_le _, by rw [List.drop_zero]⟩ ⟨rfl, rfl, rfl, rfl, trivial⟩ rfl (fun x hI => ?_)
  obtain ⟨hx, hf⟩ := hI
  refine CX.seq ?_
  refine CX.region ?_
  refine RX.cons rfl rfl (op_w (yw_lss rfl rfl rfl) rfl rfl ?_)
  refine RX.nil (XX.next (V' := [(3, .int .i64 0), (6, .slice A vs.length cap), (7, .int .i64 ((vs.length : Nat) : Int)), (8, .int .i64 ((x : Nat) : Int)), (9, .bool (decide (((x : Nat) : Int) < ((vs.length : Nat) : Int))))]) ⟨rfl, rfl, rfl, rfl, rfl, trivial⟩ ?_)
  refine CX.seq ?_
  refine CX.condD (p := ((x : Nat) : Int) < ((vs.length : Nat) : Int)) rfl (fun c9 => ?_) (fun c9 => ?_)
  · have hxn : x < vs.length := by omega
    obtain ⟨v, hv⟩ : ∃ v, vs[x]? = some v := ⟨vs[x], List.getElem?_eq_getElem hxn⟩
    refine CX.skip (XX.next (V' := [(3, .int .i64 0), (6, .slice A vs.length cap), (7, .int .i64 ((vs.length : Nat) : Int)), (8, .int .i64 ((x : Nat) : Int))]) ⟨rfl, rfl, rfl, rfl, trivial⟩ ?_)
    refine CX.seq ?_
    refine CX.block ?_
    refine CX.seq ?_
    refine CX.region ?_
    refine RX.cons rfl rfl (op_w (yw_index (k := x) rfl slt_89 rfl rfl (by omega) (by omega) (hr.some (k := x) (by simpa using hxn))) rfl rfl ?_)
    refine RX.cons rfl rfl (op_yld (y_elem1 rfl rfl one_3 hr (by simp) (map_get hv)) rfl rfl ?_)
    refine RX.cons rfl rfl (op_w (yw_assign rfl rfl) rfl rfl ?_)
    refine RX.nil (XX.next (V' := [(3, .int .i64 0), (5, .int .i64 v), (6, .slice A vs.length cap), (7, .int .i64 ((vs.length : Nat) : Int)), (8, .int .i64 ((x : Nat) : Int))]) ⟨rfl, rfl, rfl, rfl, rfl, trivial⟩ ?_)
    refine CX.seq ?_
    refine CX.region ?_
    refine RX.cons rfl rfl (op_w (yw_move rfl rfl) rfl rfl ?_)
    refine RX.cons rfl rfl (op_w (yw_move rfl rfl) rfl rfl ?_)
    refine RX.cons rfl rfl (op_w (yw_neq rfl rfl rfl) rfl rfl ?_)
    refine RX.nil (XX.next (V' := [(3, .int .i64 0), (5, .int .i64 v), (6, .slice A vs.length cap), (7, .int .i64 ((vs.length : Nat) : Int)), (8, .int .i64 ((x : Nat) : Int)), (14, .bool (decide (v ≠ 0)))]) ⟨rfl, rfl, rfl, rfl, rfl, rfl, trivial⟩ ?_)
    refine CX.condD (p := v ≠ 0) rfl (fun c14 => ?_) (fun c14 => ?_)
    · refine CX.seq ?_
      refine CX.region ?_
      refine RX.cons rfl rfl (op_w (yw_move rfl rfl) rfl rfl ?_)
      refine RX.cons rfl rfl (op_w (yw_assign rfl rfl) rfl rfl ?_)
      refine RX.nil (XX.next (V' := [(2, .int .i64 v)]) ⟨rfl, trivial⟩ ?_)
      refine CX.ret ?_
      refine XX.block_ret ?_
      refine XX.then_ret ?_
      refine XX.then_ret ?_
      refine XX.block_ret ?_
      refine XX.then_ret ?_
      exact ret_tmp rfl rfl fun w1 hw => ⟨by rw [hf, drop_get hv]; simp [firstNZ, c14], hw.sub (List.nil_sublist _)⟩
    · have c14' : v = 0 := by omega
      refine CX.skip (XX.inBlock (V' := [(3, .int .i64 0), (6, .slice A vs.length cap), (7, .int .i64 ((vs.length : Nat) : Int)), (8, .int .i64 ((x : Nat) : Int))]) ⟨rfl, rfl, rfl, rfl, trivial⟩ ?_)
      refine XX.next (V' := [(3, .int .i64 0), (6, .slice A vs.length cap), (7, .int .i64 ((vs.length : Nat) : Int)), (8, .int .i64 ((x : Nat) : Int))]) ⟨rfl, rfl, rfl, rfl, trivial⟩ ?_
      refine CX.region ?_
      refine RX.cons rfl rfl (op_w (yw_add rfl rfl rfl (by omega) (by omega)) rfl rfl ?_)
      refine RX.cons rfl rfl (op_w (yw_move rfl rfl) rfl rfl ?_)
      refine RX.nil (XX.againP ([]) (x + 1) (by omega) ⟨by omega, by rw [hf, drop_get hv]; simp [firstNZ, c14']⟩ ⟨rfl, rfl, rfl, rfl, trivial⟩ (List.Perm.refl _))
  · refine CX.exit ?_
    refine XX.then_exit ?_
    refine XX.then_exit ?_
    refine XX.block_exit ?_
    refine XX.next (V' := [(3, .int .i64 0)]) ⟨rfl, trivial⟩ ?_
    refine CX.seq ?_
    refine CX.region ?_
    refine RX.cons rfl rfl (op_w (yw_move rfl rfl) rfl rfl ?_)
    refine RX.cons rfl rfl (op_w (yw_assign rfl rfl) rfl rfl ?_)
    refine RX.nil (XX.next (V' := [(2, .int .i64 0)]) ⟨rfl, trivial⟩ ?_)
    refine CX.ret ?_
    exact ret_tmp rfl rfl fun w1 hw => ⟨by rw [hf, List.drop_eq_nil_of_le (by omega)]; rfl, hw.sub (List.nil_sublist _)⟩

set_option maxRecDepth 100000 in
theorem w_cmp {w : World} (a b : Fct) :
    Calls Tryd.prog 35 #[.agg (Fct.cells a), .agg (Fct.cells b)] w (fun e w' => e = .returned (.int .i64 (cmpF a b)) ∧ SL w [] w' []) := by
  refine calls_of_CX (O := []) (L := []) (args := [.agg (Fct.cells a), .agg (Fct.cells b)]) Tryd.func35 rfl (by simp [Tryd.ntmps35]) (SL.refl w) ?_
  refine CX.sub (V' := [(0, .agg (Fct.cells a)), (1, .agg (Fct.cells b))]) ⟨rfl, rfl, trivial⟩ ?_
  refine CX.seq ?_
  refine CX.region ?_
  refine RX.cons rfl rfl (op_box rfl rfl rfl rfl fun g1 => ?_)
  refine RX.cons rfl rfl (op_box rfl rfl rfl rfl fun g2 => ?_)
  refine RX.cons rfl rfl (op_w (yw_assign rfl rfl) rfl rfl ?_)
  refine RX.nil (XX.next (V' := [(2, .pointer (some ⟨g1, 0, none⟩)), (3, .pointer (some ⟨g2, 0, none⟩))]) ⟨rfl, rfl, trivial⟩ ?_)
  refine CX.seq ?_
  refine CX.draw 24 (by kernel_rfl) ?_
  refine DX.takeW 0 1 (by kernel_rfl) rfl rfl rfl rfl rfl (yw_field0 rfl fld_54_0 rfl) ?_
  refine DX.takeW 1 3 (by kernel_rfl) rfl rfl rfl rfl rfl (yw_fieldAddr rfl fld_33_6 rfl) ?_
  refine DX.take 2 7 (by kernel_rfl) rfl rfl rfl rfl rfl (List.Sublist.refl _) (y_load (i := 1) rfl rfl one_3 rfl rfl) ?_
  refine DX.takeW 3 15 (by kernel_rfl) rfl rfl rfl rfl rfl (yw_field0 rfl fld_54_0 rfl) ?_
  refine DX.takeW 4 31 (by kernel_rfl) rfl rfl rfl rfl rfl (yw_fieldAddr rfl fld_33_6 rfl) ?_
  refine DX.take 5 63 (by kernel_rfl) rfl rfl rfl rfl rfl (List.Sublist.refl _) (y_load (i := 0) rfl rfl one_3 rfl rfl) ?_
  refine DX.takeW 7 191 (by kernel_rfl) rfl rfl rfl rfl rfl (yw_field0 rfl fld_54_0 rfl) ?_
  refine DX.takeW 8 447 (by kernel_rfl) rfl rfl rfl rfl rfl (yw_fieldAddr rfl fld_33_4 rfl) ?_
  refine DX.take 9 959 (by kernel_rfl) rfl rfl rfl rfl rfl (List.Sublist.refl _) (y_load (i := 1) rfl rfl one_3 rfl rfl) ?_
  refine DX.takeW 10 1983 (by kernel_rfl) rfl rfl rfl rfl rfl (yw_field0 rfl fld_54_0 rfl) ?_
  refine DX.takeW 11 4031 (by kernel_rfl) rfl rfl rfl rfl rfl (yw_fieldAddr rfl fld_33_4 rfl) ?_
  refine DX.take 12 8127 (by kernel_rfl) rfl rfl rfl rfl rfl (List.Sublist.refl _) (y_load (i := 0) rfl rfl one_3 rfl rfl) ?_
  refine DX.takeW 14 24511 (by kernel_rfl) rfl rfl rfl rfl rfl (yw_field0 rfl fld_54_0 rfl) ?_
  refine DX.takeW 15 57279 (by kernel_rfl) rfl rfl rfl rfl rfl (yw_fieldAddr rfl fld_33_1 rfl) ?_
  refine DX.take 16 122815 (by kernel_rfl) rfl rfl rfl rfl rfl (List.Sublist.refl _) (y_load (i := 1) rfl rfl one_3 rfl rfl) ?_
  refine DX.takeW 17 253887 (by kernel_rfl) rfl rfl rfl rfl rfl (yw_field0 rfl fld_54_0 rfl) ?_
  refine DX.takeW 18 516031 (by kernel_rfl) rfl rfl rfl rfl rfl (yw_fieldAddr rfl fld_33_1 rfl) ?_
  refine DX.take 19 1040319 (by kernel_rfl) rfl rfl rfl rfl rfl (List.Sublist.refl _) (y_load (i := 0) rfl rfl one_3 rfl rfl) ?_
  refine DX.step 6 1040383 (by kernel_rfl) rfl rfl rfl (op_callV (v := .int .i64 (cmp3 a.device b.device)) rfl rfl rfl rfl rfl ent_46 (fun w _ => w_compare a.device b.device) (DXs.mk (List.Sublist.refl _) ?_))
  refine DX.step 13 1048575 (by kernel_rfl) rfl rfl rfl (op_callV (v := .int .i64 (cmp3 a.second b.second)) rfl rfl rfl rfl rfl ent_46 (fun w _ => w_compare a.second b.second) (DXs.mk (List.Sublist.refl _) ?_))
  refine DX.step 20 2097151 (by kernel_rfl) rfl rfl rfl (op_callV (v := .int .i64 (cmp3 a.id b.id)) rfl rfl rfl rfl rfl ent_46 (fun w _ => w_compare a.id b.id) (DXs.mk (List.Sublist.refl _) ?_))
  refine DX.step 21 4194303 (by kernel_rfl) rfl rfl rfl (op_buildSlice rfl rfl rfl slb_89 rfl rfl (by intro v hv; simp only [List.mem_cons, List.not_mem_nil, or_false] at hv; rcases hv with rfl | rfl | rfl <;> exact ⟨rfl, (plain_of rfl)⟩) (by decide) fun g4 => (DXs.mk (List.Sublist.cons _ (List.Sublist.refl _)) ?_))
  refine DX.step 22 8388607 (by kernel_rfl) rfl rfl rfl (op_callV (v := .int .i64 (firstNZ [cmp3 a.device b.device, cmp3 a.second b.second, cmp3 a.id b.id])) rfl rfl rfl rfl rfl ent_45 (fun w hw => w_or [cmp3 a.device b.device, cmp3 a.second b.second, cmp3 a.id b.id] (Ent.rd (hw.ents _ List.mem_cons_self)) (by simp)) (DXs.mk (List.Sublist.cons _ (List.Sublist.refl _)) ?_))
  refine DX.takeW 23 16777215 (by kernel_rfl) rfl rfl rfl rfl rfl (yw_assign rfl rfl) ?_
  refine DX.done (by kernel_rfl) (XX.next (V' := [(4, .int .i64 (firstNZ [cmp3 a.device b.device, cmp3 a.second b.second, cmp3 a.id b.id]))]) ⟨rfl, trivial⟩ ?_)
  refine CX.ret ?_
  exact ret_tmp rfl rfl fun w1 hw => ⟨rfl, hw.sub (List.nil_sublist _)⟩

set_option maxRecDepth 100000 in
theorem w_of {w : World} (hG : Lens w) (s : Int) (hs : 0 ≤ s ∧ s ≤ 3155759999) :
    Calls Tryd.prog 33 #[.int .i64 s] w (fun e w' => e = .returned (.tuple #[.int .i64 (periodOf s), .int .i64 (dayOf s), .bool true]) ∧ SL w [] w' []) := by
  refine calls_of_CX (O := []) (L := []) (args := [.int .i64 s]) Tryd.func33 rfl (by simp [Tryd.ntmps33]) (SL.refl w) ?_
  refine CX.sub (V' := [(0, .int .i64 s)]) ⟨rfl, trivial⟩ ?_
  refine CX.seq ?_
  refine CX.region ?_
  refine RX.cons rfl rfl (op_w (yw_assign rfl rfl) rfl rfl ?_)
  refine RX.cons rfl rfl (op_w (yw_assign rfl rfl) rfl rfl ?_)
  refine RX.cons rfl rfl (op_w (yw_assign rfl rfl) rfl rfl ?_)
  refine RX.nil (XX.next (V' := [(0, .int .i64 s)]) ⟨rfl, trivial⟩ ?_)
  refine CX.seq ?_
  refine CX.seq ?_
  refine CX.region ?_
  refine RX.cons rfl rfl (op_w (yw_move rfl rfl) rfl rfl ?_)
  refine RX.cons rfl rfl (op_w (yw_lss rfl rfl rfl) rfl rfl ?_)
  refine RX.cons rfl rfl (op_w (yw_move rfl rfl) rfl rfl ?_)
  refine RX.splitD (t := 9) (p := s < 0) rfl (fun d9 => ?_) (fun d9 => ?_)
  · exfalso; omega
  · refine RX.consG rfl rfl rfl rfl rfl (op_w (yw_move rfl rfl) rfl rfl ?_)
    refine RX.consG rfl rfl rfl rfl rfl (op_w (yw_geq rfl rfl rfl) rfl rfl ?_)
    refine RX.cons rfl rfl (op_w (yw_pickF rfl rfl rfl) rfl rfl ?_)
    refine RX.nil (XX.next (V' := [(0, .int .i64 s), (12, .bool (decide (3155760000 ≤ s)))]) ⟨rfl, rfl, trivial⟩ ?_)
    refine CX.condD (p := 3155760000 ≤ s) rfl (fun c12 => ?_) (fun c12 => ?_)
    · exfalso; omega
    · refine CX.skip (XX.next (V' := [(0, .int .i64 s)]) ⟨rfl, trivial⟩ ?_)
      refine CX.seq ?_
      refine CX.region ?_
      refine RX.cons rfl rfl (op_w (yw_move rfl rfl) rfl rfl ?_)
      refine RX.cons rfl rfl (op_w (yw_quo rfl rfl rfl (by omega) (by omega) (by omega)) rfl rfl ?_)
      refine RX.cons rfl rfl (op_w (yw_assign rfl rfl) rfl rfl ?_)
      refine RX.nil (XX.next (V' := [(5, .int .i64 (s / 86400))]) ⟨rfl, trivial⟩ ?_)
      refine CX.seq ?_
      refine CX.region ?_
      refine RX.cons rfl rfl (op_w (yw_move rfl rfl) rfl rfl ?_)
      refine RX.cons rfl rfl (op_w (yw_quo rfl rfl rfl (by omega) (by omega) (by omega)) rfl rfl ?_)
      refine RX.cons rfl rfl (op_w (yw_mul rfl rfl rfl (by omega) (by omega)) rfl rfl ?_)
      refine RX.cons rfl rfl (op_w (yw_assign rfl rfl) rfl rfl ?_)
      refine RX.nil (XX.next (V' := [(5, .int .i64 (s / 86400)), (6, .int .i64 (((s / 86400) / 1461) * 48))]) ⟨rfl, rfl, trivial⟩ ?_)
      refine CX.seq ?_
      refine CX.region ?_
      refine RX.cons rfl rfl (op_w (yw_move rfl rfl) rfl rfl ?_)
      refine RX.cons rfl rfl (op_w (yw_rem rfl rfl rfl (by omega) (by omega)) rfl rfl ?_)
      refine RX.cons rfl rfl (op_w (yw_assign rfl rfl) rfl rfl ?_)
      refine RX.nil (XX.next (V' := [(5, .int .i64 ((s / 86400) % 1461)), (6, .int .i64 (((s / 86400) / 1461) * 48))]) ⟨rfl, rfl, trivial⟩ ?_)
      refine CX.seq ?_
      refine CX.seq ?_
      refine CX.region ?_
      refine RX.cons rfl rfl (op_w (yw_move rfl rfl) rfl rfl ?_)
      refine RX.nil (XX.next (V' := [(5, .int .i64 ((s / 86400) % 1461)), (6, .int .i64 (((s / 86400) / 1461) * 48)), (20, .int .i64 0)]) ⟨rfl, rfl, rfl, trivial⟩ ?_)
      refine CX.block ?_
      refine CX.loop (σ := Nat × Int × Int) (fun x => [(5, .int .i64 x.2.1), (6, .int .i64 x.2.2), (20, .int .i64 ((x.1 : Nat) : Int))]) (fun x => []) (fun x => x.1 ≤ 48 ∧ 0 ≤ x.2.1 ∧ x.2.1 ≤ 1461 ∧ 0 ≤ x.2.2 ∧ x.2.2 ≤ 1200 + (x.1 : Int) ∧ stepMonths (48 - x.1) x.2.1 x.2.2 = stepMonths 48 (s / 86400 % 1461) (s / 86400 / 1461 * 48)) (fun x => 48 - x.1) (0, s / 86400 % 1461, s / 86400 / 1461 * 48) ⟨by dsimp only; omega, by dsimp only; omega, by dsimp only; omega, by dsimp only; omega, by dsimp only; omega, rfl⟩ ⟨rfl, rfl, rfl, trivial⟩ rfl (fun x hI => ?_)
      obtain ⟨k, n, p⟩ := x
      dsimp only at hI ⊢
      obtain ⟨hk, hn0, hn1, hp0, hp1, hf⟩ := hI
      have hd := days_nn p
      have hd2 := days_le p
      refine CX.seq ?_
      refine CX.region ?_
      refine RX.cons rfl rfl (op_w (yw_lss rfl rfl rfl) rfl rfl ?_)
      refine RX.nil (XX.next (V' := [(5, .int .i64 n), (6, .int .i64 p), (20, .int .i64 ((k : Nat) : Int)), (21, .bool (decide (((k : Nat) : Int) < 48)))]) ⟨rfl, rfl, rfl, rfl, trivial⟩ ?_)
      refine CX.seq ?_
      refine CX.condD (p := ((k : Nat) : Int) < 48) rfl (fun c21 => ?_) (fun c21 => ?_)
      · refine CX.skip (XX.next (V' := [(5, .int .i64 n), (6, .int .i64 p), (20, .int .i64 ((k : Nat) : Int))]) ⟨rfl, rfl, rfl, trivial⟩ ?_)
        refine CX.seq ?_
        refine CX.block ?_
        refine CX.seq ?_
        refine CX.seq ?_
        refine CX.region ?_
        refine RX.cons rfl rfl (op_w (yw_move rfl rfl) rfl rfl ?_)
        refine RX.cons rfl rfl (op_w (yw_move rfl rfl) rfl rfl ?_)
        refine RX.cons rfl rfl (op_callV (v := .int .i64 (days p)) rfl rfl rfl rfl rfl ent_43 (fun w hw => w_days (hG.keep hw (by simp)) p) ?_)
        refine RX.cons rfl rfl (op_w (yw_lss rfl rfl rfl) rfl rfl ?_)
        refine RX.nil (XX.next (V' := [(5, .int .i64 n), (6, .int .i64 p), (20, .int .i64 ((k : Nat) : Int)), (25, .bool (decide (n < days p)))]) ⟨rfl, rfl, rfl, rfl, trivial⟩ ?_)
        refine CX.condD (p := n < days p) rfl (fun c25 => ?_) (fun c25 => ?_)
        · refine CX.exit ?_
          refine XX.then_exit ?_
          refine XX.block_pass rfl ?_
          refine XX.then_exit ?_
          refine XX.then_exit ?_
          refine XX.block_exit ?_
          refine XX.next (V' := [(5, .int .i64 n), (6, .int .i64 p)]) ⟨rfl, rfl, trivial⟩ ?_
          refine CX.seq ?_
          refine CX.region ?_
          refine RX.cons rfl rfl (op_w (yw_move rfl rfl) rfl rfl ?_)
          refine RX.cons rfl rfl (op_w (yw_move rfl rfl) rfl rfl ?_)
          refine RX.cons rfl rfl (op_w (yw_add rfl rfl rfl (by omega) (by omega)) rfl rfl ?_)
          refine RX.cons rfl rfl (op_w (yw_assign rfl rfl) rfl rfl ?_)
          refine RX.cons rfl rfl (op_w (yw_assign rfl rfl) rfl rfl ?_)
          refine RX.cons rfl rfl (op_w (yw_assign rfl rfl) rfl rfl ?_)
          refine RX.nil (XX.next (V' := [(2, .int .i64 p), (3, .int .i64 (n + 1)), (4, .bool true)]) ⟨rfl, rfl, rfl, trivial⟩ ?_)
          refine CX.ret ?_
          exact ret_tmp3 rfl rfl rfl rfl fun w1 hw => ⟨by rw [of_done (by omega) hf (.inl c25)], hw.sub (List.nil_sublist _)⟩
        · refine CX.skip (XX.next (V' := [(5, .int .i64 n), (6, .int .i64 p), (20, .int .i64 ((k : Nat) : Int))]) ⟨rfl, rfl, rfl, trivial⟩ ?_)
          refine CX.seq ?_
          refine CX.region ?_
          refine RX.cons rfl rfl (op_w (yw_move rfl rfl) rfl rfl ?_)
          refine RX.cons rfl rfl (op_w (yw_move rfl rfl) rfl rfl ?_)
          refine RX.cons rfl rfl (op_callV (v := .int .i64 (days p)) rfl rfl rfl rfl rfl ent_43 (fun w hw => w_days (hG.keep hw (by simp)) p) ?_)
          refine RX.cons rfl rfl (op_w (yw_sub rfl rfl rfl (by omega) (by omega)) rfl rfl ?_)
          refine RX.cons rfl rfl (op_w (yw_assign rfl rfl) rfl rfl ?_)
          refine RX.nil (XX.next (V' := [(5, .int .i64 (n - (days p))), (6, .int .i64 p), (20, .int .i64 ((k : Nat) : Int))]) ⟨rfl, rfl, rfl, trivial⟩ ?_)
          refine CX.region ?_
          refine RX.cons rfl rfl (op_w (yw_move rfl rfl) rfl rfl ?_)
          refine RX.cons rfl rfl (op_w (yw_add rfl rfl rfl (by omega) (by omega)) rfl rfl ?_)
          refine RX.cons rfl rfl (op_w (yw_assign rfl rfl) rfl rfl ?_)
          refine RX.nil (XX.inBlock (V' := [(5, .int .i64 (n - (days p))), (6, .int .i64 (p + 1)), (20, .int .i64 ((k : Nat) : Int))]) ⟨rfl, rfl, rfl, trivial⟩ ?_)
          refine XX.next (V' := [(5, .int .i64 (n - (days p))), (6, .int .i64 (p + 1)), (20, .int .i64 ((k : Nat) : Int))]) ⟨rfl, rfl, rfl, trivial⟩ ?_
          refine CX.region ?_
          refine RX.cons rfl rfl (op_w (yw_add rfl rfl rfl (by omega) (by omega)) rfl rfl ?_)
          refine RX.cons rfl rfl (op_w (yw_move rfl rfl) rfl rfl ?_)
          refine RX.nil (XX.againP ([]) (k + 1, n - days p, p + 1) (by dsimp only; omega) ⟨by dsimp only; omega, by dsimp only; omega, by dsimp only; omega, by dsimp only; omega, by dsimp only; omega, by dsimp only; rw [← hf, step_more (by omega) c25]⟩ ⟨rfl, rfl, rfl, trivial⟩ (List.Perm.refl _))
      · refine CX.exit ?_
        refine XX.then_exit ?_
        refine XX.then_exit ?_
        refine XX.block_exit ?_
        refine XX.next (V' := [(5, .int .i64 n), (6, .int .i64 p)]) ⟨rfl, rfl, trivial⟩ ?_
        refine CX.seq ?_
        refine CX.region ?_
        refine RX.cons rfl rfl (op_w (yw_move rfl rfl) rfl rfl ?_)
        refine RX.cons rfl rfl (op_w (yw_move rfl rfl) rfl rfl ?_)
        refine RX.cons rfl rfl (op_w (yw_add rfl rfl rfl (by omega) (by omega)) rfl rfl ?_)
        refine RX.cons rfl rfl (op_w (yw_assign rfl rfl) rfl rfl ?_)
        refine RX.cons rfl rfl (op_w (yw_assign rfl rfl) rfl rfl ?_)
        refine RX.cons rfl rfl (op_w (yw_assign rfl rfl) rfl rfl ?_)
        refine RX.nil (XX.next (V' := [(2, .int .i64 p), (3, .int .i64 (n + 1)), (4, .bool true)]) ⟨rfl, rfl, rfl, trivial⟩ ?_)
        refine CX.ret ?_
        exact ret_tmp3 rfl rfl rfl rfl fun w1 hw => ⟨by rw [of_done (by omega) hf (.inr (by omega))], hw.sub (List.nil_sublist _)⟩

end Go.Proofs.YtmndhiaaolfepaaDoor
