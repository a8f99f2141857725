/- Walks, printed by a program. What the rounds over a stream's subjects leave. No program's function in it. Walks, printed by a program. Walks, printed by a program. Marks, as a scan of the rules finds them. No program's function in it. Walks, printed by a program. Walks, printed by a program. -/
import Derived.Test.YtpcfgoadkfajfaaGreatDoorK8
namespace Go.Proofs.YtpcfgoadkfajfaaGreatDoor
set_option linter.all false
open Go Go.RowKit
set_option maxRecDepth 100000
theorem slb_159 : SlB Tryz.prog 159 114 2 16 (.agg (#[.int .i64 0, .int .i64 0])) := ⟨Tryz.underlying159, ⟨(Tryz.prog.info? 114).get!, by kernel_rfl, by kernel_rfl, by kernel_rfl, by kernel_rfl⟩, by decide, by decide⟩
theorem one_65 : One Tryz.prog 65 := ⟨_, Tryz.underlying65, rfl⟩
theorem fld_110_1 : Fld Tryz.prog 110 1 1 := ⟨_, _, (Tryz.prog.info? 97).get!, Tryz.underlying110, rfl, rfl, by kernel_rfl, by decide +kernel⟩
theorem one_97 : One Tryz.prog 97 := ⟨_, Tryz.underlying97, rfl⟩
theorem slt_159 : SlT Tryz.prog 159 114 2 := ⟨(Tryz.prog.info? 114).get!, Tryz.underlying159, by kernel_rfl, by kernel_rfl⟩
theorem zero_114 : Zero Tryz.prog 114 (.agg (#[.int .i64 0, .int .i64 0])) := ⟨(Tryz.prog.info? 114).get!, by kernel_rfl, by kernel_rfl⟩
theorem szt_114 : SzT Tryz.prog 114 2 := ⟨(Tryz.prog.info? 114).get!, by kernel_rfl, by kernel_rfl⟩
/-- A subject in memory. -/
abbrev sjC (x : Int × Int) : Array Value := #[.int .i64 x.1, .int .i64 x.2]
theorem take_map_get {α β : Type} {f : α → β} {l : List α} {i : Nat} {x : α} (h : l[i]? = some x) : (l.map f).take (i + 1) = (l.map f).take i ++ [f x] := take_succ (map_get h)
set_option maxRecDepth 100000 in
theorem w_subjects1 {w : World} {l gs gf gF gcl : Nat} {O : List Nat} {σ : Type} {St : σ → List Ent} {pre : σ → Prop} {Rl : σ → Value → σ → Bool → Prop} {ok : Value → Prop} (s0 : σ) (s : Sm) (kvc : List (Int × Int)) (hy : YieldB Tryz.prog w O l St pre Rl ok) (hpre : ∀ (i : Nat) (st : σ), i < (subs kvc s).length → Upto Rl s0 (((subs kvc s).map key2).take i) st → pre st) (hok : ∀ x ∈ (subs kvc s), ok (key2 x)) (hgF : ∀ w', SL w O w' ([.blk gs (.cells (smC s) 39 (0, 0)), .blk gf (.cells (#[.pointer (some ⟨gF, 0, none⟩)]) 65 (0, 0)), kmap (fun x : Int => Value.int .i64 x) (fun x : Int => Value.int .i64 x) gcl kvc] ++ St s0) → w'.cell? ⟨gF, 1, none⟩ = some (.map (some gcl))) (hs : SL w O w ([.blk gs (.cells (smC s) 39 (0, 0)), .blk gf (.cells (#[.pointer (some ⟨gF, 0, none⟩)]) 65 (0, 0)), kmap (fun x : Int => Value.int .i64 x) (fun x : Int => Value.int .i64 x) gcl kvc] ++ St s0)) :
    Calls Tryz.prog 99 #[.func (.yield l) #[] #[], .pointer (some ⟨gs, 0, none⟩), .pointer (some ⟨gf, 0, none⟩)] w (fun e w' => ∃ s' : σ, Went Rl s0 ((subs kvc s).map key2) s' ∧ e = .returned (.tuple #[]) ∧ SL w O w' ([.blk gs (.cells (smC s) 39 (0, 0)), .blk gf (.cells (#[.pointer (some ⟨gF, 0, none⟩)]) 65 (0, 0)), kmap (fun x : Int => Value.int .i64 x) (fun x : Int => Value.int .i64 x) gcl kvc] ++ St s')) := by
 refine calls_of_CX (O := O) (L := ([.blk gs (.cells (smC s) 39 (0, 0)), .blk gf (.cells (#[.pointer (some ⟨gF, 0, none⟩)]) 65 (0, 0)), kmap (fun x : Int => Value.int .i64 x) (fun x : Int => Value.int .i64 x) gcl kvc] ++ (St s0))) (args := [.func (.yield l) #[] #[], .pointer (some ⟨gs, 0, none⟩), .pointer (some ⟨gf, 0, none⟩)]) Tryz.func99 rfl (by simp [Tryz.ntmps99]) hs ?_
 refine CX.sub (V' := [(0, .func (.yield l) #[] #[]), (1, .pointer (some ⟨gs, 0, none⟩)), (2, .pointer (some ⟨gf, 0, none⟩))]) ⟨rfl, rfl, rfl, trivial⟩ ?_
 refine CX.scope ?_
 refine CX.seq ?_
 refine CX.region ?_
 refine RX.cons rfl rfl (op_w (yw_fieldAddr rfl fld_39_2 rfl) rfl rfl ?_)
 refine RX.cons rfl rfl (op_yld (y_load (i := 0) rfl rfl one_3 rfl rfl) rfl rfl ?_)
 refine RX.cons rfl rfl (op_w (yw_build (v := .agg (#[.int .i64 1, .int .i64 (Sm.acc s)])) rfl rfl (fun _ => by kernel_rfl)) rfl rfl ?_)
 refine RX.cons rfl rfl (op_w (yw_field0 rfl fld_39_0 rfl) rfl rfl ?_)
 refine RX.cons rfl rfl (op_yld (y_load (i := 0) rfl rfl one_3 rfl rfl) rfl rfl ?_)
 refine RX.cons rfl rfl (op_w (yw_build (v := .agg (#[.int .i64 2, .int .i64 (Sm.dev s)])) rfl rfl (fun _ => by kernel_rfl)) rfl rfl ?_)
 refine RX.cons rfl rfl (op_buildSlice rfl rfl rfl slb_159 rfl rfl (by intro v hv; simp only [List.mem_cons, List.not_mem_nil, or_false] at hv; rcases hv with rfl | rfl <;> exact ⟨rfl, (plain_of rfl)⟩) (by decide) fun qr => ?_)
 refine RX.cons rfl rfl (op_w (yw_assign rfl rfl) rfl rfl ?_)
 refine RX.nil (XX.next (V' := [(0, _), (1, _), (2, _), (4, _)]) ⟨rfl, rfl, rfl, rfl, trivial⟩ ?_)
 refine CX.seq ?_
 refine CX.seq ?_
 rcases hk : kget (Sm.acc s) kvc with _ | c
 ·refine CX.draw 12 [(0, 4, 131072), (1, 131072, 262144), (2, 262144, 524288), (4, 524288, 1048576), (0, 2, 2097152), (16, 2097152, 4194304), (40, 5242880, 8388608), (64, 8388608, 65536), (128, 65536, 16777216), (128, 65536, 33554432), (511, 16777216, 32), (2047, 33554432, 64)] (by kernel_rfl) (by kernel_rfl) (by kernel_rfl) ?_
  refine DX.take 0 1 (by kernel_rfl) rfl rfl rfl rfl rfl (List.Sublist.refl _) (y_load (i := 2) rfl rfl one_65 rfl rfl) ?_
  refine DX.takeW 1 3 (by kernel_rfl) rfl rfl rfl rfl rfl (yw_nilCheck rfl rfl) ?_
  refine DX.takeW 2 7 (by kernel_rfl) rfl rfl rfl rfl rfl (yw_fieldAddr rfl fld_110_1 rfl) ?_
  refine DX.take 3 15 (by kernel_rfl) rfl rfl rfl rfl rfl (List.Sublist.refl _) (y_loadH (v := .map (some gcl)) rfl rfl one_97 (fun w' hw' => hgF w' (hw'.sub (List.Sublist.cons _ (List.Sublist.refl _))))) ?_
  refine DX.takeW 4 31 (by kernel_rfl) rfl rfl rfl rfl rfl (yw_fieldAddr rfl fld_39_2 rfl) ?_
  refine DX.take 5 63 (by kernel_rfl) rfl rfl rfl rfl rfl (List.Sublist.refl _) (y_load (i := 1) rfl rfl one_3 rfl rfl) ?_
  refine DX.take 6 127 (by kernel_rfl) rfl rfl rfl rfl rfl (List.Sublist.refl _) (y_klookupOk (i := 3) (k := Sm.acc s) (kv := kvc) (encK := (fun x : Int => Value.int .i64 x)) (encV := (fun x : Int => Value.int .i64 x)) rfl rfl rfl kmapt_97 rfl) ?_
  refine DX.know (t := 23) (u := .tuple #[.int .i64 0, .bool false]) rfl (by rw [hk]; rfl) ?_
  refine DX.takeW 7 255 (by kernel_rfl) rfl rfl rfl rfl rfl (yw_move rfl rfl) ?_
  refine DX.takeW 8 511 (by kernel_rfl) rfl rfl rfl rfl rfl (yw_extract rfl rfl rfl) ?_
  refine DX.takeW 9 1023 (by kernel_rfl) rfl rfl rfl rfl rfl (yw_extract rfl rfl rfl) ?_
  refine DX.takeW 10 2047 (by kernel_rfl) rfl rfl rfl rfl rfl (yw_assign rfl rfl) ?_
  refine DX.takeW 11 4095 (by kernel_rfl) rfl rfl rfl rfl rfl (yw_assign rfl rfl) ?_
  refine DX.done (by kernel_rfl) (XX.next (V' := [(0, _), (4, _), (5, _), (6, _)]) ⟨rfl, rfl, rfl, rfl, trivial⟩ ?_)
  refine CX.seq ?_
  refine CX.region ?_
  refine RX.cons rfl rfl (op_w (yw_move rfl rfl) rfl rfl ?_)
  refine RX.nil (XX.next (V' := [(0, _), (4, _), (5, _), (26, _)]) ⟨rfl, rfl, rfl, rfl, trivial⟩ ?_)
  refine CX.condF rfl ?_
  refine CX.skip (XX.next (V' := [(0, _), (4, _)]) ⟨rfl, rfl, trivial⟩ ?_)
  refine CX.seq ?_
  refine CX.label (XX.next (V' := [(0, _), (4, _)]) ⟨rfl, rfl, trivial⟩ ?_)
  refine CX.seq ?_
  have hsb : subs kvc s = [((1 : Int), Sm.acc s), ((2 : Int), Sm.dev s)] := by unfold subs; rw [hk]; rfl
  have hsl : (subs kvc s).length ≤ 3 := by rw [hsb]; simp
  refine CX.drop (L' := ([.row (some ⟨qr, 0, none⟩) 2 114 2 (List.map sjC ([((1 : Int), Sm.acc s), ((2 : Int), Sm.dev s)])), .blk gs (.cells (smC s) 39 (0, 0)), .blk gf (.cells (#[.pointer (some ⟨gF, 0, none⟩)]) 65 (0, 0)), kmap (fun x : Int => Value.int .i64 x) (fun x : Int => Value.int .i64 x) gcl kvc] ++ (St s0))) (List.Sublist.refl _) ?_
  refine CX.ents (L' := ([.row (some ⟨qr, 0, none⟩) 2 114 2 (List.map sjC (subs kvc s)), .blk gs (.cells (smC s) 39 (0, 0)), .blk gf (.cells (#[.pointer (some ⟨gF, 0, none⟩)]) 65 (0, 0)), kmap (fun x : Int => Value.int .i64 x) (fun x : Int => Value.int .i64 x) gcl kvc] ++ (St s0))) (by rw [hsb]) ?_
  refine CX.know (t := 4) (u := .slice (some ⟨qr, 0, none⟩) (List.length ((subs kvc s) : List (Int × Int))) 2) rfl (by rw [hsb] <;> rfl) ?_
  refine CX.region ?_
  refine RX.cons rfl rfl (op_w (yw_move rfl rfl) rfl rfl ?_)
  refine RX.cons rfl rfl (op_w (yw_lenS rfl Tryz.underlying159 rfl) rfl rfl ?_)
  refine RX.cons rfl rfl (op_w (yw_move rfl rfl) rfl rfl ?_)
  refine RX.nil (XX.next (V' := [(0, _), (32, _), (33, _), (34, _)]) ⟨rfl, rfl, rfl, rfl, trivial⟩ ?_)
  refine CX.block ?_
  refine CX.loop (σ := Nat × σ) (fun z => [(0, .func (.yield l) #[] #[]), (32, .slice (some ⟨qr, 0, none⟩) (List.length ((subs kvc s) : List (Int × Int))) 2), (33, .int .i64 ((List.length ((subs kvc s) : List (Int × Int)) : Nat) : Int)), (34, .int .i64 ((z.1 : Nat) : Int))]) (fun z => ([.row (some ⟨qr, 0, none⟩) 2 114 2 (List.map sjC (subs kvc s)), .blk gs (.cells (smC s) 39 (0, 0)), .blk gf (.cells (#[.pointer (some ⟨gF, 0, none⟩)]) 65 (0, 0)), kmap (fun x : Int => Value.int .i64 x) (fun x : Int => Value.int .i64 x) gcl kvc] ++ (St z.2))) (fun z => z.1 ≤ (subs kvc s).length ∧ Upto Rl s0 (((subs kvc s).map key2).take z.1) z.2) (fun z => (subs kvc s).length - z.1) (0, s0) ⟨Nat.zero_le _, .nil s0⟩ ⟨rfl, rfl, rfl, rfl, trivial⟩ rfl (fun z hI => ?_)
  obtain ⟨i, st⟩ := z
  dsimp only at hI ⊢
  obtain ⟨hi, hup⟩ := hI
  refine CX.seq ?_
  refine CX.region ?_
  refine RX.cons rfl rfl (op_w (yw_lss rfl rfl rfl) rfl rfl ?_)
  refine RX.nil (XX.next (V' := [(0, _), (32, _), (33, _), (34, _), (35, _)]) ⟨rfl, rfl, rfl, rfl, rfl, trivial⟩ ?_)
  refine CX.seq ?_
  refine CX.condD (p := ((i : Nat) : Int) < ((List.length ((subs kvc s) : List (Int × Int)) : Nat) : Int)) rfl (fun c35 => ?_) (fun c35 => ?_)
  ·obtain ⟨x0, hx0⟩ := get_some (l := (subs kvc s)) (k := i) (by omega)
   have hx0m := List.mem_of_getElem? hx0
   refine CX.rowSome 0 rfl (by rw [List.length_map]; omega) (fun hA => ?_)
   refine CX.skip (XX.next (V' := [(0, _), (32, _), (33, _), (34, _)]) ⟨rfl, rfl, rfl, rfl, trivial⟩ ?_)
   refine CX.seq ?_
   refine CX.block ?_
   refine CX.seq ?_
   refine CX.region ?_
   refine RX.cons rfl rfl (op_w (yw_index (k := i) rfl slt_159 rfl rfl (by omega) (by omega) hA) rfl rfl ?_)
   refine RX.cons rfl rfl (op_yld (y_rowElem (i := 0) rfl rfl agg_114 rfl (map_get hx0)) rfl rfl ?_)
   refine RX.cons rfl rfl (op_alloc rfl rfl rfl zero_114 fun gx => ?_)
   refine RX.cons rfl rfl (op_storeAll (i := 0) rfl rfl rfl rfl szt_114 rfl (plain_of rfl) rfl rfl ?_)
   refine RX.nil (XX.next (V' := [(0, _), (8, _), (32, _), (33, _), (34, _)]) ⟨rfl, rfl, rfl, rfl, rfl, trivial⟩ ?_)
   refine CX.seq ?_
   refine CX.region ?_
   refine RX.cons rfl rfl (op_w (yw_move rfl rfl) rfl rfl ?_)
   refine RX.cons rfl rfl (op_yld (y_loadA (i := 0) rfl rfl agg_114 rfl rfl) rfl rfl ?_)
   refine RX.cons rfl rfl (op_yieldB st [.blk gx (.cells (sjC x0) 114 (0, 0)), .row (some ⟨qr, 0, none⟩) 2 114 2 (List.map sjC (subs kvc s)), .blk gs (.cells (smC s) 39 (0, 0)), .blk gf (.cells (#[.pointer (some ⟨gF, 0, none⟩)]) 65 (0, 0)), kmap (fun x : Int => Value.int .i64 x) (fun x : Int => Value.int .i64 x) gcl kvc] hy (hpre i st (by omega) hup) rfl rfl rfl rfl rfl (hok x0 hx0m) rfl (fun s' b hs' => ?_))
   refine RX.cons rfl rfl (op_w (yw_not rfl rfl) rfl rfl ?_)
   refine RX.nil (XX.next (V' := [(0, _), (32, _), (33, _), (34, _), (41, _)]) ⟨rfl, rfl, rfl, rfl, rfl, trivial⟩ ?_)
   refine CX.cond (b := !b) rfl (fun c41 => ?_) (fun c41 => ?_)
   ·refine CX.exit ?_
    refine XX.block_pass rfl ?_
    refine XX.then_exit ?_
    refine XX.then_exit ?_
    refine XX.block_exit ?_
    refine XX.scope_normal ?_
    exact end_none rfl fun w1 hw => ⟨s', .inr ⟨i, key2 x0, st, map_get hx0, hup, by rw [show b = false from by simpa using c41] at hs'; exact hs'⟩, rfl, hw.sub (List.Sublist.cons _ (List.Sublist.cons _ (List.Sublist.refl _)))⟩
   ·refine CX.skip (XX.inBlock (V' := [(0, _), (32, _), (33, _), (34, _)]) ⟨rfl, rfl, rfl, rfl, trivial⟩ ?_)
    refine XX.next (V' := [(0, _), (32, _), (33, _), (34, _)]) ⟨rfl, rfl, rfl, rfl, trivial⟩ ?_
    refine CX.drop (L' := ([.row (some ⟨qr, 0, none⟩) 2 114 2 (List.map sjC (subs kvc s)), .blk gs (.cells (smC s) 39 (0, 0)), .blk gf (.cells (#[.pointer (some ⟨gF, 0, none⟩)]) 65 (0, 0)), kmap (fun x : Int => Value.int .i64 x) (fun x : Int => Value.int .i64 x) gcl kvc] ++ (St s'))) (List.Sublist.cons _ (List.Sublist.refl _)) ?_
    refine CX.region ?_
    refine RX.cons rfl rfl (op_w (yw_add rfl rfl rfl (by omega) (by omega)) rfl rfl ?_)
    refine RX.cons rfl rfl (op_w (yw_move rfl rfl) rfl rfl ?_)
    refine RX.nil (XX.againP ([]) (i + 1, s') (by dsimp only; omega) ⟨by dsimp only; omega, by dsimp only; rw [take_map_get hx0]; rw [show b = true from by simpa using c41] at hs'; exact .snoc hup hs'⟩ ⟨rfl, rfl, rfl, rfl, trivial⟩ (perm_nil _))
  ·refine CX.exit ?_
   refine XX.then_exit ?_
   refine XX.then_exit ?_
   refine XX.block_exit ?_
   refine XX.scope_normal ?_
   exact end_none rfl fun w1 hw => ⟨st, .inl (by rw [List.take_of_length_le (by rw [List.length_map]; omega)] at hup; exact hup), rfl, hw.sub (List.Sublist.cons _ (List.Sublist.refl _))⟩
 ·refine CX.draw 12 [(0, 4, 131072), (1, 131072, 262144), (2, 262144, 524288), (4, 524288, 1048576), (0, 2, 2097152), (16, 2097152, 4194304), (40, 5242880, 8388608), (64, 8388608, 65536), (128, 65536, 16777216), (128, 65536, 33554432), (511, 16777216, 32), (2047, 33554432, 64)] (by kernel_rfl) (by kernel_rfl) (by kernel_rfl) ?_
  refine DX.take 0 1 (by kernel_rfl) rfl rfl rfl rfl rfl (List.Sublist.refl _) (y_load (i := 2) rfl rfl one_65 rfl rfl) ?_
  refine DX.takeW 1 3 (by kernel_rfl) rfl rfl rfl rfl rfl (yw_nilCheck rfl rfl) ?_
  refine DX.takeW 2 7 (by kernel_rfl) rfl rfl rfl rfl rfl (yw_fieldAddr rfl fld_110_1 rfl) ?_
  refine DX.take 3 15 (by kernel_rfl) rfl rfl rfl rfl rfl (List.Sublist.refl _) (y_loadH (v := .map (some gcl)) rfl rfl one_97 (fun w' hw' => hgF w' (hw'.sub (List.Sublist.cons _ (List.Sublist.refl _))))) ?_
  refine DX.takeW 4 31 (by kernel_rfl) rfl rfl rfl rfl rfl (yw_fieldAddr rfl fld_39_2 rfl) ?_
  refine DX.take 5 63 (by kernel_rfl) rfl rfl rfl rfl rfl (List.Sublist.refl _) (y_load (i := 1) rfl rfl one_3 rfl rfl) ?_
  refine DX.take 6 127 (by kernel_rfl) rfl rfl rfl rfl rfl (List.Sublist.refl _) (y_klookupOk (i := 3) (k := Sm.acc s) (kv := kvc) (encK := (fun x : Int => Value.int .i64 x)) (encV := (fun x : Int => Value.int .i64 x)) rfl rfl rfl kmapt_97 rfl) ?_
  refine DX.know (t := 23) (u := .tuple #[.int .i64 c, .bool true]) rfl (by rw [hk]; rfl) ?_
  refine DX.takeW 7 255 (by kernel_rfl) rfl rfl rfl rfl rfl (yw_move rfl rfl) ?_
  refine DX.takeW 8 511 (by kernel_rfl) rfl rfl rfl rfl rfl (yw_extract rfl rfl rfl) ?_
  refine DX.takeW 9 1023 (by kernel_rfl) rfl rfl rfl rfl rfl (yw_extract rfl rfl rfl) ?_
  refine DX.takeW 10 2047 (by kernel_rfl) rfl rfl rfl rfl rfl (yw_assign rfl rfl) ?_
  refine DX.takeW 11 4095 (by kernel_rfl) rfl rfl rfl rfl rfl (yw_assign rfl rfl) ?_
  refine DX.done (by kernel_rfl) (XX.next (V' := [(0, _), (4, _), (5, _), (6, _)]) ⟨rfl, rfl, rfl, rfl, trivial⟩ ?_)
  refine CX.seq ?_
  refine CX.region ?_
  refine RX.cons rfl rfl (op_w (yw_move rfl rfl) rfl rfl ?_)
  refine RX.nil (XX.next (V' := [(0, _), (4, _), (5, _), (26, _)]) ⟨rfl, rfl, rfl, rfl, trivial⟩ ?_)
  refine CX.condT rfl ?_
  refine CX.region ?_
  refine RX.cons rfl rfl (op_w (yw_move rfl rfl) rfl rfl ?_)
  refine RX.cons rfl rfl (op_w (yw_move rfl rfl) rfl rfl ?_)
  refine RX.cons rfl rfl (op_w (yw_build (v := .agg (#[.int .i64 3, .int .i64 c])) rfl rfl (fun _ => by kernel_rfl)) rfl rfl ?_)
  refine RX.cons rfl rfl (op_buildSlice rfl rfl rfl slb_159 rfl rfl (by intro v hv; simp only [List.mem_cons, List.not_mem_nil, or_false] at hv; subst hv; exact ⟨rfl, (plain_of rfl)⟩) (by decide) fun g8 => ?_)
  refine RX.cons rfl rfl (op_appendM sjC (i := 1) (j := 0) (xs := [((1 : Int), Sm.acc s), ((2 : Int), Sm.dev s)]) ([((3 : Int), c)]) rfl rfl rfl slb_159 rfl rfl rfl rfl rfl rfl (by simp <;> omega) (by simp <;> omega) fun A1 c1 => ?_)
  refine RX.cons rfl rfl (op_w (yw_assign rfl rfl) rfl rfl ?_)
  refine RX.nil (XX.next (V' := [(0, _), (4, _)]) ⟨rfl, rfl, trivial⟩ ?_)
  refine CX.seq ?_
  refine CX.label (XX.next (V' := [(0, _), (4, _)]) ⟨rfl, rfl, trivial⟩ ?_)
  refine CX.seq ?_
  have hsb : subs kvc s = [((1 : Int), Sm.acc s), ((2 : Int), Sm.dev s)] ++ [((3 : Int), c)] := by unfold subs; rw [hk]; rfl
  have hsl : (subs kvc s).length ≤ 3 := by rw [hsb]; simp
  refine CX.drop (L' := ([.row A1 c1 114 2 (List.map sjC ([((1 : Int), Sm.acc s), ((2 : Int), Sm.dev s)] ++ [((3 : Int), c)])), .blk gs (.cells (smC s) 39 (0, 0)), .blk gf (.cells (#[.pointer (some ⟨gF, 0, none⟩)]) 65 (0, 0)), kmap (fun x : Int => Value.int .i64 x) (fun x : Int => Value.int .i64 x) gcl kvc] ++ (St s0))) (List.Sublist.cons _ (List.Sublist.refl _)) ?_
  refine CX.ents (L' := ([.row A1 c1 114 2 (List.map sjC (subs kvc s)), .blk gs (.cells (smC s) 39 (0, 0)), .blk gf (.cells (#[.pointer (some ⟨gF, 0, none⟩)]) 65 (0, 0)), kmap (fun x : Int => Value.int .i64 x) (fun x : Int => Value.int .i64 x) gcl kvc] ++ (St s0))) (by rw [hsb]) ?_
  refine CX.know (t := 4) (u := .slice A1 (List.length ((subs kvc s) : List (Int × Int))) c1) rfl (by rw [hsb] <;> rfl) ?_
  refine CX.region ?_
  refine RX.cons rfl rfl (op_w (yw_move rfl rfl) rfl rfl ?_)
  refine RX.cons rfl rfl (op_w (yw_lenS rfl Tryz.underlying159 rfl) rfl rfl ?_)
  refine RX.cons rfl rfl (op_w (yw_move rfl rfl) rfl rfl ?_)
  refine RX.nil (XX.next (V' := [(0, _), (32, _), (33, _), (34, _)]) ⟨rfl, rfl, rfl, rfl, trivial⟩ ?_)
  refine CX.block ?_
  refine CX.loop (σ := Nat × σ) (fun z => [(0, .func (.yield l) #[] #[]), (32, .slice A1 (List.length ((subs kvc s) : List (Int × Int))) c1), (33, .int .i64 ((List.length ((subs kvc s) : List (Int × Int)) : Nat) : Int)), (34, .int .i64 ((z.1 : Nat) : Int))]) (fun z => ([.row A1 c1 114 2 (List.map sjC (subs kvc s)), .blk gs (.cells (smC s) 39 (0, 0)), .blk gf (.cells (#[.pointer (some ⟨gF, 0, none⟩)]) 65 (0, 0)), kmap (fun x : Int => Value.int .i64 x) (fun x : Int => Value.int .i64 x) gcl kvc] ++ (St z.2))) (fun z => z.1 ≤ (subs kvc s).length ∧ Upto Rl s0 (((subs kvc s).map key2).take z.1) z.2) (fun z => (subs kvc s).length - z.1) (0, s0) ⟨Nat.zero_le _, .nil s0⟩ ⟨rfl, rfl, rfl, rfl, trivial⟩ rfl (fun z hI => ?_)
  obtain ⟨i, st⟩ := z
  dsimp only at hI ⊢
  obtain ⟨hi, hup⟩ := hI
  refine CX.seq ?_
  refine CX.region ?_
  refine RX.cons rfl rfl (op_w (yw_lss rfl rfl rfl) rfl rfl ?_)
  refine RX.nil (XX.next (V' := [(0, _), (32, _), (33, _), (34, _), (35, _)]) ⟨rfl, rfl, rfl, rfl, rfl, trivial⟩ ?_)
  refine CX.seq ?_
  refine CX.condD (p := ((i : Nat) : Int) < ((List.length ((subs kvc s) : List (Int × Int)) : Nat) : Int)) rfl (fun c35 => ?_) (fun c35 => ?_)
  ·obtain ⟨x0, hx0⟩ := get_some (l := (subs kvc s)) (k := i) (by omega)
   have hx0m := List.mem_of_getElem? hx0
   refine CX.rowSome 0 rfl (by rw [List.length_map]; omega) (fun hA => ?_)
   refine CX.skip (XX.next (V' := [(0, _), (32, _), (33, _), (34, _)]) ⟨rfl, rfl, rfl, rfl, trivial⟩ ?_)
   refine CX.seq ?_
   refine CX.block ?_
   refine CX.seq ?_
   refine CX.region ?_
   refine RX.cons rfl rfl (op_w (yw_index (k := i) rfl slt_159 rfl rfl (by omega) (by omega) hA) rfl rfl ?_)
   refine RX.cons rfl rfl (op_yld (y_rowElem (i := 0) rfl rfl agg_114 rfl (map_get hx0)) rfl rfl ?_)
   refine RX.cons rfl rfl (op_alloc rfl rfl rfl zero_114 fun gx => ?_)
   refine RX.cons rfl rfl (op_storeAll (i := 0) rfl rfl rfl rfl szt_114 rfl (plain_of rfl) rfl rfl ?_)
   refine RX.nil (XX.next (V' := [(0, _), (8, _), (32, _), (33, _), (34, _)]) ⟨rfl, rfl, rfl, rfl, rfl, trivial⟩ ?_)
   refine CX.seq ?_
   refine CX.region ?_
   refine RX.cons rfl rfl (op_w (yw_move rfl rfl) rfl rfl ?_)
   refine RX.cons rfl rfl (op_yld (y_loadA (i := 0) rfl rfl agg_114 rfl rfl) rfl rfl ?_)
   refine RX.cons rfl rfl (op_yieldB st [.blk gx (.cells (sjC x0) 114 (0, 0)), .row A1 c1 114 2 (List.map sjC (subs kvc s)), .blk gs (.cells (smC s) 39 (0, 0)), .blk gf (.cells (#[.pointer (some ⟨gF, 0, none⟩)]) 65 (0, 0)), kmap (fun x : Int => Value.int .i64 x) (fun x : Int => Value.int .i64 x) gcl kvc] hy (hpre i st (by omega) hup) rfl rfl rfl rfl rfl (hok x0 hx0m) rfl (fun s' b hs' => ?_))
   refine RX.cons rfl rfl (op_w (yw_not rfl rfl) rfl rfl ?_)
   refine RX.nil (XX.next (V' := [(0, _), (32, _), (33, _), (34, _), (41, _)]) ⟨rfl, rfl, rfl, rfl, rfl, trivial⟩ ?_)
   refine CX.cond (b := !b) rfl (fun c41 => ?_) (fun c41 => ?_)
   ·refine CX.exit ?_
    refine XX.block_pass rfl ?_
    refine XX.then_exit ?_
    refine XX.then_exit ?_
    refine XX.block_exit ?_
    refine XX.scope_normal ?_
    exact end_none rfl fun w1 hw => ⟨s', .inr ⟨i, key2 x0, st, map_get hx0, hup, by rw [show b = false from by simpa using c41] at hs'; exact hs'⟩, rfl, hw.sub (List.Sublist.cons _ (List.Sublist.cons _ (List.Sublist.refl _)))⟩
   ·refine CX.skip (XX.inBlock (V' := [(0, _), (32, _), (33, _), (34, _)]) ⟨rfl, rfl, rfl, rfl, trivial⟩ ?_)
    refine XX.next (V' := [(0, _), (32, _), (33, _), (34, _)]) ⟨rfl, rfl, rfl, rfl, trivial⟩ ?_
    refine CX.drop (L' := ([.row A1 c1 114 2 (List.map sjC (subs kvc s)), .blk gs (.cells (smC s) 39 (0, 0)), .blk gf (.cells (#[.pointer (some ⟨gF, 0, none⟩)]) 65 (0, 0)), kmap (fun x : Int => Value.int .i64 x) (fun x : Int => Value.int .i64 x) gcl kvc] ++ (St s'))) (List.Sublist.cons _ (List.Sublist.refl _)) ?_
    refine CX.region ?_
    refine RX.cons rfl rfl (op_w (yw_add rfl rfl rfl (by omega) (by omega)) rfl rfl ?_)
    refine RX.cons rfl rfl (op_w (yw_move rfl rfl) rfl rfl ?_)
    refine RX.nil (XX.againP ([]) (i + 1, s') (by dsimp only; omega) ⟨by dsimp only; omega, by dsimp only; rw [take_map_get hx0]; rw [show b = true from by simpa using c41] at hs'; exact .snoc hup hs'⟩ ⟨rfl, rfl, rfl, rfl, trivial⟩ (perm_nil _))
  ·refine CX.exit ?_
   refine XX.then_exit ?_
   refine XX.then_exit ?_
   refine XX.block_exit ?_
   refine XX.scope_normal ?_
   exact end_none rfl fun w1 hw => ⟨st, .inl (by rw [List.take_of_length_le (by rw [List.length_map]; omega)] at hup; exact hup), rfl, hw.sub (List.Sublist.cons _ (List.Sublist.refl _))⟩

end Go.Proofs.YtpcfgoadkfajfaaGreatDoor
namespace Go.Proofs.YtpcfgoadkfajfaaGreatDoor
set_option linter.all false
open Go Go.RowKit
theorem key2_inj {a b : Int × Int} (h : key2 a = key2 b) : a = b := by
  simp only [key2, Value.agg.injEq] at h
  have h1 := congrArg Array.toList h
  simp at h1
  exact Prod.ext h1.1 h1.2
/-- A round puts the stream into a group. -/
def RLp (s : Sm) (h : List ((Int × Int) × Sg)) (x : Value) (h' : List ((Int × Int) × Sg)) (b : Bool) : Prop := b = true ∧ ∀ y, x = key2 y → ∃ z, h' = kset y (z, grpOf y h ++ [s]) h
theorem upto_put {s : Sm} {kv h : List ((Int × Int) × Sg)} {xs : List Value} (hu : Upto (RLp s) kv xs h) : ∀ ys : List (Int × Int), xs = ys.map key2 → ∀ y : Int × Int, grpOf y h = grpOf y kv ++ List.replicate (ys.count y) s := by
  induction hu with
  | nil => intro ys hys y; rw [List.map_eq_nil_iff.1 hys.symm]; simp
  | @snoc k1 k2 xs x _ hr ih =>
    intro ys hys y
    obtain ⟨l1, l2, rfl, h1, h2⟩ := List.map_eq_append_iff.1 hys.symm
    obtain ⟨y0, l3, rfl, h3, h4⟩ := List.map_eq_cons_iff.1 h2
    rw [List.map_eq_nil_iff] at h4
    subst h4
    obtain ⟨z, rfl⟩ := hr.2 y0 h3.symm
    have ih' := ih l1 h1.symm
    rw [grpOf_kset, List.count_append, ← List.replicate_append_replicate, ← List.append_assoc]
    split
    · rename_i e; subst e
      rw [← ih' y]; simp
    · rename_i e
      rw [← ih' y, List.count_eq_zero.2 (by simpa using e)]; simp
theorem subs_nodup (kvc : List (Int × Int)) (s : Sm) : (subs kvc s).Nodup := by
  unfold subs
  cases kget s.acc kvc <;> simp
theorem subs_len (kvc : List (Int × Int)) (s : Sm) : (subs kvc s).length ≤ 3 := by
  unfold subs
  cases kget s.acc kvc <;> simp
theorem upto_len {s : Sm} {kv h : List ((Int × Int) × Sg)} {kvc : List (Int × Int)} {i : Nat} (hu : Upto (RLp s) kv (((subs kvc s).map key2).take i) h) {n : Nat} (hn : ∀ y, (grpOf y kv).length ≤ n) : ∀ y, (grpOf y h).length ≤ n + 3 := by
  intro y
  rw [upto_put hu ((subs kvc s).take i) (List.map_take ..).symm y, List.length_append, List.length_replicate]
  have h1 := List.count_le_length (a := y) (l := (subs kvc s).take i)
  have h2 : ((subs kvc s).take i).length ≤ (subs kvc s).length := by rw [List.length_take]; omega
  have h3 := subs_len kvc s
  have := hn y
  omega
theorem went_put {s : Sm} {kv h : List ((Int × Int) × Sg)} {kvc : List (Int × Int)} (hw : Went (RLp s) kv ((subs kvc s).map key2) h) (y : Int × Int) : grpOf y h = if y ∈ subs kvc s then grpOf y kv ++ [s] else grpOf y kv := by
  rcases hw with hu | ⟨i, x, st, _, _, hr⟩
  · rw [upto_put hu _ rfl y, (subs_nodup kvc s).count]
    split <;> simp
  · exact absurd hr.1 (by decide)
/-- The groups of the first streams of a list. -/
def GsOk (l : List Sm) (kvc : List (Int × Int)) (kv : List ((Int × Int) × Sg)) : Prop := ∀ y, grpOf y kv = l.filter fun t => decide (y ∈ subs kvc t)
theorem GsOk.nil (kvc : List (Int × Int)) : GsOk [] kvc [] := fun _ => rfl
theorem GsOk.snoc {l : List Sm} {s : Sm} {kvc : List (Int × Int)} {kv h : List ((Int × Int) × Sg)} (hg : GsOk l kvc kv) (hw : ∀ y, grpOf y h = if y ∈ subs kvc s then grpOf y kv ++ [s] else grpOf y kv) : GsOk (l ++ [s]) kvc h := fun y => by
  rw [hw, hg y, List.filter_append]
  by_cases e : y ∈ subs kvc s <;> simp [e]
theorem GsOk.len {l : List Sm} {kvc : List (Int × Int)} {kv : List ((Int × Int) × Sg)} (hg : GsOk l kvc kv) (y : Int × Int) : (grpOf y kv).length ≤ l.length := by
  rw [hg y]; exact List.length_filter_le _ _
/-- A measure, as the filter finds it. -/
def fmeas (kvc : List (Int × Int)) (kv : List ((Int × Int) × Sg)) (s : Sm) (k m : Int) : Nat := ((subs kvc s).find? fun y => decide (y.1 = k)).elim 0 fun y => cnt (grpOf y kv) m
theorem fmeas_eq {l : List Sm} {kvc : List (Int × Int)} {kv : List ((Int × Int) × Sg)} (hc : ClOk (rep (edgesOf l)) (accs l) kvc) (hg : GsOk l kvc kv) (s : Sm) (k m : Int) : fmeas kvc kv s k m = meas l s k m := by
  have h0 : cnt [] m = 0 := by unfold cnt; repeat' split
                               all_goals rfl
  have e1 : ∀ (n : Int) (t : Sm), ((1 : Int), n) ∈ subs kvc t ↔ t.acc = n := fun n t => by unfold subs; cases kget t.acc kvc <;> simp [eq_comm]
  have e2 : ∀ (n : Int) (t : Sm), ((2 : Int), n) ∈ subs kvc t ↔ t.dev = n := fun n t => by unfold subs; cases kget t.acc kvc <;> simp [eq_comm]
  have e3 : ∀ (n : Int) (t : Sm), ((3 : Int), n) ∈ subs kvc t ↔ kget t.acc kvc = some n := fun n t => by unfold subs; cases kget t.acc kvc <;> simp [eq_comm]
  unfold fmeas meas grp
  by_cases k1 : k = 1
  · subst k1
    have : (subs kvc s).find? (fun y => decide (y.1 = 1)) = some (1, s.acc) := by simp [subs]
    rw [this]
    show cnt (grpOf (1, s.acc) kv) m = _
    rw [hg]; congr 1
    refine List.filter_congr fun t _ => ?_
    rw [Bool.eq_iff_iff, decide_eq_true_eq, e1]; simp [inGrp]
  by_cases k2 : k = 2
  · subst k2
    have : (subs kvc s).find? (fun y => decide (y.1 = 2)) = some (2, s.dev) := by simp [subs]
    rw [this]
    show cnt (grpOf (2, s.dev) kv) m = _
    rw [hg]; congr 1
    refine List.filter_congr fun t _ => ?_
    rw [Bool.eq_iff_iff, decide_eq_true_eq, e2]; simp [inGrp]
  by_cases k3 : k = 3
  · subst k3
    by_cases hs : s.acc ∈ accs l
    · obtain ⟨c, hcs⟩ := hc.some_ _ hs
      have : (subs kvc s).find? (fun y => decide (y.1 = 3)) = some (3, c) := by simp [subs, hcs]
      rw [this]
      show cnt (grpOf (3, c) kv) m = _
      rw [hg]; congr 1
      refine List.filter_congr fun t ht => ?_
      obtain ⟨d, hd⟩ := hc.some_ t.acc (List.mem_map.2 ⟨t, ht, rfl⟩)
      rw [Bool.eq_iff_iff, decide_eq_true_eq, e3, hd]
      have := hc.same _ _ _ _ hd hcs
      simp [inGrp, hs, joinA, this]
    · have hn := hc.none_ _ hs
      have : (subs kvc s).find? (fun y => decide (y.1 = 3)) = none := by simp [subs, hn]
      rw [this]
      have : l.filter (inGrp l s 3) = [] := List.filter_eq_nil_iff.2 fun t _ => by simp [inGrp, hs]
      rw [this, h0]; rfl
  · have : (subs kvc s).find? (fun y => decide (y.1 = k)) = none := by
      unfold subs; cases kget s.acc kvc <;> simp <;> omega
    rw [this]
    have : l.filter (inGrp l s k) = [] := List.filter_eq_nil_iff.2 fun t _ => by simp [inGrp, k1, k2, k3]
    rw [this, h0]; rfl
/-- A round of measuring. -/
def RLm (kv : List ((Int × Int) × Sg)) (k m : Int) (h : Option Nat) (x : Value) (h' : Option Nat) (b : Bool) : Prop := ∀ y, x = key2 y → (y.1 = k ∧ b = false ∧ h' = some (cnt (grpOf y kv) m)) ∨ (y.1 ≠ k ∧ b = true ∧ h' = h)
theorem upto_meas {kv : List ((Int × Int) × Sg)} {k m : Int} {h h' : Option Nat} {xs : List Value} (hu : Upto (RLm kv k m) h xs h') : ∀ ys : List (Int × Int), xs = ys.map key2 → h' = h ∧ ∀ y ∈ ys, y.1 ≠ k := by
  induction hu with
  | nil => intro ys hys; rw [List.map_eq_nil_iff.1 hys.symm]; exact ⟨rfl, fun y h => (by cases h)⟩
  | @snoc b c xs x _ hr ih =>
    intro ys hys
    obtain ⟨l1, l2, rfl, h1, h2⟩ := List.map_eq_append_iff.1 hys.symm
    obtain ⟨y0, l3, rfl, h3, h4⟩ := List.map_eq_cons_iff.1 h2
    rw [List.map_eq_nil_iff] at h4
    subst h4
    obtain ⟨i1, i2⟩ := ih l1 h1.symm
    rcases hr y0 h3.symm with ⟨_, hb, _⟩ | ⟨hne, _, he⟩
    · cases hb
    · refine ⟨he.trans i1, fun y hy => ?_⟩
      rcases List.mem_append.1 hy with hy | hy
      · exact i2 y hy
      · rw [List.mem_singleton.1 hy]; exact hne
theorem went_meas {kv : List ((Int × Int) × Sg)} {kvc : List (Int × Int)} {s : Sm} {k m : Int} {h : Option Nat} (hw : Went (RLm kv k m) none ((subs kvc s).map key2) h) : h.getD 0 = fmeas kvc kv s k m := by
  unfold fmeas
  rcases hw with hu | ⟨i, x, st, hx, hu, hr⟩
  · obtain ⟨rfl, h2⟩ := upto_meas hu _ rfl
    rw [List.find?_eq_none.2 (fun y hy => by simpa using h2 y hy)]; rfl
  · rw [List.getElem?_map, Option.map_eq_some_iff] at hx
    obtain ⟨y, hy, rfl⟩ := hx
    obtain ⟨_, h2⟩ := upto_meas hu ((subs kvc s).take i) (List.map_take ..).symm
    rcases hr y rfl with ⟨hk, _, he⟩ | ⟨_, hb, _⟩
    · have hi := (List.getElem?_eq_some_iff.1 hy).1
      have hsplit : subs kvc s = (subs kvc s).take i ++ y :: (subs kvc s).drop (i + 1) := by
        conv => lhs; rw [← List.take_append_drop i (subs kvc s)]
        rw [List.drop_eq_getElem_cons hi, (List.getElem?_eq_some_iff.1 hy).2]
      rw [hsplit, List.find?_append, List.find?_eq_none.2 (fun y hy => by simpa using h2 y hy), he]
      simp [hk]
    · cases hb
/-- What is found of a group in the map. -/
def sgOf (y : Int × Int) (kv : List ((Int × Int) × Sg)) : Sg := (kget y kv).getD ((none, 0), [])
theorem sgOf_snd (y : Int × Int) (kv : List ((Int × Int) × Sg)) : (sgOf y kv).2 = grpOf y kv := by unfold sgOf grpOf; cases kget y kv <;> rfl
theorem sgV_of (y : Int × Int) (kv : List ((Int × Int) × Sg)) : Option.getD (Option.map sgV (kget y kv)) (.slice none 0 0) = .slice (sgOf y kv).1.1 (sgOf y kv).2.length (sgOf y kv).1.2 := by unfold sgOf; cases kget y kv <;> rfl
theorem sg_rd {w0 w : World} {O : List Nat} {L : List Ent} (h : SL w0 O w L) {i : Nat} {kv : List ((Int × Int) × Sg)} (hL : L[i]? = some (pack (kv.map sgE))) (y : Int × Int) : Rd w (sgOf y kv).1.1 9 (List.map smC (sgOf y kv).2) := by
  unfold sgOf
  cases hk : kget y kv with
  | none => exact Rd.nil _ _ _
  | some v => exact h.packRd hL (A := v.1.1) (cap := v.1.2) (e := 39) (List.mem_map.2 ⟨(y, v), kget_some_mem hk, rfl⟩)
end Go.Proofs.YtpcfgoadkfajfaaGreatDoor
namespace Go.Proofs.YtpcfgoadkfajfaaGreatDoor
set_option linter.all false
open Go Go.RowKit
set_option maxRecDepth 100000
theorem ent_47 : ∀ args w, (callFunc 47 args).run Tryz.prog w = .ok (.enter 47 args) w := enters_of Tryz.func47 (by kernel_rfl) rfl
theorem zero_65 : Zero Tryz.prog 65 (.pointer none) := ⟨(Tryz.prog.info? 65).get!, by kernel_rfl, by kernel_rfl⟩
theorem szt_65 : SzT Tryz.prog 65 1 := ⟨(Tryz.prog.info? 65).get!, by kernel_rfl, by kernel_rfl⟩
theorem ent_48 : ∀ args w, (callFunc 48 args).run Tryz.prog w = .ok (.enter 48 args) w := enters_of Tryz.func48 (by kernel_rfl) rfl
theorem ent_99 : ∀ args w, (callFunc 99 args).run Tryz.prog w = .ok (.enter 99 args) w := enters_of Tryz.func99 (by kernel_rfl) rfl
theorem fld_110_0 : Fld Tryz.prog 110 0 0 := ⟨_, _, (Tryz.prog.info? 107).get!, Tryz.underlying110, rfl, rfl, by kernel_rfl, by decide +kernel⟩
theorem one_107 : One Tryz.prog 107 := ⟨_, Tryz.underlying107, rfl⟩
theorem ent_49 : ∀ args w, (callFunc 49 args).run Tryz.prog w = .ok (.enter 49 args) w := enters_of Tryz.func49 (by kernel_rfl) rfl
set_option maxRecDepth 100000 in
set_option maxHeartbeats 1000000 in
theorem w_newFilter {w : World} {A : Option Addr} {cap : Nat} (ls : List Sm) (hr : Rd w A 9 (ls.map smC)) (hl : ls.length ≤ 100000) :
    Calls Tryz.prog 25 #[.slice A ls.length cap] w (fun e w' => ∃ z : (Nat × Nat × Nat) × List ((Int × Int) × Sg) × List (Int × Int), (ClOk (rep (edgesOf ls)) (accs ls) z.2.2 ∧ GsOk ls z.2.2 z.2.1) ∧ e = .returned (.pointer (some ⟨z.1.1, 0, none⟩)) ∧ SL w [] w' [kmap key2 sgV z.1.2.1 z.2.1, pack (List.map sgE z.2.1), .blk z.1.1 (.cells #[.map (some z.1.2.1), .map (some z.1.2.2)] 110 (0, 0)), kmap (fun x : Int => Value.int .i64 x) (fun x : Int => Value.int .i64 x) z.1.2.2 z.2.2]) := by
 refine calls_of_CXM (O := []) (L := []) (args := [.slice A ls.length cap]) Tryz.func25 rfl (by simp [Tryz.ntmps25]) (SL.refl w) ?_
 refine CX.sub (V' := [(0, .slice A ls.length cap)]) ⟨rfl, trivial⟩ ?_
 refine CX.seq ?_
 refine CX.region ?_
 refine RX.cons rfl rfl (op_w (yw_assign rfl rfl) rfl rfl ?_)
 refine RX.nil (XX.next (V' := [(0, _), (2, .pointer none)]) ⟨rfl, rfl, trivial⟩ ?_)
 refine CX.seq ?_
 refine CX.region ?_
 refine RX.cons rfl rfl (op_kmake key2 sgV rfl rfl rfl fun gg => ?_)
 refine RX.cons rfl rfl (op_w (yw_move rfl rfl) rfl rfl ?_)
 refine RX.cons rfl rfl (op_callE rfl rfl rfl rfl rfl ent_47 (fun w hw => w_fclusters ls (hw.rd hr (by simp)) hl) (fun ⟨gcl, kvc⟩ hcl => ?_))
 refine RX.cons rfl rfl (op_w (yw_build (v := .agg (#[.map (some gg), .map (some gcl)])) rfl rfl (fun _ => by kernel_rfl)) rfl rfl ?_)
 refine RX.cons rfl rfl (op_box rfl rfl rfl rfl fun gF => ?_)
 refine RX.cons rfl rfl (op_alloc rfl rfl rfl zero_65 fun g3 => ?_)
 refine RX.cons rfl rfl (op_storeAll (i := 0) rfl rfl rfl rfl szt_65 rfl (plain_of rfl) rfl rfl ?_)
 refine RX.nil (XX.next (V' := [(0, _), (2, .pointer none), (3, _), (7, _), (8, _), (9, _), (10, _), (11, _)]) ⟨rfl, rfl, rfl, rfl, rfl, rfl, rfl, rfl, trivial⟩ ?_)
 refine CX.seq ?_
 refine CX.seq ?_
 refine CX.packNil ?_
 refine CX.openNil ?_
 refine CX.perm (L' := [openB [], kmap key2 sgV gg ([] : List ((Int × Int) × Sg)), pack (List.map sgE ([])), .blk gF (.cells (#[.map (some gg), .map (some gcl)]) 110 (0, 0)), .blk g3 (.cells (#[.pointer (some ⟨gF, 0, none⟩)]) 65 (0, 0)), kmap (fun x : Int => Value.int .i64 x) (fun x : Int => Value.int .i64 x) gcl kvc]) ((perm_pick 0 rfl).trans (List.Perm.cons _ ((perm_pick 4 rfl).trans (List.Perm.cons _ ((perm_pick 0 rfl).trans (List.Perm.cons _ ((perm_pick 1 rfl).trans (List.Perm.cons _ ((perm_pick 0 rfl).trans (List.Perm.cons _ ((perm_pick 0 rfl).trans (List.Perm.cons _ (List.Perm.refl _))))))))))))) ?_
 refine CX.region ?_
 refine RX.cons rfl rfl (op_w (yw_move rfl rfl) rfl rfl ?_)
 refine RX.cons rfl rfl (op_w (yw_lenS rfl Tryz.underlying34 rfl) rfl rfl ?_)
 refine RX.cons rfl rfl (op_w (yw_move rfl rfl) rfl rfl ?_)
 refine RX.nil (XX.next (V' := [(0, _), (2, .pointer none), (3, _), (7, _), (8, _), (9, _), (10, _), (11, _), (12, _), (13, _), (14, _)]) ⟨rfl, rfl, rfl, rfl, rfl, rfl, rfl, rfl, rfl, rfl, rfl, trivial⟩ ?_)
 refine CX.block ?_
 refine CX.loopD (σ := Nat × List Nat × List ((Int × Int) × Sg)) (fun z => [(0, .slice A ls.length cap), (2, .pointer none), (3, .pointer (some ⟨g3, 0, none⟩)), (7, .map (some gg)), (8, .slice A ls.length cap), (9, .map (some gcl)), (10, .agg (#[.map (some gg), .map (some gcl)])), (11, .pointer (some ⟨gF, 0, none⟩)), (12, .slice A ls.length cap), (13, .int .i64 ((ls.length : Nat) : Int)), (14, .int .i64 ((z.1 : Nat) : Int))]) (fun z => [openB z.2.1, kmap key2 sgV gg z.2.2, pack (List.map sgE z.2.2), .blk gF (.cells (#[.map (some gg), .map (some gcl)]) 110 (0, 0)), .blk g3 (.cells (#[.pointer (some ⟨gF, 0, none⟩)]) 65 (0, 0)), kmap (fun x : Int => Value.int .i64 x) (fun x : Int => Value.int .i64 x) gcl kvc]) (fun z => List.map markD z.2.1) (fun z => z.1 ≤ ls.length ∧ GsOk (List.take z.1 ls) kvc z.2.2) (fun z => ls.length - z.1) (0, [], []) ⟨Nat.zero_le _, GsOk.nil _⟩ rfl ⟨rfl, rfl, rfl, rfl, rfl, rfl, rfl, rfl, rfl, rfl, rfl, trivial⟩ rfl (fun z hI => ?_)
 obtain ⟨i, ks, kv⟩ := z
 dsimp only at hI ⊢
 obtain ⟨hi, hG⟩ := hI
 refine CX.seq ?_
 refine CX.region ?_
 refine RX.cons rfl rfl (op_w (yw_lss rfl rfl rfl) rfl rfl ?_)
 refine RX.nil (XX.next (V' := [(0, _), (2, .pointer none), (3, _), (7, _), (8, _), (9, _), (10, _), (11, _), (12, _), (13, _), (14, _), (15, _)]) ⟨rfl, rfl, rfl, rfl, rfl, rfl, rfl, rfl, rfl, rfl, rfl, rfl, trivial⟩ ?_)
 refine CX.seq ?_
 refine CX.condD (p := ((i : Nat) : Int) < ((ls.length : Nat) : Int)) rfl (fun c15 => ?_) (fun c15 => ?_)
 ·obtain ⟨x0, hx0⟩ := get_some (l := ls) (k := i) (by omega)
  have hx0m := List.mem_of_getElem? hx0
  have hA : ∃ b j, A = some ⟨b, j, none⟩ := hr.some (k := 0) (by simp; omega)
  refine CX.skip (XX.next (V' := [(0, _), (2, .pointer none), (3, _), (7, _), (8, _), (9, _), (10, _), (11, _), (12, _), (13, _), (14, _), (15, _)]) ⟨rfl, rfl, rfl, rfl, rfl, rfl, rfl, rfl, rfl, rfl, rfl, rfl, trivial⟩ ?_)
  refine CX.seq ?_
  refine CX.block ?_
  refine CX.seq ?_
  refine CX.region ?_
  refine RX.cons rfl rfl (op_w (yw_index (k := i) rfl slt_34 rfl rfl (by omega) (by omega) hA) rfl rfl ?_)
  refine RX.cons rfl rfl (op_yld (y_elem rfl rfl agg_39 hr (by simp) (map_get hx0)) rfl rfl ?_)
  refine RX.cons rfl rfl (op_alloc rfl rfl rfl zero_39 fun g5 => ?_)
  refine RX.cons rfl rfl (op_storeAll (i := 0) rfl rfl rfl rfl szt_39 rfl (plain_of rfl) rfl rfl ?_)
  refine RX.nil (XX.next (V' := [(0, _), (2, .pointer none), (3, _), (5, _), (7, _), (8, _), (9, _), (10, _), (11, _), (12, _), (13, _), (14, _), (15, _), (16, _), (17, _)]) ⟨rfl, rfl, rfl, rfl, rfl, rfl, rfl, rfl, rfl, rfl, rfl, rfl, rfl, rfl, rfl, trivial⟩ ?_)
  refine CX.seq ?_
  refine CX.region ?_
  refine RX.cons rfl rfl (op_yld (y_load (i := 5) rfl rfl one_65 rfl rfl) rfl rfl ?_)
  refine RX.cons rfl rfl (op_yld (y_loadA (i := 0) rfl rfl agg_39 rfl rfl) rfl rfl ?_)
  refine RX.cons rfl rfl (op_callE rfl rfl rfl rfl rfl ent_48 (fun w hw => w_fsubjects gF x0) (fun ⟨gs, gf⟩ _ => ?_))
  refine RX.nil (XX.next (V' := [(0, _), (2, .pointer none), (3, _), (5, _), (7, _), (8, _), (9, _), (10, _), (11, _), (12, _), (13, _), (14, _), (15, _), (16, _), (17, _), (18, _), (19, _), (20, _)]) ⟨rfl, rfl, rfl, rfl, rfl, rfl, rfl, rfl, rfl, rfl, rfl, rfl, rfl, rfl, rfl, rfl, rfl, rfl, trivial⟩ ?_)
  refine CX.block ?_
  refine CX.rangeFuncJ (σ := List ((Int × Int) × Sg)) (LL := fun h => [.blk gs (.cells (smC x0) 39 (0, 0)), .blk gf (.cells (#[.pointer (some ⟨gF, 0, none⟩)]) 65 (0, 0)), kmap (fun x : Int => Value.int .i64 x) (fun x : Int => Value.int .i64 x) gcl kvc, kmap key2 sgV gg h, pack (List.map sgE h), .blk gF (.cells (#[.map (some gg), .map (some gcl)]) 110 (0, 0)), .blk g3 (.cells (#[.pointer (some ⟨gF, 0, none⟩)]) 65 (0, 0)), .blk g5 (.cells (smC x0) 39 (0, 0))]) (post := fun h => ∀ y, grpOf y h = if y ∈ subs kvc x0 then grpOf y kv ++ [x0] else grpOf y kv) (pend := fun _ => none) [.blk gs (.cells (smC x0) 39 (0, 0)), .blk gf (.cells (#[.pointer (some ⟨gF, 0, none⟩)]) 65 (0, 0)), kmap (fun x : Int => Value.int .i64 x) (fun x : Int => Value.int .i64 x) gcl kvc, kmap key2 sgV gg kv, pack (List.map sgE kv), .blk gF (.cells (#[.map (some gg), .map (some gcl)]) 110 (0, 0)), .blk g3 (.cells (#[.pointer (some ⟨gF, 0, none⟩)]) 65 (0, 0)), .blk g5 (.cells (smC x0) 39 (0, 0))] [openB ks] ((perm_pick 0 rfl).trans (List.Perm.cons _ ((perm_pick 0 rfl).trans (List.Perm.cons _ ((perm_pick 6 rfl).trans (List.Perm.cons _ ((perm_pick 2 rfl).trans (List.Perm.cons _ ((perm_pick 2 rfl).trans (List.Perm.cons _ ((perm_pick 2 rfl).trans (List.Perm.cons _ ((perm_pick 2 rfl).trans (List.Perm.cons _ ((perm_pick 0 rfl).trans (List.Perm.cons _ (List.Perm.refl _))))))))))))))))) rfl ent_99 ?_ ?_ ?_
  ·intro l Dk fn a w1 ha hw hs
   refine (w_subjects1 (l := l) (gF := gF) (St := (fun h : List ((Int × Int) × Sg) => [.blk l (.loop (mkRec fn a.tmps _ _ _ Dk)), .blk Dk (.deferred (some [])), kmap key2 sgV gg h, pack (List.map sgE h), .blk gF (.cells (#[.map (some gg), .map (some gcl)]) 110 (0, 0)), .blk g3 (.cells (#[.pointer (some ⟨gF, 0, none⟩)]) 65 (0, 0)), .blk g5 (.cells (smC x0) 39 (0, 0))])) (pre := fun h => ∀ y, (grpOf y h).length ≤ 1000000) (Rl := RLp x0) (ok := fun x => ∃ y, x = key2 y) kv x0 kvc ?_ ?_ ?_ ?_ (hs.perm ((perm_pick 2 rfl).trans (List.Perm.cons _ ((perm_pick 2 rfl).trans (List.Perm.cons _ ((perm_pick 2 rfl).trans (List.Perm.cons _ ((perm_pick 0 rfl).trans (List.Perm.cons _ ((perm_pick 0 rfl).trans (List.Perm.cons _ ((perm_pick 0 rfl).trans (List.Perm.cons _ ((perm_pick 0 rfl).trans (List.Perm.cons _ ((perm_pick 0 rfl).trans (List.Perm.cons _ ((perm_pick 0 rfl).trans (List.Perm.cons _ ((perm_pick 0 rfl).trans (List.Perm.cons _ (List.Perm.refl _))))))))))))))))))))))).mono ?_
   ·rintro h x w2 hpre ⟨y, rfl⟩ hag hs2
    refine (round_of_CXJ (n := Tryz.f25.ntmps) (V0 := [(21, key2 y), (3, .pointer (some ⟨g3, 0, none⟩)), (5, .pointer (some ⟨g5, 0, none⟩))]) (σ := Nat) (τ := List ((Int × Int) × Sg)) (M := [kmap key2 sgV gg h, pack (List.map sgE h), .blk gF (.cells (#[.map (some gg), .map (some gcl)]) 110 (0, 0)), .blk g3 (.cells (#[.pointer (some ⟨gF, 0, none⟩)]) 65 (0, 0)), .blk g5 (.cells (smC x0) 39 (0, 0))]) (fun g6 => [(3, .pointer (some ⟨g3, 0, none⟩)), (5, .pointer (some ⟨g5, 0, none⟩)), (6, .pointer (some ⟨g6, 0, none⟩))]) (fun g6 => [kmap key2 sgV gg h, pack (List.map sgE h), .blk gF (.cells (#[.map (some gg), .map (some gcl)]) 110 (0, 0)), .blk g3 (.cells (#[.pointer (some ⟨gF, 0, none⟩)]) 65 (0, 0)), .blk g5 (.cells (smC x0) 39 (0, 0)), .blk g6 (.cells (#[.int .i64 y.1, .int .i64 y.2]) 114 (0, 0))]) (fun _ => True) (LL := fun h' => [kmap key2 sgV gg h', pack (List.map sgE h'), .blk gF (.cells (#[.map (some gg), .map (some gcl)]) 110 (0, 0)), .blk g3 (.cells (#[.pointer (some ⟨gF, 0, none⟩)]) 65 (0, 0)), .blk g5 (.cells (smC x0) 39 (0, 0))]) (post := fun h' => ∃ z, h' = kset y (z, grpOf y h ++ [x0]) h) (pend := fun _ => none) rfl rfl rfl ?_ ?_ ?_ hs2).imp fun f h1 => h1.imp fun tm h2 => h2.imp fun as1 h3 => h3.imp fun bd h4 => ⟨h4.1, h4.2.mono fun e w' ⟨h', hp, he, hz⟩ => ⟨(h', true), ⟨rfl, fun y' e' => by rw [← key2_inj e']; exact hp⟩, he, hz⟩⟩
    ·exact (ha.sub (V' := [(3, .pointer (some ⟨g3, 0, none⟩)), (5, .pointer (some ⟨g5, 0, none⟩))]) ⟨rfl, rfl, trivial⟩).round 21 rfl _
    ·refine CX.region ?_
     refine RX.cons rfl rfl (op_alloc rfl rfl rfl zero_114 fun g6 => ?_)
     refine RX.cons rfl rfl (op_storeAll (i := 0) rfl rfl rfl rfl szt_114 rfl (plain_of rfl) rfl rfl ?_)
     refine RX.nil (XX.meetP ([]) g6 trivial ⟨rfl, rfl, rfl, trivial⟩ ((perm_pick 1 rfl).trans (List.Perm.cons _ ((perm_pick 1 rfl).trans (List.Perm.cons _ ((perm_pick 1 rfl).trans (List.Perm.cons _ ((perm_pick 1 rfl).trans (List.Perm.cons _ ((perm_pick 1 rfl).trans (List.Perm.cons _ ((perm_pick 1 rfl).trans (List.Perm.cons _ ((perm_pick 1 rfl).trans (List.Perm.cons _ ((perm_pick 0 rfl).trans (List.Perm.cons _ (List.Perm.refl _))))))))))))))))))
    ·intro g6 _
     refine CX.block ?_
     refine CX.draw 6 [(0, 8, 4194304), (1, 4194304, 8388608), (2, 8388608, 16777216), (4, 16777216, 33554432), (0, 64, 67108864), (0, 32, 134217728), (56, 234881024, 268435456)] (by kernel_rfl) (by kernel_rfl) (by kernel_rfl) ?_
     refine DX.take 0 1 (by kernel_rfl) rfl rfl rfl rfl rfl (List.Sublist.refl _) (y_load (i := 5) rfl rfl one_65 rfl rfl) ?_
     refine DX.takeW 1 3 (by kernel_rfl) rfl rfl rfl rfl rfl (yw_nilCheck rfl rfl) ?_
     refine DX.takeW 2 7 (by kernel_rfl) rfl rfl rfl rfl rfl (yw_field0 rfl fld_110_0 rfl) ?_
     refine DX.take 3 15 (by kernel_rfl) rfl rfl rfl rfl rfl (List.Sublist.refl _) (y_load (i := 4) rfl rfl one_107 rfl rfl) ?_
     refine DX.take 4 31 (by kernel_rfl) rfl rfl rfl rfl rfl (List.Sublist.refl _) (y_loadA (i := 7) rfl rfl agg_114 rfl rfl) ?_
     refine DX.take 5 63 (by kernel_rfl) rfl rfl rfl rfl rfl (List.Sublist.refl _) (y_loadA (i := 6) rfl rfl agg_39 rfl rfl) ?_
     refine DX.stepT 6 127 (by kernel_rfl) rfl rfl rfl rfl (op_callP [kmap key2 sgV gg h, pack (List.map sgE h)] [.blk l (.loop _), .blk Dk (.deferred (some [])), .blk gF (.cells (#[.map (some gg), .map (some gcl)]) 110 (0, 0)), .blk g3 (.cells (#[.pointer (some ⟨gF, 0, none⟩)]) 65 (0, 0)), .blk g5 (.cells (smC x0) 39 (0, 0)), .blk g6 (.cells (#[.int .i64 y.1, .int .i64 y.2]) 114 (0, 0))] rfl rfl rfl rfl rfl ent_49 ((perm_pick 2 rfl).trans (List.Perm.cons _ ((perm_pick 2 rfl).trans (List.Perm.cons _ (List.Perm.refl _))))) (σ := Option Addr × Nat) (val := fun _ => .tuple #[]) (LL := fun z => [kmap key2 sgV gg (kset y (z, grpOf y h ++ [x0]) h), pack (List.map sgE (kset y (z, grpOf y h ++ [x0]) h))]) (post := fun _ => True) (fun w hw hs => w_put h y x0 (hpre y) hs) (fun z _ => ?_))
     refine DX.done (by kernel_rfl) (XX.inBlock (V' := []) trivial ?_)
     exact XX.metJ ([.blk g6 (.cells (#[.int .i64 y.1, .int .i64 y.2]) 114 (0, 0))]) (kset y (z, grpOf y h ++ [x0]) h) ⟨z, rfl⟩ rfl ((perm_pick 2 rfl).trans (List.Perm.cons _ ((perm_pick 2 rfl).trans (List.Perm.cons _ ((perm_pick 0 rfl).trans (List.Perm.cons _ ((perm_pick 0 rfl).trans (List.Perm.cons _ ((perm_pick 0 rfl).trans (List.Perm.cons _ ((perm_pick 0 rfl).trans (List.Perm.cons _ ((perm_pick 0 rfl).trans (List.Perm.cons _ (List.Perm.refl _)))))))))))))))
   ·exact fun i st _ hu y => Nat.le_trans (upto_len hu (n := ls.length) (fun y => Nat.le_trans (hG.len y) (by rw [List.length_take]; omega)) y) (by omega)
   ·exact fun y _ => ⟨y, rfl⟩
   ·exact fun w' hw' => hw'.cellOf (i := 7) rfl rfl
   ·exact fun e w' ⟨h, hwt, he, hz⟩ => ⟨h, went_put hwt, ⟨_, he⟩, hz.perm ((perm_pick 3 rfl).trans (List.Perm.cons _ ((perm_pick 3 rfl).trans (List.Perm.cons _ ((perm_pick 0 rfl).trans (List.Perm.cons _ ((perm_pick 0 rfl).trans (List.Perm.cons _ ((perm_pick 0 rfl).trans (List.Perm.cons _ ((perm_pick 0 rfl).trans (List.Perm.cons _ ((perm_pick 0 rfl).trans (List.Perm.cons _ ((perm_pick 0 rfl).trans (List.Perm.cons _ ((perm_pick 0 rfl).trans (List.Perm.cons _ ((perm_pick 0 rfl).trans (List.Perm.cons _ (List.Perm.refl _)))))))))))))))))))))⟩
  ·intro h l Dk ob hh _
   refine XX.openMore (k := Dk) (ks := ks) (L' := [.blk l ob, .blk gs (.cells (smC x0) 39 (0, 0)), .blk gf (.cells (#[.pointer (some ⟨gF, 0, none⟩)]) 65 (0, 0)), kmap (fun x : Int => Value.int .i64 x) (fun x : Int => Value.int .i64 x) gcl kvc, kmap key2 sgV gg h, pack (List.map sgE h), .blk gF (.cells (#[.map (some gg), .map (some gcl)]) 110 (0, 0)), .blk g3 (.cells (#[.pointer (some ⟨gF, 0, none⟩)]) 65 (0, 0)), .blk g5 (.cells (smC x0) 39 (0, 0))]) ((perm_pick 1 rfl).trans (List.Perm.cons _ ((perm_pick 9 rfl).trans (List.Perm.cons _ (List.Perm.refl _))))) ?_
   refine XX.inBlock (V' := [(0, _), (2, .pointer none), (3, _), (7, _), (8, _), (9, _), (10, _), (11, _), (12, _), (13, _), (14, _)]) ⟨rfl, rfl, rfl, rfl, rfl, rfl, rfl, rfl, rfl, rfl, rfl, trivial⟩ ?_
   refine XX.inBlock (V' := [(0, _), (2, .pointer none), (3, _), (7, _), (8, _), (9, _), (10, _), (11, _), (12, _), (13, _), (14, _)]) ⟨rfl, rfl, rfl, rfl, rfl, rfl, rfl, rfl, rfl, rfl, rfl, trivial⟩ ?_
   refine XX.next (V' := [(0, _), (2, .pointer none), (3, _), (7, _), (8, _), (9, _), (10, _), (11, _), (12, _), (13, _), (14, _)]) ⟨rfl, rfl, rfl, rfl, rfl, rfl, rfl, rfl, rfl, rfl, rfl, trivial⟩ ?_
   refine CX.region ?_
   refine RX.cons rfl rfl (op_w (yw_add rfl rfl rfl (by omega) (by omega)) rfl rfl ?_)
   refine RX.cons rfl rfl (op_w (yw_move rfl rfl) rfl rfl ?_)
   refine RX.nil (XX.againD ([.blk l ob, .blk gs (.cells (smC x0) 39 (0, 0)), .blk gf (.cells (#[.pointer (some ⟨gF, 0, none⟩)]) 65 (0, 0)), .blk g5 (.cells (smC x0) 39 (0, 0))]) (i + 1, Dk :: ks, h) (by dsimp only; omega) ⟨by dsimp only; omega, by dsimp only; rw [take_succ hx0]; exact hG.snoc hh⟩ rfl ⟨rfl, rfl, rfl, rfl, rfl, rfl, rfl, rfl, rfl, rfl, rfl, trivial⟩ ((perm_pick 0 rfl).trans (List.Perm.cons _ ((perm_pick 4 rfl).trans (List.Perm.cons _ ((perm_pick 4 rfl).trans (List.Perm.cons _ ((perm_pick 4 rfl).trans (List.Perm.cons _ ((perm_pick 4 rfl).trans (List.Perm.cons _ ((perm_pick 3 rfl).trans (List.Perm.cons _ (List.Perm.refl _))))))))))))))
  ·exact fun _ _ _ _ _ _ h => by cases h
 ·rw [List.take_of_length_le (by omega)] at hG
  refine CX.exit ?_
  refine XX.then_exit ?_
  refine XX.then_exit ?_
  refine XX.block_exit ?_
  refine XX.next (V' := [(3, _)]) ⟨rfl, trivial⟩ ?_
  refine CX.seq ?_
  refine CX.region ?_
  refine RX.cons rfl rfl (op_yld (y_load (i := 4) rfl rfl one_65 rfl rfl) rfl rfl ?_)
  refine RX.cons rfl rfl (op_w (yw_assign rfl rfl) rfl rfl ?_)
  refine RX.nil (XX.next (V' := [(2, .pointer (some ⟨gF, 0, none⟩))]) ⟨rfl, trivial⟩ ?_)
  refine CX.ret ?_
  exact ret_tmpMs rfl rfl (L' := [kmap key2 sgV gg kv, pack (List.map sgE kv), .blk gF (.cells (#[.map (some gg), .map (some gcl)]) 110 (0, 0)), .blk g3 (.cells (#[.pointer (some ⟨gF, 0, none⟩)]) 65 (0, 0)), kmap (fun x : Int => Value.int .i64 x) (fun x : Int => Value.int .i64 x) gcl kvc]) ((perm_pick 0 rfl).trans (List.Perm.cons _ (List.Perm.refl _))) fun w1 hw => ⟨((gF, gg, gcl), kv, kvc), ⟨hcl, hG⟩, rfl, hw.pick ((perm_pick 0 rfl).trans (List.Perm.cons _ ((perm_pick 0 rfl).trans (List.Perm.cons _ ((perm_pick 0 rfl).trans (List.Perm.cons _ ((perm_pick 1 rfl).trans (List.Perm.cons _ (List.Perm.refl _)))))))))⟩

end Go.Proofs.YtpcfgoadkfajfaaGreatDoor
namespace Go.Proofs.YtpcfgoadkfajfaaGreatDoor
set_option linter.all false
open Go Go.RowKit
set_option maxRecDepth 100000
theorem zero_3 : Zero Tryz.prog 3 (.int .i64 0) := ⟨(Tryz.prog.info? 3).get!, by kernel_rfl, by kernel_rfl⟩
theorem fld_114_0 : Fld Tryz.prog 114 0 0 := ⟨_, _, (Tryz.prog.info? 3).get!, Tryz.underlying114, rfl, rfl, by kernel_rfl, by decide +kernel⟩
theorem ent_50 : ∀ args w, (callFunc 50 args).run Tryz.prog w = .ok (.enter 50 args) w := enters_of Tryz.func50 (by kernel_rfl) rfl
theorem szt_3 : SzT Tryz.prog 3 1 := ⟨(Tryz.prog.info? 3).get!, by kernel_rfl, by kernel_rfl⟩
set_option maxRecDepth 100000 in
set_option maxHeartbeats 1000000 in
theorem w_measure {w : World} {gg gF gcl : Nat} (kv : List ((Int × Int) × Sg)) (kvc : List (Int × Int)) (s : Sm) (k m : Int) (hkv : ∀ y, (grpOf y kv).length ≤ 1000000) (hs : SL w (List.flatMap Ent.blocks [kmap key2 sgV gg kv, pack (List.map sgE kv), .blk gF (.cells (#[.map (some gg), .map (some gcl)]) 110 (0, 0)), kmap (fun x : Int => Value.int .i64 x) (fun x : Int => Value.int .i64 x) gcl kvc]) w [kmap key2 sgV gg kv, pack (List.map sgE kv), .blk gF (.cells (#[.map (some gg), .map (some gcl)]) 110 (0, 0)), kmap (fun x : Int => Value.int .i64 x) (fun x : Int => Value.int .i64 x) gcl kvc]) :
    Calls Tryz.prog 26 #[.pointer (some ⟨gF, 0, none⟩), .agg (smC s), .int .i64 k, .int .i64 m] w (fun e w' => ∃ z : Unit, True ∧ e = .returned (.int .i64 ((fmeas kvc kv s k m : Nat) : Int)) ∧ SL w (List.flatMap Ent.blocks [kmap key2 sgV gg kv, pack (List.map sgE kv), .blk gF (.cells (#[.map (some gg), .map (some gcl)]) 110 (0, 0)), kmap (fun x : Int => Value.int .i64 x) (fun x : Int => Value.int .i64 x) gcl kvc]) w' [kmap key2 sgV gg kv, pack (List.map sgE kv), .blk gF (.cells (#[.map (some gg), .map (some gcl)]) 110 (0, 0)), kmap (fun x : Int => Value.int .i64 x) (fun x : Int => Value.int .i64 x) gcl kvc]) := by
 refine calls_of_CXM (O := (List.flatMap Ent.blocks [kmap key2 sgV gg kv, pack (List.map sgE kv), .blk gF (.cells (#[.map (some gg), .map (some gcl)]) 110 (0, 0)), kmap (fun x : Int => Value.int .i64 x) (fun x : Int => Value.int .i64 x) gcl kvc])) (L := [kmap key2 sgV gg kv, pack (List.map sgE kv), .blk gF (.cells (#[.map (some gg), .map (some gcl)]) 110 (0, 0)), kmap (fun x : Int => Value.int .i64 x) (fun x : Int => Value.int .i64 x) gcl kvc]) (args := [.pointer (some ⟨gF, 0, none⟩), .agg (smC s), .int .i64 k, .int .i64 m]) Tryz.func26 rfl (by simp [Tryz.ntmps26]) hs ?_
 refine CX.sub (V' := [(0, .pointer (some ⟨gF, 0, none⟩)), (1, .agg (smC s)), (2, .int .i64 k), (3, .int .i64 m)]) ⟨rfl, rfl, rfl, rfl, trivial⟩ ?_
 refine CX.seq ?_
 refine CX.region ?_
 refine RX.cons rfl rfl (op_box rfl rfl rfl rfl fun g4 => ?_)
 refine RX.cons rfl rfl (op_box rfl rfl rfl rfl fun g5 => ?_)
 refine RX.cons rfl rfl (op_box rfl rfl rfl rfl fun g6 => ?_)
 refine RX.cons rfl rfl (op_box rfl rfl rfl rfl fun g7 => ?_)
 refine RX.cons rfl rfl (op_alloc rfl rfl rfl zero_3 fun g8 => ?_)
 refine RX.nil (XX.next (V' := [(0, _), (1, _), (2, _), (3, _), (4, _), (5, _), (6, _), (7, _), (8, .pointer (some ⟨g8, 0, none⟩))]) ⟨rfl, rfl, rfl, rfl, rfl, rfl, rfl, rfl, rfl, trivial⟩ ?_)
 refine CX.seq ?_
 refine CX.seq ?_
 refine CX.region ?_
 refine RX.cons rfl rfl (op_yld (y_load (i := 4) rfl rfl one_65 rfl rfl) rfl rfl ?_)
 refine RX.cons rfl rfl (op_yld (y_loadA (i := 3) rfl rfl agg_39 rfl rfl) rfl rfl ?_)
 refine RX.cons rfl rfl (op_callE rfl rfl rfl rfl rfl ent_48 (fun w hw => w_fsubjects gF s) (fun ⟨gs, gf⟩ _ => ?_))
 refine RX.nil (XX.next (V' := [(0, _), (1, _), (2, _), (3, _), (4, _), (5, _), (6, _), (7, _), (8, .pointer (some ⟨g8, 0, none⟩)), (10, _), (11, _), (12, _)]) ⟨rfl, rfl, rfl, rfl, rfl, rfl, rfl, rfl, rfl, rfl, rfl, rfl, trivial⟩ ?_)
 refine CX.block ?_
 refine CX.ents (L' := [.blk gs (.cells (smC s) 39 (0, 0)), .blk gf (.cells (#[.pointer (some ⟨gF, 0, none⟩)]) 65 (0, 0)), .blk g8 (.cells (#[.int .i64 ((Option.getD none 0 : Nat) : Int)]) 3 (0, 0)), .blk g7 (.cells (#[.int .i64 m]) 3 (0, 0)), .blk g6 (.cells (#[.int .i64 k]) 3 (0, 0)), .blk g5 (.cells (smC s) 39 (0, 0)), .blk g4 (.cells (#[.pointer (some ⟨gF, 0, none⟩)]) 65 (0, 0)), kmap key2 sgV gg kv, pack (List.map sgE kv), .blk gF (.cells (#[.map (some gg), .map (some gcl)]) 110 (0, 0)), kmap (fun x : Int => Value.int .i64 x) (fun x : Int => Value.int .i64 x) gcl kvc]) rfl ?_
 refine CX.rangeFuncJ (σ := Option Nat) (LL := fun h => [.blk gs (.cells (smC s) 39 (0, 0)), .blk gf (.cells (#[.pointer (some ⟨gF, 0, none⟩)]) 65 (0, 0)), kmap (fun x : Int => Value.int .i64 x) (fun x : Int => Value.int .i64 x) gcl kvc, kmap key2 sgV gg kv, pack (List.map sgE kv), .blk gF (.cells (#[.map (some gg), .map (some gcl)]) 110 (0, 0)), .blk g4 (.cells (#[.pointer (some ⟨gF, 0, none⟩)]) 65 (0, 0)), .blk g6 (.cells (#[.int .i64 k]) 3 (0, 0)), .blk g7 (.cells (#[.int .i64 m]) 3 (0, 0)), .blk g8 (.cells (#[.int .i64 ((Option.getD h 0 : Nat) : Int)]) 3 (0, 0))]) (post := fun h => h.getD 0 = fmeas kvc kv s k m) (pend := (fun h : Option Nat => if h.isSome = true then some Code.ret else none)) [.blk gs (.cells (smC s) 39 (0, 0)), .blk gf (.cells (#[.pointer (some ⟨gF, 0, none⟩)]) 65 (0, 0)), kmap (fun x : Int => Value.int .i64 x) (fun x : Int => Value.int .i64 x) gcl kvc, kmap key2 sgV gg kv, pack (List.map sgE kv), .blk gF (.cells (#[.map (some gg), .map (some gcl)]) 110 (0, 0)), .blk g4 (.cells (#[.pointer (some ⟨gF, 0, none⟩)]) 65 (0, 0)), .blk g6 (.cells (#[.int .i64 k]) 3 (0, 0)), .blk g7 (.cells (#[.int .i64 m]) 3 (0, 0)), .blk g8 (.cells (#[.int .i64 ((Option.getD none 0 : Nat) : Int)]) 3 (0, 0))] [.blk g5 (.cells (smC s) 39 (0, 0))] ((perm_pick 0 rfl).trans (List.Perm.cons _ ((perm_pick 0 rfl).trans (List.Perm.cons _ ((perm_pick 8 rfl).trans (List.Perm.cons _ ((perm_pick 5 rfl).trans (List.Perm.cons _ ((perm_pick 5 rfl).trans (List.Perm.cons _ ((perm_pick 5 rfl).trans (List.Perm.cons _ ((perm_pick 4 rfl).trans (List.Perm.cons _ ((perm_pick 2 rfl).trans (List.Perm.cons _ ((perm_pick 1 rfl).trans (List.Perm.cons _ ((perm_pick 0 rfl).trans (List.Perm.cons _ (List.Perm.refl _))))))))))))))))))))) rfl ent_99 ?_ ?_ ?_
 ·intro l Dk fn a w1 ha hw hs
  refine (w_subjects1 (l := l) (gF := gF) (St := (fun h : Option Nat => [.blk l (.loop (leftBy (mkRec fn a.tmps _ _ _ Dk) ((fun h : Option Nat => if h.isSome = true then some Code.ret else none) h))), .blk Dk (.deferred (some [])), kmap key2 sgV gg kv, pack (List.map sgE kv), .blk gF (.cells (#[.map (some gg), .map (some gcl)]) 110 (0, 0)), .blk g4 (.cells (#[.pointer (some ⟨gF, 0, none⟩)]) 65 (0, 0)), .blk g6 (.cells (#[.int .i64 k]) 3 (0, 0)), .blk g7 (.cells (#[.int .i64 m]) 3 (0, 0)), .blk g8 (.cells (#[.int .i64 ((Option.getD h 0 : Nat) : Int)]) 3 (0, 0))])) (pre := fun h => h = none) (Rl := RLm kv k m) (ok := fun x => ∃ y, x = key2 y) none s kvc ?_ ?_ ?_ ?_ (hs.perm ((perm_pick 2 rfl).trans (List.Perm.cons _ ((perm_pick 2 rfl).trans (List.Perm.cons _ ((perm_pick 2 rfl).trans (List.Perm.cons _ ((perm_pick 0 rfl).trans (List.Perm.cons _ ((perm_pick 0 rfl).trans (List.Perm.cons _ ((perm_pick 0 rfl).trans (List.Perm.cons _ ((perm_pick 0 rfl).trans (List.Perm.cons _ ((perm_pick 0 rfl).trans (List.Perm.cons _ ((perm_pick 0 rfl).trans (List.Perm.cons _ ((perm_pick 0 rfl).trans (List.Perm.cons _ ((perm_pick 0 rfl).trans (List.Perm.cons _ ((perm_pick 0 rfl).trans (List.Perm.cons _ (List.Perm.refl _))))))))))))))))))))))))))).mono ?_
  ·rintro h x w2 rfl ⟨y, rfl⟩ hag hs2
   refine (round_of_CXJ (n := Tryz.f26.ntmps) (V0 := (13, key2 y) :: [(4, .pointer (some ⟨g4, 0, none⟩)), (6, .pointer (some ⟨g6, 0, none⟩)), (7, .pointer (some ⟨g7, 0, none⟩)), (8, .pointer (some ⟨g8, 0, none⟩))]) (σ := Nat) (τ := Option Nat) (M := [kmap key2 sgV gg kv, pack (List.map sgE kv), .blk gF (.cells (#[.map (some gg), .map (some gcl)]) 110 (0, 0)), .blk g4 (.cells (#[.pointer (some ⟨gF, 0, none⟩)]) 65 (0, 0)), .blk g6 (.cells (#[.int .i64 k]) 3 (0, 0)), .blk g7 (.cells (#[.int .i64 m]) 3 (0, 0)), .blk g8 (.cells (#[.int .i64 ((Option.getD none 0 : Nat) : Int)]) 3 (0, 0))]) (fun g9 => [(4, .pointer (some ⟨g4, 0, none⟩)), (6, .pointer (some ⟨g6, 0, none⟩)), (7, .pointer (some ⟨g7, 0, none⟩)), (8, .pointer (some ⟨g8, 0, none⟩)), (9, .pointer (some ⟨g9, 0, none⟩))]) (fun g9 => [kmap key2 sgV gg kv, pack (List.map sgE kv), .blk gF (.cells (#[.map (some gg), .map (some gcl)]) 110 (0, 0)), .blk g4 (.cells (#[.pointer (some ⟨gF, 0, none⟩)]) 65 (0, 0)), .blk g6 (.cells (#[.int .i64 k]) 3 (0, 0)), .blk g7 (.cells (#[.int .i64 m]) 3 (0, 0)), .blk g8 (.cells (#[.int .i64 ((Option.getD none 0 : Nat) : Int)]) 3 (0, 0)), .blk g9 (.cells (#[.int .i64 y.1, .int .i64 y.2]) 114 (0, 0))]) (fun _ => True) (LL := fun h' => [kmap key2 sgV gg kv, pack (List.map sgE kv), .blk gF (.cells (#[.map (some gg), .map (some gcl)]) 110 (0, 0)), .blk g4 (.cells (#[.pointer (some ⟨gF, 0, none⟩)]) 65 (0, 0)), .blk g6 (.cells (#[.int .i64 k]) 3 (0, 0)), .blk g7 (.cells (#[.int .i64 m]) 3 (0, 0)), .blk g8 (.cells (#[.int .i64 ((Option.getD h' 0 : Nat) : Int)]) 3 (0, 0))]) (post := fun h' => (y.1 = k ∧ h' = some (cnt (grpOf y kv) m)) ∨ (y.1 ≠ k ∧ h' = none)) (pend := (fun h : Option Nat => if h.isSome = true then some Code.ret else none)) rfl rfl rfl ?_ ?_ ?_ hs2).imp fun f h1 => h1.imp fun tm h2 => h2.imp fun as1 h3 => h3.imp fun bd h4 => ⟨h4.1, h4.2.mono fun e w' ⟨h', hp, he, hz⟩ => ⟨(h', ((fun h : Option Nat => if h.isSome = true then some Code.ret else none) h').isNone), ?_, he, hz⟩⟩
   ·exact (ha.sub (V' := [(4, .pointer (some ⟨g4, 0, none⟩)), (6, .pointer (some ⟨g6, 0, none⟩)), (7, .pointer (some ⟨g7, 0, none⟩)), (8, .pointer (some ⟨g8, 0, none⟩))]) ⟨rfl, rfl, rfl, rfl, trivial⟩).round 13 rfl _
   ·refine CX.region ?_
    refine RX.cons rfl rfl (op_alloc rfl rfl rfl zero_114 fun g9 => ?_)
    refine RX.cons rfl rfl (op_storeAll (i := 0) rfl rfl rfl rfl szt_114 rfl (plain_of rfl) rfl rfl ?_)
    refine RX.nil (XX.meetP ([]) g9 trivial ⟨rfl, rfl, rfl, rfl, rfl, trivial⟩ ((perm_pick 1 rfl).trans (List.Perm.cons _ ((perm_pick 1 rfl).trans (List.Perm.cons _ ((perm_pick 1 rfl).trans (List.Perm.cons _ ((perm_pick 1 rfl).trans (List.Perm.cons _ ((perm_pick 1 rfl).trans (List.Perm.cons _ ((perm_pick 1 rfl).trans (List.Perm.cons _ ((perm_pick 1 rfl).trans (List.Perm.cons _ ((perm_pick 1 rfl).trans (List.Perm.cons _ ((perm_pick 1 rfl).trans (List.Perm.cons _ ((perm_pick 0 rfl).trans (List.Perm.cons _ (List.Perm.refl _))))))))))))))))))))))
   ·intro g9 _
    refine CX.block ?_
    refine CX.seq ?_
    refine CX.region ?_
    refine RX.cons rfl rfl (op_w (yw_field0 rfl fld_114_0 rfl) rfl rfl ?_)
    refine RX.cons rfl rfl (op_yld (y_load (i := 9) rfl rfl one_3 rfl rfl) rfl rfl ?_)
    refine RX.cons rfl rfl (op_yld (y_load (i := 6) rfl rfl one_3 rfl rfl) rfl rfl ?_)
    refine RX.cons rfl rfl (op_w (yw_eql rfl rfl rfl) rfl rfl ?_)
    refine RX.nil (XX.next (V' := [(4, _), (7, _), (8, .pointer (some ⟨g8, 0, none⟩)), (9, _), (17, _)]) ⟨rfl, rfl, rfl, rfl, rfl, trivial⟩ ?_)
    refine CX.condD (p := y.1 = k) rfl (fun c17 => ?_) (fun c17 => ?_)
    ·refine CX.seq ?_
     refine CX.drawL 8 ([kmap key2 sgV gg kv, pack (List.map sgE kv), .blk gF (.cells (#[.map (some gg), .map (some gcl)]) 110 (0, 0)), .blk g4 (.cells (#[.pointer (some ⟨gF, 0, none⟩)]) 65 (0, 0)), .blk g6 (.cells (#[.int .i64 k]) 3 (0, 0)), .blk g7 (.cells (#[.int .i64 m]) 3 (0, 0)), .blk g9 (.cells (#[.int .i64 y.1, .int .i64 y.2]) 114 (0, 0))]) [(0, 16, 262144), (1, 262144, 524288), (2, 524288, 1048576), (4, 1048576, 2097152), (0, 512, 4194304), (24, 6291456, 8388608), (0, 128, 16777216), (96, 25165824, 33554432), (255, 33554688, 0)] (by kernel_rfl) (by kernel_rfl) (by kernel_rfl) ?_
     refine DX.take 0 1 (by kernel_rfl) rfl rfl rfl rfl rfl (List.Sublist.cons _ (List.Sublist.cons _ (List.Sublist.cons_cons _ (List.Sublist.cons_cons _ (List.Sublist.cons_cons _ (List.Sublist.cons_cons _ (List.Sublist.cons_cons _ (List.Sublist.cons_cons _ (List.Sublist.cons _ (List.Sublist.refl _)))))))))) (y_load (i := 3) rfl rfl one_65 rfl rfl) ?_
     refine DX.takeW 1 3 (by kernel_rfl) rfl rfl rfl rfl rfl (yw_nilCheck rfl rfl) ?_
     refine DX.takeW 2 7 (by kernel_rfl) rfl rfl rfl rfl rfl (yw_field0 rfl fld_110_0 rfl) ?_
     refine DX.take 3 15 (by kernel_rfl) rfl rfl rfl rfl rfl (List.Sublist.cons _ (List.Sublist.cons _ (List.Sublist.cons_cons _ (List.Sublist.cons_cons _ (List.Sublist.cons_cons _ (List.Sublist.cons_cons _ (List.Sublist.cons_cons _ (List.Sublist.cons_cons _ (List.Sublist.cons _ (List.Sublist.refl _)))))))))) (y_load (i := 2) rfl rfl one_107 rfl rfl) ?_
     refine DX.take 4 31 (by kernel_rfl) rfl rfl rfl rfl rfl (List.Sublist.cons _ (List.Sublist.cons _ (List.Sublist.cons_cons _ (List.Sublist.cons_cons _ (List.Sublist.cons_cons _ (List.Sublist.cons_cons _ (List.Sublist.cons_cons _ (List.Sublist.cons_cons _ (List.Sublist.cons _ (List.Sublist.refl _)))))))))) (y_loadA (i := 6) rfl rfl agg_114 rfl rfl) ?_
     refine DX.take 5 63 (by kernel_rfl) rfl rfl rfl rfl rfl (List.Sublist.cons _ (List.Sublist.cons _ (List.Sublist.cons_cons _ (List.Sublist.cons_cons _ (List.Sublist.cons_cons _ (List.Sublist.cons_cons _ (List.Sublist.cons_cons _ (List.Sublist.cons_cons _ (List.Sublist.cons _ (List.Sublist.refl _)))))))))) (y_klookup (i := 0) (k := y) (kv := kv) (encK := key2) (encV := sgV) rfl rfl rfl kmapt_107 rfl) ?_
     refine DX.know (t := 23) (u := .slice ((sgOf y kv).1.1) ((sgOf y kv).2.length) ((sgOf y kv).1.2)) rfl (sgV_of y kv) ?_
     refine DX.take 6 127 (by kernel_rfl) rfl rfl rfl rfl rfl (List.Sublist.cons _ (List.Sublist.cons _ (List.Sublist.cons_cons _ (List.Sublist.cons_cons _ (List.Sublist.cons_cons _ (List.Sublist.cons_cons _ (List.Sublist.cons_cons _ (List.Sublist.cons_cons _ (List.Sublist.cons _ (List.Sublist.refl _)))))))))) (y_load (i := 5) rfl rfl one_3 rfl rfl) ?_
     refine DX.step 7 255 (by kernel_rfl) rfl rfl rfl (op_callV (v := .int .i64 ((cnt (sgOf y kv).2 m : Nat) : Int)) rfl rfl rfl rfl rfl ent_50 (fun w hw => w_count (sgOf y kv).2 (sg_rd hw (i := 3) rfl y) (by rw [sgOf_snd]; exact hkv y) m) (DXs.mk (List.Sublist.cons _ (List.Sublist.cons _ (List.Sublist.cons_cons _ (List.Sublist.cons_cons _ (List.Sublist.cons_cons _ (List.Sublist.cons_cons _ (List.Sublist.cons_cons _ (List.Sublist.cons_cons _ (List.Sublist.cons _ (List.Sublist.refl _)))))))))) ?_))
     refine DX.stepT 8 511 (by kernel_rfl) rfl rfl rfl rfl (op_storeAll (i := 8) rfl rfl rfl rfl szt_3 rfl (plain_of rfl) rfl rfl ?_)
     refine DX.done (by kernel_rfl) (XX.next (V' := [(8, .pointer (some ⟨g8, 0, none⟩))]) ⟨rfl, trivial⟩ ?_)
     refine CX.ret ?_
     refine XX.block_ret ?_
     exact XX.metJ ([.blk g9 (.cells (#[.int .i64 y.1, .int .i64 y.2]) 114 (0, 0))]) (some (cnt (sgOf y kv).2 m)) (.inl ⟨c17, by rw [sgOf_snd]⟩) rfl ((perm_pick 0 rfl).trans (List.Perm.cons _ ((perm_pick 0 rfl).trans (List.Perm.cons _ ((perm_pick 0 rfl).trans (List.Perm.cons _ ((perm_pick 0 rfl).trans (List.Perm.cons _ ((perm_pick 0 rfl).trans (List.Perm.cons _ ((perm_pick 0 rfl).trans (List.Perm.cons _ ((perm_pick 0 rfl).trans (List.Perm.cons _ ((perm_pick 0 rfl).trans (List.Perm.cons _ ((perm_pick 0 rfl).trans (List.Perm.cons _ (List.Perm.refl _)))))))))))))))))))
    ·refine CX.skip (XX.inBlock (V' := []) trivial ?_)
     exact XX.metJ ([.blk g9 (.cells (#[.int .i64 y.1, .int .i64 y.2]) 114 (0, 0))]) none (.inr ⟨c17, rfl⟩) rfl ((perm_pick 0 rfl).trans (List.Perm.cons _ ((perm_pick 0 rfl).trans (List.Perm.cons _ ((perm_pick 0 rfl).trans (List.Perm.cons _ ((perm_pick 0 rfl).trans (List.Perm.cons _ ((perm_pick 0 rfl).trans (List.Perm.cons _ ((perm_pick 0 rfl).trans (List.Perm.cons _ ((perm_pick 0 rfl).trans (List.Perm.cons _ ((perm_pick 0 rfl).trans (List.Perm.cons _ ((perm_pick 0 rfl).trans (List.Perm.cons _ (List.Perm.refl _)))))))))))))))))))
   ·intro y' e'
    rw [← key2_inj e']
    rcases hp with ⟨h5, h6⟩ | ⟨h5, h6⟩
    ·exact .inl ⟨h5, by rw [h6]; rfl, h6⟩
    ·exact .inr ⟨h5, by rw [h6]; rfl, h6⟩
  ·exact fun i st _ hu => (upto_meas hu _ (List.map_take ..).symm).1
  ·exact fun y _ => ⟨y, rfl⟩
  ·exact fun w' hw' => hw'.cellOf (i := 7) rfl rfl
  ·exact fun e w' ⟨h, hwt, he, hz⟩ => ⟨h, went_meas hwt, ⟨_, he⟩, hz.perm ((perm_pick 3 rfl).trans (List.Perm.cons _ ((perm_pick 3 rfl).trans (List.Perm.cons _ ((perm_pick 0 rfl).trans (List.Perm.cons _ ((perm_pick 0 rfl).trans (List.Perm.cons _ ((perm_pick 0 rfl).trans (List.Perm.cons _ ((perm_pick 0 rfl).trans (List.Perm.cons _ ((perm_pick 0 rfl).trans (List.Perm.cons _ ((perm_pick 0 rfl).trans (List.Perm.cons _ ((perm_pick 0 rfl).trans (List.Perm.cons _ ((perm_pick 0 rfl).trans (List.Perm.cons _ ((perm_pick 0 rfl).trans (List.Perm.cons _ ((perm_pick 0 rfl).trans (List.Perm.cons _ (List.Perm.refl _)))))))))))))))))))))))))⟩
 ·intro h l Dk ob hh hp
  obtain rfl : h = none := by cases h with | none => rfl | some v => cases hp
  refine XX.inBlock (V' := [(8, .pointer (some ⟨g8, 0, none⟩))]) ⟨rfl, trivial⟩ ?_
  refine XX.next (V' := [(8, .pointer (some ⟨g8, 0, none⟩))]) ⟨rfl, trivial⟩ ?_
  refine CX.seq ?_
  refine CX.region ?_
  refine RX.cons rfl rfl (op_storeAll (i := 11) rfl rfl rfl rfl szt_3 rfl (plain_of rfl) rfl rfl ?_)
  refine RX.nil (XX.next (V' := [(8, .pointer (some ⟨g8, 0, none⟩))]) ⟨rfl, trivial⟩ ?_)
  refine CX.ret ?_
  exact ret_cellM (i := 11) (k := 1) rfl rfl one_3 rfl rfl fun w1 hw => ⟨(), trivial, by rw [← hh] <;> rfl, hw.pick ((perm_pick 5 rfl).trans (List.Perm.cons _ ((perm_pick 5 rfl).trans (List.Perm.cons _ ((perm_pick 5 rfl).trans (List.Perm.cons _ ((perm_pick 4 rfl).trans (List.Perm.cons _ (List.Perm.refl _)))))))))⟩
 ·intro h l Dk ob c hh hp
  obtain ⟨v, rfl⟩ : ∃ v, h = some v := by cases h with | none => cases hp | some v => exact ⟨v, rfl⟩
  obtain rfl : c = Code.ret := (Option.some.inj hp).symm
  refine CX.ret ?_
  refine XX.block_ret ?_
  refine XX.then_ret ?_
  exact ret_cellM (i := 11) (k := 1) rfl rfl one_3 rfl rfl fun w1 hw => ⟨(), trivial, by rw [← hh] <;> rfl, hw.pick ((perm_pick 5 rfl).trans (List.Perm.cons _ ((perm_pick 5 rfl).trans (List.Perm.cons _ ((perm_pick 5 rfl).trans (List.Perm.cons _ ((perm_pick 4 rfl).trans (List.Perm.cons _ (List.Perm.refl _)))))))))⟩

end Go.Proofs.YtpcfgoadkfajfaaGreatDoor
namespace Go.Proofs.YtpcfgoadkfajfaaGreatDoor
set_option linter.all false
def alR (s : Sm) (r : Ru) : Bool := decide (r.act = 3) && decide (r.n = s.acc)
def mtR (fm : Int → Int → Nat) (a : Int) (r : Ru) : Bool := decide (r.act = a) && decide (r.n < ((fm r.sub r.mea : Nat) : Int))
def mkR (v h : Bool) : Int := if v = true then 3 else if h = true then 2 else 1
def judK (fm : Int → Int → Nat) (rs : List Ru) (s : Sm) : Int := if rs.any (alR s) = true then 1 else mkR (rs.any (mtR fm 2)) (rs.any (mtR fm 1))
theorem any_snoc {α : Type} {p : α → Bool} {l : List α} {i : Nat} {x : α} (h : l[i]? = some x) : (l.take (i + 1)).any p = ((l.take i).any p || p x) := by rw [take_succ h, List.any_append]; simp
theorem any_at {α : Type} {p : α → Bool} {l : List α} {x : α} (h : x ∈ l) (hp : p x = true) : l.any p = true := List.any_eq_true.2 ⟨x, h, hp⟩
theorem mkR_hold (v h : Bool) : max (mkR v h) 2 = mkR v (h || true) := by cases v <;> cases h <;> decide
theorem mkR_void (v h : Bool) : 3 = mkR (v || true) h := by cases v <;> cases h <;> decide
theorem mkR_range (v h : Bool) : 1 ≤ mkR v h ∧ mkR v h ≤ 3 := by cases v <;> cases h <;> decide
theorem judK_filter (rs : List Ru) (l : List Sm) (s : Sm) : judK (fun k m => meas l s k m) (rs.filter okR) s = jud rs l s := by
  have ha : ∀ p q : Ru → Bool, (∀ r, q r = (okR r && p r)) → (rs.filter okR).any p = rs.any q := fun p q h => by
    rw [List.any_filter]; congr 1; funext r; rw [h]
  have e1 : (rs.filter okR).any (alR s) = free rs s := ha _ _ fun r => by unfold alR; rw [Bool.and_assoc]
  have e2 : ∀ a, (rs.filter okR).any (mtR (fun k m => meas l s k m) a) = meets rs l s a := fun a => ha _ _ fun r => by unfold mtR; rw [Bool.and_assoc]
  unfold judK jud mkR
  rw [e1, e2, e2]
end Go.Proofs.YtpcfgoadkfajfaaGreatDoor
namespace Go.Proofs.YtpcfgoadkfajfaaGreatDoor
set_option linter.all false
open Go Go.RowKit
set_option maxRecDepth 100000
theorem ent_25 : ∀ args w, (callFunc 25 args).run Tryz.prog w = .ok (.enter 25 args) w := enters_of Tryz.func25 (by kernel_rfl) rfl
theorem ent_26 : ∀ args w, (callFunc 26 args).run Tryz.prog w = .ok (.enter 26 args) w := enters_of Tryz.func26 (by kernel_rfl) rfl
theorem zero_42 : Zero Tryz.prog 42 (.agg (#[.int .i64 0, .int .i64 0, .int .i64 0, .int .i64 0])) := ⟨(Tryz.prog.info? 42).get!, by kernel_rfl, by kernel_rfl⟩
theorem szt_42 : SzT Tryz.prog 42 4 := ⟨(Tryz.prog.info? 42).get!, by kernel_rfl, by kernel_rfl⟩
set_option maxRecDepth 100000 in
theorem w_Measure {w : World} {A : Option Addr} {cap : Nat} (ls : List Sm) (hr : Rd w A 9 (ls.map smC)) (hl : ls.length ≤ 100000) (s : Sm) (k m : Int) :
    Calls Tryz.prog 12 #[.slice A ls.length cap, .agg (smC s), .int .i64 k, .int .i64 m] w (fun e w' => e = .returned (.int .i64 ((meas ls s k m : Nat) : Int)) ∧ SL w [] w' []) := by
 refine calls_of_CX (O := []) (L := []) (args := [.slice A ls.length cap, .agg (smC s), .int .i64 k, .int .i64 m]) Tryz.func12 rfl (by simp [Tryz.ntmps12]) (SL.refl w) ?_
 refine CX.sub (V' := [(0, .slice A ls.length cap), (1, .agg (smC s)), (2, .int .i64 k), (3, .int .i64 m)]) ⟨rfl, rfl, rfl, rfl, trivial⟩ ?_
 refine CX.seq ?_
 refine CX.region ?_
 refine RX.cons rfl rfl (op_box rfl rfl rfl rfl fun g5 => ?_)
 refine RX.cons rfl rfl (op_w (yw_assign rfl rfl) rfl rfl ?_)
 refine RX.nil (XX.next (V' := [(0, _), (2, _), (3, _), (5, _)]) ⟨rfl, rfl, rfl, rfl, trivial⟩ ?_)
 refine CX.seq ?_
 refine CX.drawL 6 ([.blk g5 (.cells (smC s) 39 (0, 0))]) [(0, 1, 512), (1, 512, 1024), (0, 32, 2048), (0, 4, 4096), (0, 8, 8192), (30, 15360, 16384), (63, 16384, 256)] (by kernel_rfl) (by kernel_rfl) (by kernel_rfl) ?_
 refine DX.takeW 0 1 (by kernel_rfl) rfl rfl rfl rfl rfl (yw_move rfl rfl) ?_
 refine DX.take 2 5 (by kernel_rfl) rfl rfl rfl rfl rfl (List.Sublist.refl _) (y_loadA (i := 0) rfl rfl agg_39 rfl rfl) ?_
 refine DX.takeW 3 13 (by kernel_rfl) rfl rfl rfl rfl rfl (yw_move rfl rfl) ?_
 refine DX.takeW 4 29 (by kernel_rfl) rfl rfl rfl rfl rfl (yw_move rfl rfl) ?_
 refine DX.step 1 31 (by kernel_rfl) rfl rfl rfl (op_callE rfl rfl rfl rfl rfl ent_25 (fun w hw => w_newFilter ls (hw.rd hr (by simp)) hl) (fun ⟨⟨gF, gg, gcl⟩, kv, kvc⟩ ⟨hcl, hgs⟩ => (DXs.mk (List.Sublist.cons _ (List.Sublist.cons _ (List.Sublist.cons _ (List.Sublist.cons _ (List.Sublist.refl _))))) ?_)))
 refine DX.step 5 63 (by kernel_rfl) rfl rfl rfl (op_callP [kmap key2 sgV gg kv, pack (List.map sgE kv), .blk gF (.cells (#[.map (some gg), .map (some gcl)]) 110 (0, 0)), kmap (fun x : Int => Value.int .i64 x) (fun x : Int => Value.int .i64 x) gcl kvc] [.blk g5 (.cells (smC s) 39 (0, 0))] rfl rfl rfl rfl rfl ent_26 ((perm_pick 0 rfl).trans (List.Perm.cons _ ((perm_pick 0 rfl).trans (List.Perm.cons _ ((perm_pick 0 rfl).trans (List.Perm.cons _ ((perm_pick 0 rfl).trans (List.Perm.cons _ (List.Perm.refl _))))))))) (σ := Unit) (val := fun _ => .int .i64 ((fmeas kvc kv s k m : Nat) : Int)) (LL := fun _ => [kmap key2 sgV gg kv, pack (List.map sgE kv), .blk gF (.cells (#[.map (some gg), .map (some gcl)]) 110 (0, 0)), kmap (fun x : Int => Value.int .i64 x) (fun x : Int => Value.int .i64 x) gcl kvc]) (post := fun _ => True) (fun w hw hs => w_measure kv kvc s k m (fun y => Nat.le_trans (hgs.len y) (by omega)) hs) (fun _ _ => (DXs.mk (List.Sublist.cons _ (List.Sublist.cons _ (List.Sublist.cons _ (List.Sublist.cons _ (List.Sublist.refl _))))) ?_)))
 refine DX.takeW 6 127 (by kernel_rfl) rfl rfl rfl rfl rfl (yw_assign rfl rfl) ?_
 refine DX.done (by kernel_rfl) (XX.next (V' := [(8, .int .i64 ((fmeas kvc kv s k m : Nat) : Int))]) ⟨rfl, trivial⟩ ?_)
 refine CX.ret ?_
 exact ret_tmp rfl rfl fun w1 hw => ⟨by rw [fmeas_eq hcl hgs], hw.sub (List.nil_sublist _)⟩

set_option maxRecDepth 100000 in
theorem w_judge {w : World} {gg gF gcl : Nat} {A : Option Addr} {cap : Nat} (kv : List ((Int × Int) × Sg)) (kvc : List (Int × Int)) (rs : List Ru) (s : Sm) (hkv : ∀ y, (grpOf y kv).length ≤ 1000000) (hr : Rd w A 4 (rs.map ruC)) (hl : rs.length ≤ 1000000) (hO : ∀ q, A = some q → q.block ∉ (List.flatMap Ent.blocks [kmap key2 sgV gg kv, pack (List.map sgE kv), .blk gF (.cells (#[.map (some gg), .map (some gcl)]) 110 (0, 0)), kmap (fun x : Int => Value.int .i64 x) (fun x : Int => Value.int .i64 x) gcl kvc])) (hs : SL w (List.flatMap Ent.blocks [kmap key2 sgV gg kv, pack (List.map sgE kv), .blk gF (.cells (#[.map (some gg), .map (some gcl)]) 110 (0, 0)), kmap (fun x : Int => Value.int .i64 x) (fun x : Int => Value.int .i64 x) gcl kvc]) w [kmap key2 sgV gg kv, pack (List.map sgE kv), .blk gF (.cells (#[.map (some gg), .map (some gcl)]) 110 (0, 0)), kmap (fun x : Int => Value.int .i64 x) (fun x : Int => Value.int .i64 x) gcl kvc]) :
    Calls Tryz.prog 31 #[.pointer (some ⟨gF, 0, none⟩), .slice A rs.length cap, .agg (smC s)] w (fun e w' => ∃ z : Unit, True ∧ e = .returned (.int .i64 (judK (fmeas kvc kv s) rs s)) ∧ SL w (List.flatMap Ent.blocks [kmap key2 sgV gg kv, pack (List.map sgE kv), .blk gF (.cells (#[.map (some gg), .map (some gcl)]) 110 (0, 0)), kmap (fun x : Int => Value.int .i64 x) (fun x : Int => Value.int .i64 x) gcl kvc]) w' [kmap key2 sgV gg kv, pack (List.map sgE kv), .blk gF (.cells (#[.map (some gg), .map (some gcl)]) 110 (0, 0)), kmap (fun x : Int => Value.int .i64 x) (fun x : Int => Value.int .i64 x) gcl kvc]) := by
 refine calls_of_CX (O := (List.flatMap Ent.blocks [kmap key2 sgV gg kv, pack (List.map sgE kv), .blk gF (.cells (#[.map (some gg), .map (some gcl)]) 110 (0, 0)), kmap (fun x : Int => Value.int .i64 x) (fun x : Int => Value.int .i64 x) gcl kvc])) (L := [kmap key2 sgV gg kv, pack (List.map sgE kv), .blk gF (.cells (#[.map (some gg), .map (some gcl)]) 110 (0, 0)), kmap (fun x : Int => Value.int .i64 x) (fun x : Int => Value.int .i64 x) gcl kvc]) (args := [.pointer (some ⟨gF, 0, none⟩), .slice A rs.length cap, .agg (smC s)]) Tryz.func31 rfl (by simp [Tryz.ntmps31]) hs ?_
 refine CX.sub (V' := [(0, .pointer (some ⟨gF, 0, none⟩)), (1, .slice A rs.length cap), (2, .agg (smC s))]) ⟨rfl, rfl, rfl, trivial⟩ ?_
 refine CX.seq ?_
 refine CX.region ?_
 refine RX.cons rfl rfl (op_box rfl rfl rfl rfl fun g5 => ?_)
 refine RX.cons rfl rfl (op_w (yw_assign rfl rfl) rfl rfl ?_)
 refine RX.nil (XX.next (V' := [(0, _), (1, _), (5, _)]) ⟨rfl, rfl, rfl, trivial⟩ ?_)
 refine CX.seq ?_
 refine CX.region ?_
 refine RX.cons rfl rfl (op_w (yw_assign rfl rfl) rfl rfl ?_)
 refine RX.nil (XX.next (V' := [(0, _), (1, _), (5, _), (7, _)]) ⟨rfl, rfl, rfl, rfl, trivial⟩ ?_)
 refine CX.seq ?_
 refine CX.seq ?_
 refine CX.region ?_
 refine RX.cons rfl rfl (op_w (yw_move rfl rfl) rfl rfl ?_)
 refine RX.cons rfl rfl (op_w (yw_lenS rfl Tryz.underlying23 rfl) rfl rfl ?_)
 refine RX.cons rfl rfl (op_w (yw_move rfl rfl) rfl rfl ?_)
 refine RX.nil (XX.next (V' := [(0, _), (5, _), (7, _), (10, _), (11, _), (12, _)]) ⟨rfl, rfl, rfl, rfl, rfl, rfl, trivial⟩ ?_)
 refine CX.block ?_
 refine CX.loop (σ := Nat × Int) (fun z => [(0, .pointer (some ⟨gF, 0, none⟩)), (5, .pointer (some ⟨g5, 0, none⟩)), (7, .int .i64 z.2), (10, .slice A rs.length cap), (11, .int .i64 ((rs.length : Nat) : Int)), (12, .int .i64 ((z.1 : Nat) : Int))]) (fun z => [.blk g5 (.cells (smC s) 39 (0, 0)), kmap key2 sgV gg kv, pack (List.map sgE kv), .blk gF (.cells (#[.map (some gg), .map (some gcl)]) 110 (0, 0)), kmap (fun x : Int => Value.int .i64 x) (fun x : Int => Value.int .i64 x) gcl kvc]) (fun z => z.1 ≤ rs.length ∧ (List.take z.1 rs).any (alR s) = false ∧ z.2 = mkR ((List.take z.1 rs).any (mtR (fmeas kvc kv s) 2)) ((List.take z.1 rs).any (mtR (fmeas kvc kv s) 1))) (fun z => rs.length - z.1) (0, 1) ⟨Nat.zero_le _, rfl, rfl⟩ ⟨rfl, rfl, rfl, rfl, rfl, rfl, trivial⟩ rfl (fun z hI => ?_)
 obtain ⟨i, mark⟩ := z
 dsimp only at hI ⊢
 obtain ⟨hi, hal, hmk⟩ := hI
 have hmr := mkR_range ((List.take i rs).any (mtR (fmeas kvc kv s) 2)) ((List.take i rs).any (mtR (fmeas kvc kv s) 1))
 rw [← hmk] at hmr
 refine CX.seq ?_
 refine CX.region ?_
 refine RX.cons rfl rfl (op_w (yw_lss rfl rfl rfl) rfl rfl ?_)
 refine RX.nil (XX.next (V' := [(0, _), (5, _), (7, _), (10, _), (11, _), (12, _), (13, _)]) ⟨rfl, rfl, rfl, rfl, rfl, rfl, rfl, trivial⟩ ?_)
 refine CX.seq ?_
 refine CX.condD (p := ((i : Nat) : Int) < ((rs.length : Nat) : Int)) rfl (fun c13 => ?_) (fun c13 => ?_)
 ·obtain ⟨x0, hx0⟩ := get_some (l := rs) (k := i) (by omega)
  have hx0m := List.mem_of_getElem? hx0
  have hA : ∃ b j, A = some ⟨b, j, none⟩ := hr.some (k := 0) (by simp; omega)
  have hO1 : ab A ∉ (List.flatMap Ent.blocks [kmap key2 sgV gg kv, pack (List.map sgE kv), .blk gF (.cells (#[.map (some gg), .map (some gcl)]) 110 (0, 0)), kmap (fun x : Int => Value.int .i64 x) (fun x : Int => Value.int .i64 x) gcl kvc]) := by obtain ⟨b, j, e⟩ := hA; rw [e]; exact hO _ e
  refine CX.skip (XX.next (V' := [(0, _), (5, _), (7, _), (10, _), (11, _), (12, _)]) ⟨rfl, rfl, rfl, rfl, rfl, rfl, trivial⟩ ?_)
  refine CX.seq ?_
  refine CX.block ?_
  refine CX.seq ?_
  refine CX.region ?_
  refine RX.cons rfl rfl (op_w (yw_index (k := i) rfl slt_23 rfl rfl (by omega) (by omega) hA) rfl rfl ?_)
  refine RX.cons rfl rfl (op_yld (y_elem rfl rfl agg_42 hr hO1 (map_get hx0)) rfl rfl ?_)
  refine RX.cons rfl rfl (op_alloc rfl rfl rfl zero_42 fun g9 => ?_)
  refine RX.cons rfl rfl (op_storeAll (i := 0) rfl rfl rfl rfl szt_42 rfl (plain_of rfl) rfl rfl ?_)
  refine RX.nil (XX.next (V' := [(0, _), (5, _), (7, _), (9, _), (10, _), (11, _), (12, _)]) ⟨rfl, rfl, rfl, rfl, rfl, rfl, rfl, trivial⟩ ?_)
  refine CX.seq ?_
  refine CX.region ?_
  refine RX.cons rfl rfl (op_w (yw_field0 rfl fld_42_0 rfl) rfl rfl ?_)
  refine RX.cons rfl rfl (op_yld (y_load (i := 0) rfl rfl one_3 rfl rfl) rfl rfl ?_)
  refine RX.nil (XX.next (V' := [(0, _), (5, _), (7, _), (9, _), (10, _), (11, _), (12, _), (17, _)]) ⟨rfl, rfl, rfl, rfl, rfl, rfl, rfl, rfl, trivial⟩ ?_)
  refine CX.block ?_
  refine CX.seq ?_
  refine CX.region ?_
  refine RX.cons rfl rfl (op_w (yw_eql rfl rfl rfl) rfl rfl ?_)
  refine RX.cons rfl rfl (op_w (yw_assign rfl rfl) rfl rfl ?_)
  refine RX.nil (XX.next (V' := [(0, _), (5, _), (7, _), (9, _), (10, _), (11, _), (12, _), (17, _), (18, _)]) ⟨rfl, rfl, rfl, rfl, rfl, rfl, rfl, rfl, rfl, trivial⟩ ?_)
  refine CX.condD (p := Ru.act x0 = 3) rfl (fun c18 => ?_) (fun c18 => ?_)
  ·refine CX.seq ?_
   refine CX.region ?_
   refine RX.cons rfl rfl (op_w (yw_fieldAddr rfl fld_42_3 rfl) rfl rfl ?_)
   refine RX.cons rfl rfl (op_yld (y_load (i := 0) rfl rfl one_3 rfl rfl) rfl rfl ?_)
   refine RX.cons rfl rfl (op_w (yw_fieldAddr rfl fld_39_2 rfl) rfl rfl ?_)
   refine RX.cons rfl rfl (op_yld (y_load (i := 1) rfl rfl one_3 rfl rfl) rfl rfl ?_)
   refine RX.cons rfl rfl (op_w (yw_eql rfl rfl rfl) rfl rfl ?_)
   refine RX.nil (XX.next (V' := [(0, _), (5, _), (7, _), (10, _), (11, _), (12, _), (24, _)]) ⟨rfl, rfl, rfl, rfl, rfl, rfl, rfl, trivial⟩ ?_)
   refine CX.condD (p := Ru.n x0 = Sm.acc s) rfl (fun c24 => ?_) (fun c24 => ?_)
   ·refine CX.seq ?_
    refine CX.region ?_
    refine RX.cons rfl rfl (op_w (yw_assign rfl rfl) rfl rfl ?_)
    refine RX.nil (XX.next (V' := [(6, .int .i64 1)]) ⟨rfl, trivial⟩ ?_)
    refine CX.ret ?_
    refine XX.block_ret ?_
    refine XX.block_ret ?_
    refine XX.then_ret ?_
    refine XX.then_ret ?_
    refine XX.block_ret ?_
    refine XX.then_ret ?_
    exact ret_tmp rfl rfl fun w1 hw => ⟨(), trivial, by rw [judK, if_pos (any_at hx0m (by simp [alR]; omega))], hw.pick ((perm_pick 2 rfl).trans (List.Perm.cons _ ((perm_pick 2 rfl).trans (List.Perm.cons _ ((perm_pick 2 rfl).trans (List.Perm.cons _ ((perm_pick 2 rfl).trans (List.Perm.cons _ (List.Perm.refl _)))))))))⟩
   ·refine CX.skip (XX.inBlock (V' := [(0, _), (5, _), (7, _), (10, _), (11, _), (12, _)]) ⟨rfl, rfl, rfl, rfl, rfl, rfl, trivial⟩ ?_)
    refine XX.inBlock (V' := [(0, _), (5, _), (7, _), (10, _), (11, _), (12, _)]) ⟨rfl, rfl, rfl, rfl, rfl, rfl, trivial⟩ ?_
    refine XX.next (V' := [(0, _), (5, _), (7, _), (10, _), (11, _), (12, _)]) ⟨rfl, rfl, rfl, rfl, rfl, rfl, trivial⟩ ?_
    refine CX.region ?_
    refine RX.cons rfl rfl (op_w (yw_add rfl rfl rfl (by omega) (by omega)) rfl rfl ?_)
    refine RX.cons rfl rfl (op_w (yw_move rfl rfl) rfl rfl ?_)
    refine RX.nil (XX.againP ([.blk g9 (.cells (ruC x0) 42 (0, 0))]) (i + 1, mark) (by dsimp only; omega) ⟨by dsimp only; omega, by dsimp only; rw [any_snoc hx0, hal, show alR s x0 = false from (by simp [alR]; omega)]; rfl, by dsimp only; rw [any_snoc hx0, any_snoc hx0, show mtR (fmeas kvc kv s) 2 x0 = false from (by simp [mtR]; omega), show mtR (fmeas kvc kv s) 1 x0 = false from (by simp [mtR]; omega)]; rw [Bool.or_false, Bool.or_false]; exact hmk⟩ ⟨rfl, rfl, rfl, rfl, rfl, rfl, trivial⟩ ((perm_pick 1 rfl).trans (List.Perm.cons _ ((perm_pick 1 rfl).trans (List.Perm.cons _ ((perm_pick 1 rfl).trans (List.Perm.cons _ ((perm_pick 1 rfl).trans (List.Perm.cons _ ((perm_pick 1 rfl).trans (List.Perm.cons _ (List.Perm.refl _))))))))))))
  ·refine CX.seq ?_
   refine CX.region ?_
   refine RX.cons rfl rfl (op_w (yw_eql rfl rfl rfl) rfl rfl ?_)
   refine RX.cons rfl rfl (op_w (yw_assign rfl rfl) rfl rfl ?_)
   refine RX.nil (XX.next (V' := [(0, _), (5, _), (7, _), (9, _), (10, _), (11, _), (12, _), (17, _), (25, _)]) ⟨rfl, rfl, rfl, rfl, rfl, rfl, rfl, rfl, rfl, trivial⟩ ?_)
   refine CX.condD (p := Ru.act x0 = 1) rfl (fun c25 => ?_) (fun c25 => ?_)
   ·refine CX.seq ?_
    refine CX.drawL 10 ([.blk g9 (.cells (ruC x0) 42 (0, 0)), .blk g5 (.cells (smC s) 39 (0, 0))]) [(0, 1, 134217728), (0, 32, 268435456), (0, 512, 536870912), (4, 536870912, 1073741824), (0, 512, 2147483648), (16, 2147483648, 4294967296), (43, 5771362304, 8589934592), (0, 512, 17179869184), (128, 17179869184, 34359738368), (320, 42949672960, 68719476736)] (by kernel_rfl) (by kernel_rfl) (by kernel_rfl) ?_
    refine DX.takeW 0 1 (by kernel_rfl) rfl rfl rfl rfl rfl (yw_move rfl rfl) ?_
    refine DX.take 1 3 (by kernel_rfl) rfl rfl rfl rfl rfl (List.Sublist.cons_cons _ (List.Sublist.cons_cons _ (List.nil_sublist _))) (y_loadA (i := 1) rfl rfl agg_39 rfl rfl) ?_
    refine DX.takeW 2 7 (by kernel_rfl) rfl rfl rfl rfl rfl (yw_fieldAddr rfl fld_42_1 rfl) ?_
    refine DX.take 3 15 (by kernel_rfl) rfl rfl rfl rfl rfl (List.Sublist.cons_cons _ (List.Sublist.cons_cons _ (List.nil_sublist _))) (y_load (i := 0) rfl rfl one_3 rfl rfl) ?_
    refine DX.takeW 4 31 (by kernel_rfl) rfl rfl rfl rfl rfl (yw_fieldAddr rfl fld_42_2 rfl) ?_
    refine DX.take 5 63 (by kernel_rfl) rfl rfl rfl rfl rfl (List.Sublist.cons_cons _ (List.Sublist.cons_cons _ (List.nil_sublist _))) (y_load (i := 0) rfl rfl one_3 rfl rfl) ?_
    refine DX.takeW 7 191 (by kernel_rfl) rfl rfl rfl rfl rfl (yw_fieldAddr rfl fld_42_3 rfl) ?_
    refine DX.take 8 447 (by kernel_rfl) rfl rfl rfl rfl rfl (List.Sublist.cons_cons _ (List.Sublist.cons_cons _ (List.nil_sublist _))) (y_load (i := 0) rfl rfl one_3 rfl rfl) ?_
    refine DX.step 6 511 (by kernel_rfl) rfl rfl rfl (op_callP [kmap key2 sgV gg kv, pack (List.map sgE kv), .blk gF (.cells (#[.map (some gg), .map (some gcl)]) 110 (0, 0)), kmap (fun x : Int => Value.int .i64 x) (fun x : Int => Value.int .i64 x) gcl kvc] [.blk g9 (.cells (ruC x0) 42 (0, 0)), .blk g5 (.cells (smC s) 39 (0, 0))] rfl rfl rfl rfl rfl ent_26 ((perm_pick 2 rfl).trans (List.Perm.cons _ ((perm_pick 2 rfl).trans (List.Perm.cons _ ((perm_pick 2 rfl).trans (List.Perm.cons _ ((perm_pick 2 rfl).trans (List.Perm.cons _ (List.Perm.refl _))))))))) (σ := Unit) (val := fun _ => .int .i64 ((fmeas kvc kv s (Ru.sub x0) (Ru.mea x0) : Nat) : Int)) (LL := fun _ => [kmap key2 sgV gg kv, pack (List.map sgE kv), .blk gF (.cells (#[.map (some gg), .map (some gcl)]) 110 (0, 0)), kmap (fun x : Int => Value.int .i64 x) (fun x : Int => Value.int .i64 x) gcl kvc]) (post := fun _ => True) (fun w hw hs => w_measure kv kvc s (Ru.sub x0) (Ru.mea x0) hkv hs) (fun _ _ => (DXs.mk (List.Sublist.cons _ (List.Sublist.cons _ (List.Sublist.cons _ (List.Sublist.cons _ (List.Sublist.refl _))))) ?_)))
    refine DX.takeW 9 1023 (by kernel_rfl) rfl rfl rfl rfl rfl (yw_gtr rfl rfl rfl) ?_
    refine DX.done (by kernel_rfl) (XX.next (V' := [(0, _), (5, _), (7, _), (10, _), (11, _), (12, _), (36, _)]) ⟨rfl, rfl, rfl, rfl, rfl, rfl, rfl, trivial⟩ ?_)
    refine CX.condD (p := Ru.n x0 < ((fmeas kvc kv s (Ru.sub x0) (Ru.mea x0) : Nat) : Int)) rfl (fun c36 => ?_) (fun c36 => ?_)
    ·refine CX.region ?_
     refine RX.cons rfl rfl (op_w (yw_move rfl rfl) rfl rfl ?_)
     refine RX.cons rfl rfl (op_w (yw_max rfl rfl rfl) rfl rfl ?_)
     refine RX.cons rfl rfl (op_w (yw_assign rfl rfl) rfl rfl ?_)
     refine RX.nil (XX.inBlock (V' := [(0, _), (5, _), (7, _), (10, _), (11, _), (12, _)]) ⟨rfl, rfl, rfl, rfl, rfl, rfl, trivial⟩ ?_)
     refine XX.inBlock (V' := [(0, _), (5, _), (7, _), (10, _), (11, _), (12, _)]) ⟨rfl, rfl, rfl, rfl, rfl, rfl, trivial⟩ ?_
     refine XX.next (V' := [(0, _), (5, _), (7, _), (10, _), (11, _), (12, _)]) ⟨rfl, rfl, rfl, rfl, rfl, rfl, trivial⟩ ?_
     refine CX.region ?_
     refine RX.cons rfl rfl (op_w (yw_add rfl rfl rfl (by omega) (by omega)) rfl rfl ?_)
     refine RX.cons rfl rfl (op_w (yw_move rfl rfl) rfl rfl ?_)
     refine RX.nil (XX.againP ([.blk g9 (.cells (ruC x0) 42 (0, 0))]) (i + 1, max mark 2) (by dsimp only; omega) ⟨by dsimp only; omega, by dsimp only; rw [any_snoc hx0, hal, show alR s x0 = false from (by simp [alR]; omega)]; rfl, by dsimp only; rw [any_snoc hx0, any_snoc hx0, show mtR (fmeas kvc kv s) 2 x0 = false from (by simp [mtR]; omega), show mtR (fmeas kvc kv s) 1 x0 = true from (by simp [mtR]; omega)]; rw [Bool.or_false, hmk]; exact mkR_hold _ _⟩ ⟨rfl, rfl, rfl, rfl, rfl, rfl, trivial⟩ ((perm_pick 5 rfl).trans (List.Perm.cons _ ((perm_pick 0 rfl).trans (List.Perm.cons _ ((perm_pick 0 rfl).trans (List.Perm.cons _ ((perm_pick 0 rfl).trans (List.Perm.cons _ ((perm_pick 0 rfl).trans (List.Perm.cons _ (List.Perm.refl _))))))))))))
    ·refine CX.skip (XX.inBlock (V' := [(0, _), (5, _), (7, _), (10, _), (11, _), (12, _)]) ⟨rfl, rfl, rfl, rfl, rfl, rfl, trivial⟩ ?_)
     refine XX.inBlock (V' := [(0, _), (5, _), (7, _), (10, _), (11, _), (12, _)]) ⟨rfl, rfl, rfl, rfl, rfl, rfl, trivial⟩ ?_
     refine XX.next (V' := [(0, _), (5, _), (7, _), (10, _), (11, _), (12, _)]) ⟨rfl, rfl, rfl, rfl, rfl, rfl, trivial⟩ ?_
     refine CX.region ?_
     refine RX.cons rfl rfl (op_w (yw_add rfl rfl rfl (by omega) (by omega)) rfl rfl ?_)
     refine RX.cons rfl rfl (op_w (yw_move rfl rfl) rfl rfl ?_)
     refine RX.nil (XX.againP ([.blk g9 (.cells (ruC x0) 42 (0, 0))]) (i + 1, mark) (by dsimp only; omega) ⟨by dsimp only; omega, by dsimp only; rw [any_snoc hx0, hal, show alR s x0 = false from (by simp [alR]; omega)]; rfl, by dsimp only; rw [any_snoc hx0, any_snoc hx0, show mtR (fmeas kvc kv s) 2 x0 = false from (by simp [mtR]; omega), show mtR (fmeas kvc kv s) 1 x0 = false from (by simp [mtR]; omega)]; rw [Bool.or_false, Bool.or_false]; exact hmk⟩ ⟨rfl, rfl, rfl, rfl, rfl, rfl, trivial⟩ ((perm_pick 5 rfl).trans (List.Perm.cons _ ((perm_pick 0 rfl).trans (List.Perm.cons _ ((perm_pick 0 rfl).trans (List.Perm.cons _ ((perm_pick 0 rfl).trans (List.Perm.cons _ ((perm_pick 0 rfl).trans (List.Perm.cons _ (List.Perm.refl _))))))))))))
   ·refine CX.seq ?_
    refine CX.region ?_
    refine RX.cons rfl rfl (op_w (yw_eql rfl rfl rfl) rfl rfl ?_)
    refine RX.cons rfl rfl (op_w (yw_assign rfl rfl) rfl rfl ?_)
    refine RX.nil (XX.next (V' := [(0, _), (5, _), (7, _), (9, _), (10, _), (11, _), (12, _), (39, _)]) ⟨rfl, rfl, rfl, rfl, rfl, rfl, rfl, rfl, trivial⟩ ?_)
    refine CX.condD (p := Ru.act x0 = 2) rfl (fun c39 => ?_) (fun c39 => ?_)
    ·refine CX.seq ?_
     refine CX.drawL 10 ([.blk g9 (.cells (ruC x0) 42 (0, 0)), .blk g5 (.cells (smC s) 39 (0, 0))]) [(0, 1, 2199023255552), (0, 32, 4398046511104), (0, 512, 8796093022208), (4, 8796093022208, 17592186044416), (0, 512, 35184372088832), (16, 35184372088832, 70368744177664), (43, 94557999988736, 140737488355328), (0, 512, 281474976710656), (128, 281474976710656, 562949953421312), (320, 703687441776640, 1125899906842624)] (by kernel_rfl) (by kernel_rfl) (by kernel_rfl) ?_
     refine DX.takeW 0 1 (by kernel_rfl) rfl rfl rfl rfl rfl (yw_move rfl rfl) ?_
     refine DX.take 1 3 (by kernel_rfl) rfl rfl rfl rfl rfl (List.Sublist.cons_cons _ (List.Sublist.cons_cons _ (List.nil_sublist _))) (y_loadA (i := 1) rfl rfl agg_39 rfl rfl) ?_
     refine DX.takeW 2 7 (by kernel_rfl) rfl rfl rfl rfl rfl (yw_fieldAddr rfl fld_42_1 rfl) ?_
     refine DX.take 3 15 (by kernel_rfl) rfl rfl rfl rfl rfl (List.Sublist.cons_cons _ (List.Sublist.cons_cons _ (List.nil_sublist _))) (y_load (i := 0) rfl rfl one_3 rfl rfl) ?_
     refine DX.takeW 4 31 (by kernel_rfl) rfl rfl rfl rfl rfl (yw_fieldAddr rfl fld_42_2 rfl) ?_
     refine DX.take 5 63 (by kernel_rfl) rfl rfl rfl rfl rfl (List.Sublist.cons_cons _ (List.Sublist.cons_cons _ (List.nil_sublist _))) (y_load (i := 0) rfl rfl one_3 rfl rfl) ?_
     refine DX.takeW 7 191 (by kernel_rfl) rfl rfl rfl rfl rfl (yw_fieldAddr rfl fld_42_3 rfl) ?_
     refine DX.take 8 447 (by kernel_rfl) rfl rfl rfl rfl rfl (List.Sublist.cons_cons _ (List.Sublist.cons_cons _ (List.nil_sublist _))) (y_load (i := 0) rfl rfl one_3 rfl rfl) ?_
     refine DX.step 6 511 (by kernel_rfl) rfl rfl rfl (op_callP [kmap key2 sgV gg kv, pack (List.map sgE kv), .blk gF (.cells (#[.map (some gg), .map (some gcl)]) 110 (0, 0)), kmap (fun x : Int => Value.int .i64 x) (fun x : Int => Value.int .i64 x) gcl kvc] [.blk g9 (.cells (ruC x0) 42 (0, 0)), .blk g5 (.cells (smC s) 39 (0, 0))] rfl rfl rfl rfl rfl ent_26 ((perm_pick 2 rfl).trans (List.Perm.cons _ ((perm_pick 2 rfl).trans (List.Perm.cons _ ((perm_pick 2 rfl).trans (List.Perm.cons _ ((perm_pick 2 rfl).trans (List.Perm.cons _ (List.Perm.refl _))))))))) (σ := Unit) (val := fun _ => .int .i64 ((fmeas kvc kv s (Ru.sub x0) (Ru.mea x0) : Nat) : Int)) (LL := fun _ => [kmap key2 sgV gg kv, pack (List.map sgE kv), .blk gF (.cells (#[.map (some gg), .map (some gcl)]) 110 (0, 0)), kmap (fun x : Int => Value.int .i64 x) (fun x : Int => Value.int .i64 x) gcl kvc]) (post := fun _ => True) (fun w hw hs => w_measure kv kvc s (Ru.sub x0) (Ru.mea x0) hkv hs) (fun _ _ => (DXs.mk (List.Sublist.cons _ (List.Sublist.cons _ (List.Sublist.cons _ (List.Sublist.cons _ (List.Sublist.refl _))))) ?_)))
     refine DX.takeW 9 1023 (by kernel_rfl) rfl rfl rfl rfl rfl (yw_gtr rfl rfl rfl) ?_
     refine DX.done (by kernel_rfl) (XX.next (V' := [(0, _), (5, _), (7, _), (10, _), (11, _), (12, _), (50, _)]) ⟨rfl, rfl, rfl, rfl, rfl, rfl, rfl, trivial⟩ ?_)
     refine CX.condD (p := Ru.n x0 < ((fmeas kvc kv s (Ru.sub x0) (Ru.mea x0) : Nat) : Int)) rfl (fun c50 => ?_) (fun c50 => ?_)
     ·refine CX.region ?_
      refine RX.cons rfl rfl (op_w (yw_assign rfl rfl) rfl rfl ?_)
      refine RX.nil (XX.inBlock (V' := [(0, _), (5, _), (7, _), (10, _), (11, _), (12, _)]) ⟨rfl, rfl, rfl, rfl, rfl, rfl, trivial⟩ ?_)
      refine XX.inBlock (V' := [(0, _), (5, _), (7, _), (10, _), (11, _), (12, _)]) ⟨rfl, rfl, rfl, rfl, rfl, rfl, trivial⟩ ?_
      refine XX.next (V' := [(0, _), (5, _), (7, _), (10, _), (11, _), (12, _)]) ⟨rfl, rfl, rfl, rfl, rfl, rfl, trivial⟩ ?_
      refine CX.region ?_
      refine RX.cons rfl rfl (op_w (yw_add rfl rfl rfl (by omega) (by omega)) rfl rfl ?_)
      refine RX.cons rfl rfl (op_w (yw_move rfl rfl) rfl rfl ?_)
      refine RX.nil (XX.againP ([.blk g9 (.cells (ruC x0) 42 (0, 0))]) (i + 1, 3) (by dsimp only; omega) ⟨by dsimp only; omega, by dsimp only; rw [any_snoc hx0, hal, show alR s x0 = false from (by simp [alR]; omega)]; rfl, by dsimp only; rw [any_snoc hx0, any_snoc hx0, show mtR (fmeas kvc kv s) 2 x0 = true from (by simp [mtR]; omega), show mtR (fmeas kvc kv s) 1 x0 = false from (by simp [mtR]; omega)]; rw [Bool.or_false]; exact mkR_void _ _⟩ ⟨rfl, rfl, rfl, rfl, rfl, rfl, trivial⟩ ((perm_pick 5 rfl).trans (List.Perm.cons _ ((perm_pick 0 rfl).trans (List.Perm.cons _ ((perm_pick 0 rfl).trans (List.Perm.cons _ ((perm_pick 0 rfl).trans (List.Perm.cons _ ((perm_pick 0 rfl).trans (List.Perm.cons _ (List.Perm.refl _))))))))))))
     ·refine CX.skip (XX.inBlock (V' := [(0, _), (5, _), (7, _), (10, _), (11, _), (12, _)]) ⟨rfl, rfl, rfl, rfl, rfl, rfl, trivial⟩ ?_)
      refine XX.inBlock (V' := [(0, _), (5, _), (7, _), (10, _), (11, _), (12, _)]) ⟨rfl, rfl, rfl, rfl, rfl, rfl, trivial⟩ ?_
      refine XX.next (V' := [(0, _), (5, _), (7, _), (10, _), (11, _), (12, _)]) ⟨rfl, rfl, rfl, rfl, rfl, rfl, trivial⟩ ?_
      refine CX.region ?_
      refine RX.cons rfl rfl (op_w (yw_add rfl rfl rfl (by omega) (by omega)) rfl rfl ?_)
      refine RX.cons rfl rfl (op_w (yw_move rfl rfl) rfl rfl ?_)
      refine RX.nil (XX.againP ([.blk g9 (.cells (ruC x0) 42 (0, 0))]) (i + 1, mark) (by dsimp only; omega) ⟨by dsimp only; omega, by dsimp only; rw [any_snoc hx0, hal, show alR s x0 = false from (by simp [alR]; omega)]; rfl, by dsimp only; rw [any_snoc hx0, any_snoc hx0, show mtR (fmeas kvc kv s) 2 x0 = false from (by simp [mtR]; omega), show mtR (fmeas kvc kv s) 1 x0 = false from (by simp [mtR]; omega)]; rw [Bool.or_false, Bool.or_false]; exact hmk⟩ ⟨rfl, rfl, rfl, rfl, rfl, rfl, trivial⟩ ((perm_pick 5 rfl).trans (List.Perm.cons _ ((perm_pick 0 rfl).trans (List.Perm.cons _ ((perm_pick 0 rfl).trans (List.Perm.cons _ ((perm_pick 0 rfl).trans (List.Perm.cons _ ((perm_pick 0 rfl).trans (List.Perm.cons _ (List.Perm.refl _))))))))))))
    ·refine CX.skip (XX.inBlock (V' := [(0, _), (5, _), (7, _), (10, _), (11, _), (12, _)]) ⟨rfl, rfl, rfl, rfl, rfl, rfl, trivial⟩ ?_)
     refine XX.inBlock (V' := [(0, _), (5, _), (7, _), (10, _), (11, _), (12, _)]) ⟨rfl, rfl, rfl, rfl, rfl, rfl, trivial⟩ ?_
     refine XX.next (V' := [(0, _), (5, _), (7, _), (10, _), (11, _), (12, _)]) ⟨rfl, rfl, rfl, rfl, rfl, rfl, trivial⟩ ?_
     refine CX.region ?_
     refine RX.cons rfl rfl (op_w (yw_add rfl rfl rfl (by omega) (by omega)) rfl rfl ?_)
     refine RX.cons rfl rfl (op_w (yw_move rfl rfl) rfl rfl ?_)
     refine RX.nil (XX.againP ([.blk g9 (.cells (ruC x0) 42 (0, 0))]) (i + 1, mark) (by dsimp only; omega) ⟨by dsimp only; omega, by dsimp only; rw [any_snoc hx0, hal, show alR s x0 = false from (by simp [alR]; omega)]; rfl, by dsimp only; rw [any_snoc hx0, any_snoc hx0, show mtR (fmeas kvc kv s) 2 x0 = false from (by simp [mtR]; omega), show mtR (fmeas kvc kv s) 1 x0 = false from (by simp [mtR]; omega)]; rw [Bool.or_false, Bool.or_false]; exact hmk⟩ ⟨rfl, rfl, rfl, rfl, rfl, rfl, trivial⟩ ((perm_pick 1 rfl).trans (List.Perm.cons _ ((perm_pick 1 rfl).trans (List.Perm.cons _ ((perm_pick 1 rfl).trans (List.Perm.cons _ ((perm_pick 1 rfl).trans (List.Perm.cons _ ((perm_pick 1 rfl).trans (List.Perm.cons _ (List.Perm.refl _))))))))))))
 ·rw [List.take_of_length_le (by omega)] at hal hmk
  refine CX.exit ?_
  refine XX.then_exit ?_
  refine XX.then_exit ?_
  refine XX.block_exit ?_
  refine XX.next (V' := [(7, _)]) ⟨rfl, trivial⟩ ?_
  refine CX.seq ?_
  refine CX.region ?_
  refine RX.cons rfl rfl (op_w (yw_move rfl rfl) rfl rfl ?_)
  refine RX.cons rfl rfl (op_w (yw_assign rfl rfl) rfl rfl ?_)
  refine RX.nil (XX.next (V' := [(6, .int .i64 mark)]) ⟨rfl, trivial⟩ ?_)
  refine CX.ret ?_
  exact ret_tmp rfl rfl fun w1 hw => ⟨(), trivial, by rw [judK, if_neg (by rw [hal]; decide), ← hmk], hw.pick ((perm_pick 1 rfl).trans (List.Perm.cons _ ((perm_pick 1 rfl).trans (List.Perm.cons _ ((perm_pick 1 rfl).trans (List.Perm.cons _ ((perm_pick 1 rfl).trans (List.Perm.cons _ (List.Perm.refl _)))))))))⟩

end Go.Proofs.YtpcfgoadkfajfaaGreatDoor
namespace Go.Proofs.YtpcfgoadkfajfaaGreatDoor
set_option linter.all false
open Go Go.RowKit
set_option maxRecDepth 100000
theorem slb_23 : SlB Tryz.prog 23 42 4 32 (.agg (#[.int .i64 0, .int .i64 0, .int .i64 0, .int .i64 0])) := ⟨Tryz.underlying23, ⟨(Tryz.prog.info? 42).get!, by kernel_rfl, by kernel_rfl, by kernel_rfl, by kernel_rfl⟩, by decide, by decide⟩
theorem ent_29 : ∀ args w, (callFunc 29 args).run Tryz.prog w = .ok (.enter 29 args) w := enters_of Tryz.func29 (by kernel_rfl) rfl
theorem nil_of {w : World} {A : Option Addr} {sz : Nat} {α : Type} {enc : α → Array Value} {xs : List α} (hr : Rd w A sz (xs.map enc)) (h : Option.isNone A = true) : xs = [] := by
  cases xs with
  | nil => rfl
  | cons x r =>
    obtain ⟨b, j, e⟩ := hr.some (k := 0) (by simp)
    rw [e] at h; cases h
/-- What is deleted from a list: the rules that are not valid. -/
theorem take_filter_snoc {l : List Ru} {j : Nat} {x : Ru} (h : l[j]? = some x) : (l.take (j + 1)).filter okR = (l.take j).filter okR ++ (if okR x = true then [x] else []) := by
  rw [take_succ h, List.filter_append]; congr 1
  by_cases e : okR x = true <;> simp [e]
theorem set_take_succ {α : Type} {l : List α} {i : Nat} (x : α) (h : i < l.length) : (l.set i x).take (i + 1) = l.take i ++ [x] := by
  rw [List.take_add_one, List.take_set_of_le (Nat.le_refl _), List.getElem?_set_self h]; rfl
theorem filter_all_ok {l : List Ru} (h : ∀ x ∈ l, okR x = true) : l.filter okR = l := List.filter_eq_self.2 h
set_option maxRecDepth 100000 in
theorem w_cloneR {w : World} {A : Option Addr} {cap : Nat} (rs : List Ru) (hr : Rd w A 4 (rs.map ruC)) (hl : rs.length ≤ 1000000) :
    Calls Tryz.prog 28 #[.slice A rs.length cap] w (fun e w' => ∃ z : Option Addr × Nat, True ∧ e = .returned (.slice z.1 rs.length z.2) ∧ SL w [] w' [.row z.1 z.2 42 4 (List.map ruC rs)]) := by
 refine calls_of_CX (O := []) (L := []) (args := [.slice A rs.length cap]) Tryz.func28 rfl (by simp [Tryz.ntmps28]) (SL.refl w) ?_
 refine CX.sub (V' := [(0, .slice A rs.length cap)]) ⟨rfl, trivial⟩ ?_
 refine CX.seq ?_
 refine CX.region ?_
 refine RX.cons rfl rfl (op_w (yw_assign rfl rfl) rfl rfl ?_)
 refine RX.nil (XX.next (V' := [(0, _)]) ⟨rfl, trivial⟩ ?_)
 refine CX.seq ?_
 refine CX.seq ?_
 refine CX.region ?_
 refine RX.cons rfl rfl (op_w (yw_move rfl rfl) rfl rfl ?_)
 refine RX.cons rfl rfl (op_w (yw_slnil rfl Tryz.underlying23 rfl rfl) rfl rfl ?_)
 refine RX.nil (XX.next (V' := [(0, _), (4, _)]) ⟨rfl, rfl, trivial⟩ ?_)
 refine CX.cond (b := Option.isNone A) rfl (fun c4 => ?_) (fun c4 => ?_)
 ·obtain rfl : rs = [] := nil_of hr c4
  refine CX.rowNil 42 4 ?_
  refine CX.seq ?_
  refine CX.region ?_
  refine RX.cons rfl rfl (op_w (yw_assign rfl rfl) rfl rfl ?_)
  refine RX.nil (XX.next (V' := [(2, .slice none 0 0)]) ⟨rfl, trivial⟩ ?_)
  refine CX.ret ?_
  refine XX.then_ret ?_
  exact ret_tmp rfl rfl fun w1 hw => ⟨(none, 0), trivial, rfl, hw⟩
 ·refine CX.skip (XX.next (V' := [(0, _)]) ⟨rfl, trivial⟩ ?_)
  refine CX.seq ?_
  refine CX.region ?_
  refine RX.cons rfl rfl (op_buildSlice rfl rfl rfl slb_23 rfl rfl (by intro v hv; simp at hv) (by decide) fun rr => ?_)
  refine RX.cons rfl rfl (op_w (yw_move rfl rfl) rfl rfl ?_)
  refine RX.cons rfl rfl (op_appendM0 ruC (i := 0) (xs := []) rs rfl rfl rfl slb_23 rfl rfl rfl rfl hr (by simp) (by simp; omega) (by simp; omega) fun A1 c1 => ?_)
  refine RX.cons rfl rfl (op_w (yw_assign rfl rfl) rfl rfl ?_)
  refine RX.nil (XX.next (V' := [(2, .slice A1 (([] ++ rs).length) c1)]) ⟨rfl, trivial⟩ ?_)
  refine CX.ret ?_
  exact ret_tmp rfl rfl fun w1 hw => ⟨(A1, c1), trivial, rfl, hw⟩

set_option maxRecDepth 100000 in
theorem w_cloneS {w : World} {A : Option Addr} {cap : Nat} (ls : List Sm) (hr : Rd w A 9 (ls.map smC)) (hl : ls.length ≤ 1000000) :
    Calls Tryz.prog 21 #[.slice A ls.length cap] w (fun e w' => ∃ z : Option Addr × Nat, True ∧ e = .returned (.slice z.1 ls.length z.2) ∧ SL w [] w' [.row z.1 z.2 39 9 (List.map smC ls)]) := by
 refine calls_of_CX (O := []) (L := []) (args := [.slice A ls.length cap]) Tryz.func21 rfl (by simp [Tryz.ntmps21]) (SL.refl w) ?_
 refine CX.sub (V' := [(0, .slice A ls.length cap)]) ⟨rfl, trivial⟩ ?_
 refine CX.seq ?_
 refine CX.region ?_
 refine RX.cons rfl rfl (op_w (yw_assign rfl rfl) rfl rfl ?_)
 refine RX.nil (XX.next (V' := [(0, _)]) ⟨rfl, trivial⟩ ?_)
 refine CX.seq ?_
 refine CX.seq ?_
 refine CX.region ?_
 refine RX.cons rfl rfl (op_w (yw_move rfl rfl) rfl rfl ?_)
 refine RX.cons rfl rfl (op_w (yw_slnil rfl Tryz.underlying34 rfl rfl) rfl rfl ?_)
 refine RX.nil (XX.next (V' := [(0, _), (4, _)]) ⟨rfl, rfl, trivial⟩ ?_)
 refine CX.cond (b := Option.isNone A) rfl (fun c4 => ?_) (fun c4 => ?_)
 ·obtain rfl : ls = [] := nil_of hr c4
  refine CX.rowNil 39 9 ?_
  refine CX.seq ?_
  refine CX.region ?_
  refine RX.cons rfl rfl (op_w (yw_assign rfl rfl) rfl rfl ?_)
  refine RX.nil (XX.next (V' := [(2, .slice none 0 0)]) ⟨rfl, trivial⟩ ?_)
  refine CX.ret ?_
  refine XX.then_ret ?_
  exact ret_tmp rfl rfl fun w1 hw => ⟨(none, 0), trivial, rfl, hw⟩
 ·refine CX.skip (XX.next (V' := [(0, _)]) ⟨rfl, trivial⟩ ?_)
  refine CX.seq ?_
  refine CX.region ?_
  refine RX.cons rfl rfl (op_buildSlice rfl rfl rfl slb_34 rfl rfl (by intro v hv; simp at hv) (by decide) fun sr => ?_)
  refine RX.cons rfl rfl (op_w (yw_move rfl rfl) rfl rfl ?_)
  refine RX.cons rfl rfl (op_appendM0 smC (i := 0) (xs := []) ls rfl rfl rfl slb_34 rfl rfl rfl rfl hr (by simp) (by simp; omega) (by simp; omega) fun A1 c1 => ?_)
  refine RX.cons rfl rfl (op_w (yw_assign rfl rfl) rfl rfl ?_)
  refine RX.nil (XX.next (V' := [(2, .slice A1 (([] ++ ls).length) c1)]) ⟨rfl, trivial⟩ ?_)
  refine CX.ret ?_
  exact ret_tmp rfl rfl fun w1 hw => ⟨(A1, c1), trivial, rfl, hw⟩

set_option maxRecDepth 100000 in
theorem w_idxR {w : World} {A : Option Addr} {cap : Nat} (rs : List Ru) (hr : Rd w A 4 (rs.map ruC)) (hl : rs.length ≤ 1000000) :
    Calls Tryz.prog 51 #[.slice A rs.length cap, .func (.func 29) #[] #[]] w (fun e w' => ∃ v : Int, ((∃ (j : Nat) (x : Ru), v = ((j : Nat) : Int) ∧ rs[j]? = some x ∧ okR x = false ∧ ∀ y ∈ rs.take j, okR y = true) ∨ (v = -1 ∧ ∀ y ∈ rs, okR y = true)) ∧ e = .returned (.int .i64 v) ∧ SL w [] w' []) := by
 refine calls_of_CX (O := []) (L := []) (args := [.slice A rs.length cap, .func (.func 29) #[] #[]]) Tryz.func51 rfl (by simp [Tryz.ntmps51]) (SL.refl w) ?_
 refine CX.sub (V' := [(0, .slice A rs.length cap), (1, .func (.func 29) #[] #[])]) ⟨rfl, rfl, trivial⟩ ?_
 refine CX.seq ?_
 refine CX.region ?_
 refine RX.cons rfl rfl (op_w (yw_assign rfl rfl) rfl rfl ?_)
 refine RX.nil (XX.next (V' := [(0, _), (1, _)]) ⟨rfl, rfl, trivial⟩ ?_)
 refine CX.seq ?_
 refine CX.seq ?_
 refine CX.region ?_
 refine RX.cons rfl rfl (op_w (yw_move rfl rfl) rfl rfl ?_)
 refine RX.cons rfl rfl (op_w (yw_lenS rfl Tryz.underlying23 rfl) rfl rfl ?_)
 refine RX.cons rfl rfl (op_w (yw_move rfl rfl) rfl rfl ?_)
 refine RX.nil (XX.next (V' := [(0, _), (1, _), (7, _), (8, _)]) ⟨rfl, rfl, rfl, rfl, trivial⟩ ?_)
 refine CX.block ?_
 refine CX.loop (σ := Nat) (fun i => [(0, .slice A rs.length cap), (1, .func (.func 29) #[] #[]), (7, .int .i64 ((rs.length : Nat) : Int)), (8, .int .i64 ((i : Nat) : Int))]) (fun i => []) (fun i => i ≤ rs.length ∧ ∀ y ∈ rs.take i, okR y = true) (fun i => rs.length - i) 0 ⟨Nat.zero_le _, by simp⟩ ⟨rfl, rfl, rfl, rfl, trivial⟩ rfl (fun i hI => ?_)
 obtain ⟨hi, hall⟩ := hI
 refine CX.seq ?_
 refine CX.region ?_
 refine RX.cons rfl rfl (op_w (yw_lss rfl rfl rfl) rfl rfl ?_)
 refine RX.nil (XX.next (V' := [(0, _), (1, _), (7, _), (8, _), (9, _)]) ⟨rfl, rfl, rfl, rfl, rfl, trivial⟩ ?_)
 refine CX.seq ?_
 refine CX.condD (p := ((i : Nat) : Int) < ((rs.length : Nat) : Int)) rfl (fun c9 => ?_) (fun c9 => ?_)
 ·obtain ⟨x0, hx0⟩ := get_some (l := rs) (k := i) (by omega)
  have hx0m := List.mem_of_getElem? hx0
  have hA : ∃ b j, A = some ⟨b, j, none⟩ := hr.some (k := 0) (by simp; omega)
  refine CX.skip (XX.next (V' := [(0, _), (1, _), (7, _), (8, _)]) ⟨rfl, rfl, rfl, rfl, trivial⟩ ?_)
  refine CX.seq ?_
  refine CX.block ?_
  refine CX.seq ?_
  refine CX.region ?_
  refine RX.cons rfl rfl (op_w (yw_move rfl rfl) rfl rfl ?_)
  refine RX.cons rfl rfl (op_w (yw_assign rfl rfl) rfl rfl ?_)
  refine RX.nil (XX.next (V' := [(0, _), (1, _), (5, _), (7, _), (8, _)]) ⟨rfl, rfl, rfl, rfl, rfl, trivial⟩ ?_)
  refine CX.seq ?_
  refine CX.region ?_
  refine RX.cons rfl rfl (op_w (yw_move rfl rfl) rfl rfl ?_)
  refine RX.cons rfl rfl (op_w (yw_move rfl rfl) rfl rfl ?_)
  refine RX.cons rfl rfl (op_w (yw_move rfl rfl) rfl rfl ?_)
  refine RX.cons rfl rfl (op_w (yw_index (k := i) rfl slt_23 rfl rfl (by omega) (by omega) hA) rfl rfl ?_)
  refine RX.cons rfl rfl (op_yld (y_elem rfl rfl agg_42 hr (by simp) (map_get hx0)) rfl rfl ?_)
  refine RX.cons rfl rfl (op_callV (v := .bool (!(okR x0))) rfl rfl rfl rfl rfl ent_29 (fun w hw => w_judge1 x0) ?_)
  refine RX.nil (XX.next (V' := [(0, _), (1, _), (5, _), (7, _), (8, _), (16, _)]) ⟨rfl, rfl, rfl, rfl, rfl, rfl, trivial⟩ ?_)
  refine CX.cond (b := !(okR x0)) rfl (fun c16 => ?_) (fun c16 => ?_)
  ·refine CX.seq ?_
   refine CX.region ?_
   refine RX.cons rfl rfl (op_w (yw_move rfl rfl) rfl rfl ?_)
   refine RX.cons rfl rfl (op_w (yw_assign rfl rfl) rfl rfl ?_)
   refine RX.nil (XX.next (V' := [(4, .int .i64 ((i : Nat) : Int))]) ⟨rfl, trivial⟩ ?_)
   refine CX.ret ?_
   refine XX.block_ret ?_
   refine XX.then_ret ?_
   refine XX.then_ret ?_
   refine XX.block_ret ?_
   refine XX.then_ret ?_
   exact ret_tmp rfl rfl fun w1 hw => ⟨((i : Nat) : Int), .inl ⟨i, x0, rfl, hx0, by simpa using c16, hall⟩, rfl, hw.sub (List.nil_sublist _)⟩
  ·refine CX.skip (XX.inBlock (V' := [(0, _), (1, _), (7, _), (8, _)]) ⟨rfl, rfl, rfl, rfl, trivial⟩ ?_)
   refine XX.next (V' := [(0, _), (1, _), (7, _), (8, _)]) ⟨rfl, rfl, rfl, rfl, trivial⟩ ?_
   refine CX.region ?_
   refine RX.cons rfl rfl (op_w (yw_add rfl rfl rfl (by omega) (by omega)) rfl rfl ?_)
   refine RX.cons rfl rfl (op_w (yw_move rfl rfl) rfl rfl ?_)
   refine RX.nil (XX.againP ([]) (i + 1) (by omega) ⟨by omega, all_snocP (p := fun x : Ru => okR x = true) hx0 (by simpa using c16) hall⟩ ⟨rfl, rfl, rfl, rfl, trivial⟩ (List.Perm.refl _))
 ·rw [List.take_of_length_le (by omega)] at hall
  refine CX.exit ?_
  refine XX.then_exit ?_
  refine XX.then_exit ?_
  refine XX.block_exit ?_
  refine XX.next (V' := []) trivial ?_
  refine CX.seq ?_
  refine CX.region ?_
  refine RX.cons rfl rfl (op_w (yw_assign rfl rfl) rfl rfl ?_)
  refine RX.nil (XX.next (V' := [(4, .int .i64 (-1))]) ⟨rfl, trivial⟩ ?_)
  refine CX.ret ?_
  exact ret_tmp rfl rfl fun w1 hw => ⟨-1, .inr ⟨rfl, hall⟩, rfl, hw.sub (List.nil_sublist _)⟩

end Go.Proofs.YtpcfgoadkfajfaaGreatDoor
