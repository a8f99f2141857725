/- Walks, printed by a program. Walks, printed by a program. Ranges over functions, and scopes, in the calculus. Walks, printed by a program. Ranges over functions whose rounds go on to the end: what an iterator hands over, one item a round. Blocks of the call's own and others; rounds. More for the walks of law08. Walks, printed by a program. Maps with keys of any comparable kind, as lists of keys and elements in the order in which the keys came. The rules of maps with keys of any kind; keys that are integers, or structs of two fields. Joined nodes: parents as a list of keys and elements, and what they represent. No program in it. Bytes as a string. -/
import Derived.Test.YtpcfgoadkfajfaaGreatDoorK4
import Derived.Test.YtpcfgoadkfajfaaGreatDoorK2
import Derived.RangeFuncLeaves
import Derived.RangeFuncRecord
import Derived.Scope
import Derived.Test.YtpcfgoadkfajfaaGreatDoorK3
import Derived.Laws.Small
import Derived.Laws.BytesString
namespace Go.Proofs.YtpcfgoadkfajfaaGreatDoor.Se
set_option linter.all false
open Go Go.RowKit
set_option maxRecDepth 100000
theorem ent_116 : ∀ args w, (callFunc 116 args).run Tryz.prog w = .ok (.enter 116 args) w := enters_of Tryz.func116 (by kernel_rfl) rfl
theorem ent_96 : ∀ args w, (callFunc 96 args).run Tryz.prog w = .ok (.enter 96 args) w := enters_of Tryz.func96 (by kernel_rfl) rfl
set_option maxRecDepth 100000 in
theorem w_stable {w : World} {A : Option Addr} {cap len : Nat} (xs : List Fct) (hlen : xs.length = len) (hA : 0 < len → ∃ b j, A = some ⟨b, j, none⟩) (hn : len ≤ 1000000)(hs : SL w (rowO A) w [PRow A cap xs]) :
    Calls Tryz.prog 96 #[.slice A len cap, .int .i64 ((len : Nat) : Int), .func (.func 46) #[] #[]] w (fun e w' => e = .returned (.tuple #[]) ∧ SL w (rowO A) w' [PRow A cap (Srt.isort before xs)]) := by
 refine calls_of_CX (O := (rowO A)) (L := [PRow A cap xs]) (args := [.slice A len cap, .int .i64 ((len : Nat) : Int), .func (.func 46) #[] #[]]) Tryz.func96 rfl (by simp [Tryz.ntmps96]) hs ?_
 refine CX.sub (V' := [(0, .slice A len cap), (1, .int .i64 ((len : Nat) : Int)), (2, .func (.func 46) #[] #[])]) ⟨rfl, rfl, rfl, trivial⟩ ?_
 refine CX.seq ?_
 refine CX.region ?_
 refine RX.cons rfl rfl (op_w (yw_assign rfl rfl) rfl rfl ?_)
 refine RX.nil (XX.next (V' := [(0, _), (1, _), (2, _), (6, _)]) ⟨rfl, rfl, rfl, rfl, trivial⟩ ?_)
 refine CX.seq ?_
 refine CX.region ?_
 refine RX.cons rfl rfl (op_w (yw_move rfl rfl) rfl rfl ?_)
 refine RX.cons rfl rfl (op_w (yw_assign rfl rfl) rfl rfl ?_)
 refine RX.cons rfl rfl (op_w (yw_assign rfl rfl) rfl rfl ?_)
 refine RX.nil (XX.next (V' := [(0, _), (1, _), (2, _), (6, _), (7, _), (8, _)]) ⟨rfl, rfl, rfl, rfl, rfl, rfl, trivial⟩ ?_)
 refine CX.seq ?_
 refine CX.block ?_
 refine CX.loop (σ := Nat) (fun c => [(0, .slice A len cap), (1, .int .i64 ((len : Nat) : Int)), (2, .func (.func 46) #[] #[]), (6, .int .i64 20), (7, .int .i64 ((20 * c : Nat) : Int)), (8, .int .i64 ((20 * c + 20 : Nat) : Int))]) (fun c => [PRow A cap (Srt.cs before 20 c xs)]) (fun c => 20 * c ≤ len) (fun c => len - 20 * c) 0 (by omega) ⟨rfl, rfl, rfl, rfl, rfl, rfl, trivial⟩ rfl (fun c hI => ?_)
 refine CX.seq ?_
 refine CX.seq ?_
 refine CX.region ?_
 refine RX.cons rfl rfl (op_w (yw_move rfl rfl) rfl rfl ?_)
 refine RX.cons rfl rfl (op_w (yw_move rfl rfl) rfl rfl ?_)
 refine RX.cons rfl rfl (op_w (yw_leq rfl rfl rfl) rfl rfl ?_)
 refine RX.nil (XX.next (V' := [(0, _), (1, _), (2, _), (6, _), (7, _), (8, _), (13, _)]) ⟨rfl, rfl, rfl, rfl, rfl, rfl, rfl, trivial⟩ ?_)
 refine CX.condD (p := ((20 * c + 20 : Nat) : Int) ≤ ((len : Nat) : Int)) rfl (fun c13 => ?_) (fun c13 => ?_)
 ·obtain ⟨P, s, r, hP, hPl, hsl, hP2⟩ := Srt.cs_ins (lt := before) (k := 20) (c := c) (a := 20 * c) hlen rfl (by omega)
  refine CX.skip (XX.next (V' := [(0, _), (1, _), (2, _), (6, _), (7, _), (8, _)]) ⟨rfl, rfl, rfl, rfl, rfl, rfl, trivial⟩ ?_)
  refine CX.block ?_
  refine CX.seq ?_
  refine CX.region ?_
  refine RX.cons rfl rfl (op_w (yw_move rfl rfl) rfl rfl ?_)
  refine RX.cons rfl rfl (op_w (yw_move rfl rfl) rfl rfl ?_)
  refine RX.cons rfl rfl (op_w (yw_move rfl rfl) rfl rfl ?_)
  refine RX.cons rfl rfl (op_w (yw_move rfl rfl) rfl rfl ?_)
  refine RX.cons rfl rfl (op_callP [PRow A cap (Srt.cs before 20 c xs)] [] rfl rfl rfl rfl rfl ent_116 ((perm_pick 0 rfl).trans (List.Perm.cons _ (List.Perm.refl _))) (σ := Unit) (val := fun _ => .tuple #[]) (LL := fun _ => [PRow A cap (P ++ Srt.isort before s ++ r)]) (post := fun _ => True) (fun w hw hs => (w_insertion P s r (20 * c) (20 * c + 20) (by rw [← hlen, ← Srt.cs_length (lt := before) 20 c xs, hP]) (by omega) (by omega) hA hn (prow_eq hP hs)).mono fun e w' h => ⟨(), trivial, h⟩) (fun _ _ => ?_))
  refine RX.nil (XX.next (V' := [(0, _), (1, _), (2, _), (6, _), (8, _)]) ⟨rfl, rfl, rfl, rfl, rfl, trivial⟩ ?_)
  refine CX.seq ?_
  refine CX.region ?_
  refine RX.cons rfl rfl (op_w (yw_move rfl rfl) rfl rfl ?_)
  refine RX.cons rfl rfl (op_w (yw_assign rfl rfl) rfl rfl ?_)
  refine RX.nil (XX.next (V' := [(0, _), (1, _), (2, _), (6, _), (7, _), (8, _)]) ⟨rfl, rfl, rfl, rfl, rfl, rfl, trivial⟩ ?_)
  refine CX.region ?_
  refine RX.cons rfl rfl (op_w (yw_move rfl rfl) rfl rfl ?_)
  refine RX.cons rfl rfl (op_w (yw_move rfl rfl) rfl rfl ?_)
  refine RX.cons rfl rfl (op_w (yw_add rfl rfl rfl (by omega) (by omega)) rfl rfl ?_)
  refine RX.know (t := 22) (u := .int .i64 ((20 * (c + 1) + 20 : Nat) : Int)) rfl (congrArg (Value.int .i64) (by omega)) ?_
  refine RX.cons rfl rfl (op_w (yw_assign rfl rfl) rfl rfl ?_)
  refine RX.nil (XX.inBlock (V' := [(0, _), (1, _), (2, _), (6, _), (7, _), (8, _)]) ⟨rfl, rfl, rfl, rfl, rfl, rfl, trivial⟩ ?_)
  refine XX.againP ([]) (c + 1) (by omega) (by omega) ⟨rfl, rfl, rfl, rfl, rfl, rfl, trivial⟩ (by rw [hP2] <;> exact List.Perm.refl _)
 ·obtain ⟨P, s, hP, hPl, hsl, hP2⟩ := Srt.cs_rest (lt := before) (k := 20) (c := c) (a := 20 * c) (by decide) hlen rfl (by omega) (by omega)
  refine CX.exit ?_
  refine XX.then_exit ?_
  refine XX.then_exit ?_
  refine XX.block_exit ?_
  refine XX.next (V' := [(0, _), (1, _), (2, _), (6, _), (7, _)]) ⟨rfl, rfl, rfl, rfl, rfl, trivial⟩ ?_
  refine CX.seq ?_
  refine CX.region ?_
  refine RX.cons rfl rfl (op_w (yw_move rfl rfl) rfl rfl ?_)
  refine RX.cons rfl rfl (op_w (yw_move rfl rfl) rfl rfl ?_)
  refine RX.cons rfl rfl (op_w (yw_move rfl rfl) rfl rfl ?_)
  refine RX.cons rfl rfl (op_w (yw_move rfl rfl) rfl rfl ?_)
  refine RX.cons rfl rfl (op_callP [PRow A cap (Srt.cs before 20 c xs)] [] rfl rfl rfl rfl rfl ent_116 ((perm_pick 0 rfl).trans (List.Perm.cons _ (List.Perm.refl _))) (σ := Unit) (val := fun _ => .tuple #[]) (LL := fun _ => [PRow A cap (P ++ Srt.isort before s ++ [])]) (post := fun _ => True) (fun w hw hs => (w_insertion P s [] (20 * c) len (by rw [← hlen, ← Srt.cs_length (lt := before) 20 c xs, hP] <;> simp) (by omega) (by omega) hA hn (prow_eq (by rw [hP]; simp) hs)).mono fun e w' h => ⟨(), trivial, h⟩) (fun _ _ => ?_))
  refine RX.nil (XX.next (V' := [(0, _), (1, _), (2, _), (6, _)]) ⟨rfl, rfl, rfl, rfl, trivial⟩ ?_)
  refine CX.block ?_
  refine CX.loop (σ := Nat) (fun k => [(0, .slice A len cap), (1, .int .i64 ((len : Nat) : Int)), (2, .func (.func 46) #[] #[]), (6, .int .i64 ((k : Nat) : Int))]) (fun k => [PRow A cap (Srt.cs before k (len + 1) xs)]) (fun k => 0 < k ∧ k ≤ 2000020) (fun k => len - k) 20 ⟨by decide, by decide⟩ ⟨rfl, rfl, rfl, rfl, trivial⟩ (by rw [hP2] <;> simp) (fun k hI => ?_)
  obtain ⟨hk, hk2⟩ := hI
  refine CX.seq ?_
  refine CX.seq ?_
  refine CX.region ?_
  refine RX.cons rfl rfl (op_w (yw_move rfl rfl) rfl rfl ?_)
  refine RX.cons rfl rfl (op_w (yw_move rfl rfl) rfl rfl ?_)
  refine RX.cons rfl rfl (op_w (yw_lss rfl rfl rfl) rfl rfl ?_)
  refine RX.nil (XX.next (V' := [(0, _), (1, _), (2, _), (6, _), (30, _)]) ⟨rfl, rfl, rfl, rfl, rfl, trivial⟩ ?_)
  refine CX.condD (p := ((k : Nat) : Int) < ((len : Nat) : Int)) rfl (fun c30 => ?_) (fun c30 => ?_)
  ·refine CX.skip (XX.next (V' := [(0, _), (1, _), (2, _), (6, _)]) ⟨rfl, rfl, rfl, rfl, trivial⟩ ?_)
   refine CX.block ?_
   refine CX.seq ?_
   refine CX.region ?_
   refine RX.cons rfl rfl (op_w (yw_move rfl rfl) rfl rfl ?_)
   refine RX.cons rfl rfl (op_w (yw_mul rfl rfl rfl (by omega) (by omega)) rfl rfl ?_)
   refine RX.know (t := 32) (u := .int .i64 ((2 * k : Nat) : Int)) rfl (congrArg (Value.int .i64) (by omega)) ?_
   refine RX.cons rfl rfl (op_w (yw_assign rfl rfl) rfl rfl ?_)
   refine RX.cons rfl rfl (op_w (yw_assign rfl rfl) rfl rfl ?_)
   refine RX.know (t := 8) (u := .int .i64 ((0 + 2 * k : Nat) : Int)) rfl (congrArg (Value.int .i64) (by omega)) ?_
   refine RX.nil (XX.next (V' := [(0, _), (1, _), (2, _), (6, _), (7, _), (8, _)]) ⟨rfl, rfl, rfl, rfl, rfl, rfl, trivial⟩ ?_)
   refine CX.seq ?_
   refine CX.block ?_
   refine CX.loop (σ := Nat × Nat) (fun z => [(0, .slice A len cap), (1, .int .i64 ((len : Nat) : Int)), (2, .func (.func 46) #[] #[]), (6, .int .i64 ((k : Nat) : Int)), (7, .int .i64 ((z.1 : Nat) : Int)), (8, .int .i64 ((z.1 + 2 * k : Nat) : Int))]) (fun z => [PRow A cap (Srt.ms before k (len + 1) z.2 xs)]) (fun z => z.1 = 2 * k * z.2 ∧ z.1 ≤ len) (fun z => len - z.1) (0, 0) ⟨rfl, Nat.zero_le _⟩ ⟨rfl, rfl, rfl, rfl, rfl, rfl, trivial⟩ rfl (fun z hI => ?_)
   obtain ⟨a, d⟩ := z
   dsimp only at hI ⊢
   obtain ⟨ha, han⟩ := hI
   refine CX.seq ?_
   refine CX.seq ?_
   refine CX.region ?_
   refine RX.cons rfl rfl (op_w (yw_move rfl rfl) rfl rfl ?_)
   refine RX.cons rfl rfl (op_w (yw_move rfl rfl) rfl rfl ?_)
   refine RX.cons rfl rfl (op_w (yw_leq rfl rfl rfl) rfl rfl ?_)
   refine RX.nil (XX.next (V' := [(0, _), (1, _), (2, _), (6, _), (7, _), (8, _), (35, _)]) ⟨rfl, rfl, rfl, rfl, rfl, rfl, rfl, trivial⟩ ?_)
   refine CX.condD (p := ((a + 2 * k : Nat) : Int) ≤ ((len : Nat) : Int)) rfl (fun c35 => ?_) (fun c35 => ?_)
   ·obtain ⟨P, A', B', R, hP, hPl, hA', hB', hSA, hSB, hP2⟩ := Srt.ms_one before_swo hk hlen ha (by omega)
    refine CX.skip (XX.next (V' := [(0, _), (1, _), (2, _), (6, _), (7, _), (8, _)]) ⟨rfl, rfl, rfl, rfl, rfl, rfl, trivial⟩ ?_)
    refine CX.block ?_
    refine CX.seq ?_
    refine CX.region ?_
    refine RX.cons rfl rfl (op_w (yw_move rfl rfl) rfl rfl ?_)
    refine RX.cons rfl rfl (op_w (yw_move rfl rfl) rfl rfl ?_)
    refine RX.cons rfl rfl (op_w (yw_move rfl rfl) rfl rfl ?_)
    refine RX.cons rfl rfl (op_w (yw_move rfl rfl) rfl rfl ?_)
    refine RX.cons rfl rfl (op_w (yw_add rfl rfl rfl (by omega) (by omega)) rfl rfl ?_)
    refine RX.know (t := 40) (u := .int .i64 ((a + k : Nat) : Int)) rfl (congrArg (Value.int .i64) (by omega)) ?_
    refine RX.cons rfl rfl (op_w (yw_move rfl rfl) rfl rfl ?_)
    refine RX.cons rfl rfl (op_w (yw_move rfl rfl) rfl rfl ?_)
    refine RX.cons rfl rfl (op_callP [PRow A cap (Srt.ms before k (len + 1) d xs)] [] rfl rfl rfl rfl rfl ent_117 ((perm_pick 0 rfl).trans (List.Perm.cons _ (List.Perm.refl _))) (σ := Unit) (val := fun _ => .tuple #[]) (LL := fun _ => [PRow A cap (P ++ Srt.isort before (A' ++ B') ++ R)]) (post := fun _ => True) (fun w hw hs => (symOk _ P A' B' R a (a + k) (a + 2 * k) (Nat.lt_succ_self _) (by rw [← hlen, ← Srt.ms_length (lt := before) k (len + 1) d xs, hP]) (by omega) (by omega) (by omega) hSA hSB (by omega) (by omega) hA hn (prow_eq hP hs)).mono fun e w' h => ⟨(), trivial, h⟩) (fun _ _ => ?_))
    refine RX.nil (XX.next (V' := [(0, _), (1, _), (2, _), (6, _), (8, _)]) ⟨rfl, rfl, rfl, rfl, rfl, trivial⟩ ?_)
    refine CX.seq ?_
    refine CX.region ?_
    refine RX.cons rfl rfl (op_w (yw_move rfl rfl) rfl rfl ?_)
    refine RX.cons rfl rfl (op_w (yw_assign rfl rfl) rfl rfl ?_)
    refine RX.nil (XX.next (V' := [(0, _), (1, _), (2, _), (6, _), (7, _), (8, _)]) ⟨rfl, rfl, rfl, rfl, rfl, rfl, trivial⟩ ?_)
    refine CX.region ?_
    refine RX.cons rfl rfl (op_w (yw_move rfl rfl) rfl rfl ?_)
    refine RX.cons rfl rfl (op_w (yw_move rfl rfl) rfl rfl ?_)
    refine RX.cons rfl rfl (op_w (yw_mul rfl rfl rfl (by omega) (by omega)) rfl rfl ?_)
    refine RX.know (t := 47) (u := .int .i64 ((2 * k : Nat) : Int)) rfl (congrArg (Value.int .i64) (by omega)) ?_
    refine RX.cons rfl rfl (op_w (yw_add rfl rfl rfl (by omega) (by omega)) rfl rfl ?_)
    refine RX.know (t := 48) (u := .int .i64 ((a + 2 * k + 2 * k : Nat) : Int)) rfl (congrArg (Value.int .i64) (by omega)) ?_
    refine RX.cons rfl rfl (op_w (yw_assign rfl rfl) rfl rfl ?_)
    refine RX.nil (XX.inBlock (V' := [(0, _), (1, _), (2, _), (6, _), (7, _), (8, _)]) ⟨rfl, rfl, rfl, rfl, rfl, rfl, trivial⟩ ?_)
    refine XX.againP ([]) (a + 2 * k, d + 1) (by dsimp only; omega) ⟨by dsimp only; rw [ha, Nat.mul_succ], by dsimp only; omega⟩ ⟨rfl, rfl, rfl, rfl, rfl, rfl, trivial⟩ (by dsimp only; rw [hP2] <;> exact List.Perm.refl _)
   ·refine CX.exit ?_
    refine XX.then_exit ?_
    refine XX.then_exit ?_
    refine XX.block_exit ?_
    refine XX.next (V' := [(0, _), (1, _), (2, _), (6, _), (7, _)]) ⟨rfl, rfl, rfl, rfl, rfl, trivial⟩ ?_
    refine CX.seq ?_
    refine CX.seq ?_
    refine CX.region ?_
    refine RX.cons rfl rfl (op_w (yw_move rfl rfl) rfl rfl ?_)
    refine RX.cons rfl rfl (op_w (yw_move rfl rfl) rfl rfl ?_)
    refine RX.cons rfl rfl (op_w (yw_add rfl rfl rfl (by omega) (by omega)) rfl rfl ?_)
    refine RX.know (t := 51) (u := .int .i64 ((a + k : Nat) : Int)) rfl (congrArg (Value.int .i64) (by omega)) ?_
    refine RX.cons rfl rfl (op_w (yw_assign rfl rfl) rfl rfl ?_)
    refine RX.nil (XX.next (V' := [(0, _), (1, _), (2, _), (6, _), (7, _), (9, _)]) ⟨rfl, rfl, rfl, rfl, rfl, rfl, trivial⟩ ?_)
    refine CX.seq ?_
    refine CX.region ?_
    refine RX.cons rfl rfl (op_w (yw_move rfl rfl) rfl rfl ?_)
    refine RX.cons rfl rfl (op_w (yw_move rfl rfl) rfl rfl ?_)
    refine RX.cons rfl rfl (op_w (yw_lss rfl rfl rfl) rfl rfl ?_)
    refine RX.nil (XX.next (V' := [(0, _), (1, _), (2, _), (6, _), (7, _), (9, _), (54, _)]) ⟨rfl, rfl, rfl, rfl, rfl, rfl, rfl, trivial⟩ ?_)
    refine CX.condD (p := ((a + k : Nat) : Int) < ((len : Nat) : Int)) rfl (fun c54 => ?_) (fun c54 => ?_)
    ·obtain ⟨P, A', B', hP, hPl, hA', hB', hSA, hSB, hP2⟩ := Srt.ms_rest before_swo hk hlen ha (by omega) (by omega)
     have hfin : Srt.cs before (2 * k) (len + 1) xs = P ++ Srt.isort before (A' ++ B') ++ [] := by rw [hP2]; simp
     refine CX.region ?_
     refine RX.cons rfl rfl (op_w (yw_move rfl rfl) rfl rfl ?_)
     refine RX.cons rfl rfl (op_w (yw_move rfl rfl) rfl rfl ?_)
     refine RX.cons rfl rfl (op_w (yw_move rfl rfl) rfl rfl ?_)
     refine RX.cons rfl rfl (op_w (yw_move rfl rfl) rfl rfl ?_)
     refine RX.cons rfl rfl (op_w (yw_move rfl rfl) rfl rfl ?_)
     refine RX.cons rfl rfl (op_callP [PRow A cap (Srt.ms before k (len + 1) d xs)] [] rfl rfl rfl rfl rfl ent_117 ((perm_pick 0 rfl).trans (List.Perm.cons _ (List.Perm.refl _))) (σ := Unit) (val := fun _ => .tuple #[]) (LL := fun _ => [PRow A cap (P ++ Srt.isort before (A' ++ B') ++ [])]) (post := fun _ => True) (fun w hw hs => (symOk _ P A' B' [] a (a + k) len (Nat.lt_succ_self _) (by rw [← hlen, ← Srt.ms_length (lt := before) k (len + 1) d xs, hP] <;> simp) (by omega) (by omega) (by omega) hSA hSB (by omega) (by omega) hA hn (prow_eq (by rw [hP]; simp) hs)).mono fun e w' h => ⟨(), trivial, h⟩) (fun _ _ => ?_))
     refine RX.nil (XX.next (V' := [(0, _), (1, _), (2, _), (6, _)]) ⟨rfl, rfl, rfl, rfl, trivial⟩ ?_)
     refine CX.region ?_
     refine RX.cons rfl rfl (op_w (yw_move rfl rfl) rfl rfl ?_)
     refine RX.cons rfl rfl (op_w (yw_mul rfl rfl rfl (by omega) (by omega)) rfl rfl ?_)
     refine RX.know (t := 62) (u := .int .i64 ((2 * k : Nat) : Int)) rfl (congrArg (Value.int .i64) (by omega)) ?_
     refine RX.cons rfl rfl (op_w (yw_assign rfl rfl) rfl rfl ?_)
     refine RX.nil (XX.inBlock (V' := [(0, _), (1, _), (2, _), (6, _)]) ⟨rfl, rfl, rfl, rfl, trivial⟩ ?_)
     refine XX.againP ([]) (2 * k) (by omega) ⟨by omega, by omega⟩ ⟨rfl, rfl, rfl, rfl, trivial⟩ (by rw [hfin] <;> exact List.Perm.refl _)
    ·have hfin : Srt.cs before (2 * k) (len + 1) xs = Srt.ms before k (len + 1) d xs := (Srt.ms_last hk hlen ha (by omega) (by omega)).symm
     refine CX.skip (XX.next (V' := [(0, _), (1, _), (2, _), (6, _)]) ⟨rfl, rfl, rfl, rfl, trivial⟩ ?_)
     refine CX.region ?_
     refine RX.cons rfl rfl (op_w (yw_move rfl rfl) rfl rfl ?_)
     refine RX.cons rfl rfl (op_w (yw_mul rfl rfl rfl (by omega) (by omega)) rfl rfl ?_)
     refine RX.know (t := 62) (u := .int .i64 ((2 * k : Nat) : Int)) rfl (congrArg (Value.int .i64) (by omega)) ?_
     refine RX.cons rfl rfl (op_w (yw_assign rfl rfl) rfl rfl ?_)
     refine RX.nil (XX.inBlock (V' := [(0, _), (1, _), (2, _), (6, _)]) ⟨rfl, rfl, rfl, rfl, trivial⟩ ?_)
     refine XX.againP ([]) (2 * k) (by omega) ⟨by omega, by omega⟩ ⟨rfl, rfl, rfl, rfl, trivial⟩ (by rw [hfin] <;> exact List.Perm.refl _)
  ·refine CX.exit ?_
   refine XX.then_exit ?_
   refine XX.then_exit ?_
   refine XX.block_exit ?_
   exact end_none rfl fun w1 hw => ⟨rfl, prow_eq (Srt.cs_one k _ _ (by omega)) hw⟩

set_option maxRecDepth 100000 in
theorem w_sortStable {w : World} {A : Option Addr} {cap len : Nat} (xs : List Fct) (hlen : xs.length = len) (hA : 0 < len → ∃ b j, A = some ⟨b, j, none⟩) (hn : len ≤ 1000000)(hs : SL w (rowO A) w [PRow A cap xs]) :
    Calls Tryz.prog 45 #[.slice A len cap, .func (.func 46) #[] #[]] w (fun e w' => e = .returned (.tuple #[]) ∧ SL w (rowO A) w' [PRow A cap (Srt.isort before xs)]) := by
 refine calls_of_CX (O := (rowO A)) (L := [PRow A cap xs]) (args := [.slice A len cap, .func (.func 46) #[] #[]]) Tryz.func45 rfl (by simp [Tryz.ntmps45]) hs ?_
 refine CX.sub (V' := [(0, .slice A len cap), (1, .func (.func 46) #[] #[])]) ⟨rfl, rfl, trivial⟩ ?_
 refine CX.region ?_
 refine RX.cons rfl rfl (op_w (yw_move rfl rfl) rfl rfl ?_)
 refine RX.cons rfl rfl (op_w (yw_move rfl rfl) rfl rfl ?_)
 refine RX.cons rfl rfl (op_w (yw_lenS rfl Tryz.underlying63 rfl) rfl rfl ?_)
 refine RX.cons rfl rfl (op_w (yw_move rfl rfl) rfl rfl ?_)
 refine RX.cons rfl rfl (op_callP [PRow A cap xs] [] rfl rfl rfl rfl rfl ent_96 ((perm_pick 0 rfl).trans (List.Perm.cons _ (List.Perm.refl _))) (σ := Unit) (val := fun _ => .tuple #[]) (LL := fun _ => [PRow A cap (Srt.isort before xs)]) (post := fun _ => True) (fun w hw hs => (w_stable xs hlen hA hn (prow_eq rfl hs)).mono fun e w' h => ⟨(), trivial, h⟩) (fun _ _ => ?_))
 refine RX.nil ?_
 exact end_none rfl fun w1 hw => ⟨rfl, hw⟩

end Go.Proofs.YtpcfgoadkfajfaaGreatDoor.Se
namespace Go.Proofs.YtpcfgoadkfajfaaGreatDoor.Se
set_option linter.all false
open Go Go.RowKit
set_option maxRecDepth 100000
theorem ent_15 : ∀ args w, (callFunc 15 args).run Tryz.prog w = .ok (.enter 15 args) w := enters_of Tryz.func15 (by kernel_rfl) rfl
theorem slt_22 : SlT Tryz.prog 22 27 18 := ⟨(Tryz.prog.info? 27).get!, Tryz.underlying22, by kernel_rfl, by kernel_rfl⟩
theorem zero_27 : Zero Tryz.prog 27 (.agg (#[.int .i64 0, .int .i64 0, .int .i64 0, .int .i64 0, .int .i64 0, .int .i64 0, .int .i64 0, .int .i64 0, .int .i64 0, .int .i64 0, .int .i64 0, .int .i64 0, .int .i64 0, .int .i64 0, .int .i64 0, .int .i64 0, .int .i64 0, .string .empty])) := ⟨(Tryz.prog.info? 27).get!, by kernel_rfl, by kernel_rfl⟩
theorem szt_27 : SzT Tryz.prog 27 18 := ⟨(Tryz.prog.info? 27).get!, by kernel_rfl, by kernel_rfl⟩
theorem ent_44 : ∀ args w, (callFunc 44 args).run Tryz.prog w = .ok (.enter 44 args) w := enters_of Tryz.func44 (by kernel_rfl) rfl
theorem slb_63 : SlB Tryz.prog 63 100 18 152 (.agg (#[.int .i64 0, .int .i64 0, .int .i64 0, .int .i64 0, .int .i64 0, .int .i64 0, .int .i64 0, .int .i64 0, .int .i64 0, .int .i64 0, .int .i64 0, .int .i64 0, .int .i64 0, .int .i64 0, .int .i64 0, .int .i64 0, .int .i64 0, .string .empty])) := ⟨Tryz.underlying63, ⟨(Tryz.prog.info? 100).get!, by kernel_rfl, by kernel_rfl, by kernel_rfl, by kernel_rfl⟩, by decide, by decide⟩
theorem ent_45 : ∀ args w, (callFunc 45 args).run Tryz.prog w = .ok (.enter 45 args) w := enters_of Tryz.func45 (by kernel_rfl) rfl
set_option maxRecDepth 100000 in
theorem w_isPlay {w : World} (f : Fct) :
    Calls Tryz.prog 44 #[.agg (Fct.cells f)] w (fun e w' => e = .returned (.bool f.valid) ∧ SL w [] w' []) := by
 refine calls_of_CX (O := []) (L := []) (args := [.agg (Fct.cells f)]) Tryz.func44 rfl (by simp [Tryz.ntmps44]) (SL.refl w) ?_
 refine CX.sub (V' := [(0, .agg (Fct.cells f))]) ⟨rfl, trivial⟩ ?_
 refine CX.seq ?_
 refine CX.region ?_
 refine RX.cons rfl rfl (op_box rfl rfl rfl rfl fun g1 => ?_)
 refine RX.cons rfl rfl (op_w (yw_assign rfl rfl) rfl rfl ?_)
 refine RX.nil (XX.next (V' := [(1, _)]) ⟨rfl, trivial⟩ ?_)
 refine CX.seq ?_
 refine CX.region ?_
 refine RX.cons rfl rfl (op_w (yw_field0 rfl fld_27_0 rfl) rfl rfl ?_)
 refine RX.cons rfl rfl (op_yld (y_load (i := 0) rfl rfl one_3 rfl rfl) rfl rfl ?_)
 refine RX.cons rfl rfl (op_w (yw_eql rfl rfl rfl) rfl rfl ?_)
 refine RX.cons rfl rfl (op_w (yw_move rfl rfl) rfl rfl ?_)
 refine RX.splitD (t := 6) (p := f.kind = 1) rfl (fun d6 => ?_) (fun d6 => ?_)
 ·refine RX.consG rfl rfl rfl rfl rfl (op_yld (y_loadA (i := 0) rfl rfl agg_27 rfl rfl) rfl rfl ?_)
  refine RX.consG rfl rfl rfl rfl rfl (op_callV (v := .bool (Fct.valid f)) rfl rfl rfl rfl rfl ent_15 (fun w _ => w_valid f d6) ?_)
  refine RX.cons rfl rfl (op_w (yw_pickT rfl rfl rfl) rfl rfl ?_)
  refine RX.cons rfl rfl (op_w (yw_assign rfl rfl) rfl rfl ?_)
  refine RX.nil (XX.next (V' := [(2, .bool (Fct.valid f))]) ⟨rfl, trivial⟩ ?_)
  refine CX.ret ?_
  exact ret_tmp rfl rfl fun w1 hw => ⟨rfl, hw.sub (List.nil_sublist _)⟩
 ·refine RX.skip rfl rfl rfl rfl rfl rfl rfl ?_
  refine RX.skip rfl rfl rfl rfl rfl rfl rfl ?_
  refine RX.cons rfl rfl (op_w (yw_pickF rfl rfl rfl) rfl rfl ?_)
  refine RX.cons rfl rfl (op_w (yw_assign rfl rfl) rfl rfl ?_)
  refine RX.nil (XX.next (V' := [(2, .bool false)]) ⟨rfl, trivial⟩ ?_)
  refine CX.ret ?_
  exact ret_tmp rfl rfl fun w1 hw => ⟨by rw [valid_kind d6], hw.sub (List.nil_sublist _)⟩


set_option maxRecDepth 100000 in
theorem w_ordered {w : World} {A : Option Addr} {cap : Nat} (fs : List Fct) (hr : Rd w A 18 (fs.map Fct.cells)) (hn : fs.length ≤ 1000) :
    Calls Tryz.prog 24 #[.slice A fs.length cap] w (fun e w' => ∃ x : Option Addr × Nat, True ∧ e = .returned (.slice x.1 (ordered fs).length x.2) ∧ SL w [] w' [PRow x.1 x.2 (ordered fs)]) := by
 refine calls_of_CX (O := []) (L := []) (args := [.slice A fs.length cap]) Tryz.func24 rfl (by simp [Tryz.ntmps24]) (SL.refl w) ?_
 refine CX.sub (V' := [(0, .slice A fs.length cap)]) ⟨rfl, trivial⟩ ?_
 refine CX.seq ?_
 refine CX.region ?_
 refine RX.cons rfl rfl (op_w (yw_assign rfl rfl) rfl rfl ?_)
 refine RX.nil (XX.next (V' := [(0, _)]) ⟨rfl, trivial⟩ ?_)
 refine CX.seq ?_
 refine CX.region ?_
 refine RX.cons rfl rfl (op_w (yw_assign rfl rfl) rfl rfl ?_)
 refine RX.nil (XX.next (V' := [(0, _), (3, _)]) ⟨rfl, rfl, trivial⟩ ?_)
 refine CX.seq ?_
 refine CX.seq ?_
 refine CX.region ?_
 refine RX.cons rfl rfl (op_w (yw_move rfl rfl) rfl rfl ?_)
 refine RX.cons rfl rfl (op_w (yw_lenS rfl Tryz.underlying22 rfl) rfl rfl ?_)
 refine RX.cons rfl rfl (op_w (yw_move rfl rfl) rfl rfl ?_)
 refine RX.nil (XX.next (V' := [(3, _), (6, _), (7, _), (8, _)]) ⟨rfl, rfl, rfl, rfl, trivial⟩ ?_)
 refine CX.block ?_
 refine CX.rowNil 100 18 ?_
 refine CX.loop (σ := Nat × Option Addr × Nat × List Fct) (fun z => [(3, .slice z.2.1 z.2.2.2.length z.2.2.1), (6, .slice A fs.length cap), (7, .int .i64 ((fs.length : Nat) : Int)), (8, .int .i64 ((z.1 : Nat) : Int))]) (fun z => [.row z.2.1 z.2.2.1 100 18 (List.map Fct.cells z.2.2.2)]) (fun z => z.1 ≤ fs.length ∧ z.2.2.2 = (fs.take z.1).filter Fct.valid) (fun z => fs.length - z.1) (0, none, 0, []) ⟨Nat.zero_le _, by simp⟩ ⟨rfl, rfl, rfl, rfl, trivial⟩ rfl (fun z hI => ?_)
 obtain ⟨i, B, c, ys⟩ := z
 dsimp only at hI ⊢
 obtain ⟨hi, hys⟩ := hI
 have hyl : ys.length ≤ i := by rw [hys]; exact Nat.le_trans (List.length_filter_le _ _) (by simp; omega)
 refine CX.seq ?_
 refine CX.region ?_
 refine RX.cons rfl rfl (op_w (yw_lss rfl rfl rfl) rfl rfl ?_)
 refine RX.nil (XX.next (V' := [(3, _), (6, _), (7, _), (8, _), (9, _)]) ⟨rfl, rfl, rfl, rfl, rfl, trivial⟩ ?_)
 refine CX.seq ?_
 refine CX.condD (p := ((i : Nat) : Int) < ((fs.length : Nat) : Int)) rfl (fun c9 => ?_) (fun c9 => ?_)
 ·obtain ⟨f, hf⟩ := get_some (l := fs) (k := i) (by omega)
  refine CX.skip (XX.next (V' := [(3, _), (6, _), (7, _), (8, _)]) ⟨rfl, rfl, rfl, rfl, trivial⟩ ?_)
  refine CX.seq ?_
  refine CX.block ?_
  refine CX.seq ?_
  refine CX.region ?_
  refine RX.cons rfl rfl (op_w (yw_index (k := i) rfl slt_22 rfl rfl (by omega) (by omega) (hr.some (k := i) (by simp; omega))) rfl rfl ?_)
  refine RX.cons rfl rfl (op_yld (y_elem rfl rfl agg_27 hr (by simp) (map_get hf)) rfl rfl ?_)
  refine RX.cons rfl rfl (op_alloc rfl rfl rfl zero_27 fun g1 => ?_)
  refine RX.cons rfl rfl (op_storeAll (i := 0) rfl rfl rfl rfl szt_27 rfl (plain_of rfl) rfl rfl ?_)
  refine RX.nil (XX.next (V' := [(3, _), (5, _), (6, _), (7, _), (8, _)]) ⟨rfl, rfl, rfl, rfl, rfl, trivial⟩ ?_)
  refine CX.seq ?_
  refine CX.region ?_
  refine RX.cons rfl rfl (op_yld (y_loadA (i := 0) rfl rfl agg_27 rfl rfl) rfl rfl ?_)
  refine RX.cons rfl rfl (op_callV (v := .bool (Fct.valid f)) rfl rfl rfl rfl rfl ent_44 (fun w _ => w_isPlay f) ?_)
  refine RX.nil (XX.next (V' := [(3, _), (5, _), (6, _), (7, _), (8, _), (13, _)]) ⟨rfl, rfl, rfl, rfl, rfl, rfl, trivial⟩ ?_)
  refine CX.cond (b := Fct.valid f) rfl (fun c13 => ?_) (fun c13 => ?_)
  ·refine CX.region ?_
   refine RX.cons rfl rfl (op_w (yw_move rfl rfl) rfl rfl ?_)
   refine RX.cons rfl rfl (op_yld (y_loadA (i := 0) rfl rfl agg_27 rfl rfl) rfl rfl ?_)
   refine RX.cons rfl rfl (op_w (yw_build (v := .agg (Fct.cells f)) rfl rfl (fun _ => by kernel_rfl)) rfl rfl ?_)
   refine RX.cons rfl rfl (op_buildSlice rfl rfl rfl slb_63 rfl rfl (by intro v hv; simp only [List.mem_cons, List.not_mem_nil, or_false] at hv; subst hv; exact ⟨rfl, (plain_of rfl)⟩) (by decide) fun g2 => ?_)
   refine RX.cons rfl rfl (op_appendM Fct.cells (i := 2) (j := 0) (xs := ys) ([f]) rfl rfl rfl slb_63 rfl rfl rfl rfl rfl rfl (by simp; omega) (by simp; omega) fun A' c' => ?_)
   refine RX.cons rfl rfl (op_w (yw_assign rfl rfl) rfl rfl ?_)
   refine RX.nil (XX.inBlock (V' := [(3, _), (6, _), (7, _), (8, _)]) ⟨rfl, rfl, rfl, rfl, trivial⟩ ?_)
   refine XX.next (V' := [(3, _), (6, _), (7, _), (8, _)]) ⟨rfl, rfl, rfl, rfl, trivial⟩ ?_
   refine CX.region ?_
   refine RX.cons rfl rfl (op_w (yw_add rfl rfl rfl (by omega) (by omega)) rfl rfl ?_)
   refine RX.cons rfl rfl (op_w (yw_move rfl rfl) rfl rfl ?_)
   refine RX.nil (XX.againP ([.row (some ⟨g2, 0, none⟩) 1 100 18 (List.map Value.cells [.agg (Fct.cells f)]), .blk g1 (.cells (Fct.cells f) 27 (0, 0))]) (i + 1, A', c', ys ++ [f]) (by dsimp only; omega) ⟨by dsimp only; omega, by dsimp only; rw [take_succ hf, List.filter_append, ← hys]; simp [c13]⟩ ⟨rfl, rfl, rfl, rfl, trivial⟩ ((perm_pick 2 rfl).trans (List.Perm.cons _ (List.Perm.refl _))))
  ·refine CX.skip (XX.inBlock (V' := [(3, _), (6, _), (7, _), (8, _)]) ⟨rfl, rfl, rfl, rfl, trivial⟩ ?_)
   refine XX.next (V' := [(3, _), (6, _), (7, _), (8, _)]) ⟨rfl, rfl, rfl, rfl, trivial⟩ ?_
   refine CX.region ?_
   refine RX.cons rfl rfl (op_w (yw_add rfl rfl rfl (by omega) (by omega)) rfl rfl ?_)
   refine RX.cons rfl rfl (op_w (yw_move rfl rfl) rfl rfl ?_)
   refine RX.nil (XX.againP ([.blk g1 (.cells (Fct.cells f) 27 (0, 0))]) (i + 1, B, c, ys) (by dsimp only; omega) ⟨by dsimp only; omega, by dsimp only; rw [take_succ hf, List.filter_append, ← hys]; simp [c13]⟩ ⟨rfl, rfl, rfl, rfl, trivial⟩ ((perm_pick 1 rfl).trans (List.Perm.cons _ (List.Perm.refl _))))
 ·obtain rfl : i = fs.length := by omega
  rw [List.take_length] at hys
  refine CX.exit ?_
  refine XX.then_exit ?_
  refine XX.then_exit ?_
  refine XX.block_exit ?_
  refine XX.next (V' := [(3, _)]) ⟨rfl, trivial⟩ ?_
  refine CX.seq ?_
  refine CX.region ?_
  refine RX.cons rfl rfl (op_w (yw_move rfl rfl) rfl rfl ?_)
  refine RX.cons rfl rfl (op_callP [.row B c 100 18 (List.map Fct.cells ys)] [] rfl rfl rfl rfl rfl ent_45 ((perm_pick 0 rfl).trans (List.Perm.cons _ (List.Perm.refl _))) (σ := Unit) (val := fun _ => .tuple #[]) (LL := fun _ => [.row B c 100 18 (List.map Fct.cells (Srt.isort before ys))]) (post := fun _ => True) (fun w hw hs => (w_sortStable ys rfl (fun h => Ent.some (hs.ents _ List.mem_cons_self) (by simpa using h)) (by omega) hs).mono fun e w' h => ⟨(), trivial, h⟩) (fun _ _ => ?_))
  refine RX.nil (XX.next (V' := [(3, _)]) ⟨rfl, trivial⟩ ?_)
  refine CX.seq ?_
  refine CX.region ?_
  refine RX.cons rfl rfl (op_w (yw_move rfl rfl) rfl rfl ?_)
  refine RX.cons rfl rfl (op_w (yw_assign rfl rfl) rfl rfl ?_)
  refine RX.nil (XX.next (V' := [(2, .slice B ys.length c)]) ⟨rfl, trivial⟩ ?_)
  refine CX.ret ?_
  exact ret_tmp rfl rfl fun w1 hw => ⟨(B, c), trivial, by rw [ordered, ← hys, Srt.isort_length], by rw [ordered, ← hys]; exact hw⟩

end Go.Proofs.YtpcfgoadkfajfaaGreatDoor.Se
namespace Go.Proofs.YtpcfgoadkfajfaaGreatDoor
set_option linter.all false
open Go Go.RowKit

/-- A loop's record. -/
def mkRec (fn : FuncId) (tmps : Array Value) (ps : Array Tmp) (assign body : Code) (Dk : Nat) : Loop := { state := .ready, pending := none, fn, tmps, params := ps, assign, body, defers := Dk }
abbrev RB (l Dk : Nat) (rec : Loop) : List Ent := [.blk l (.loop rec), .blk Dk (.deferred (some []))]

section
variable {P : Program} {w0 : World} {O : List Nat} {n : Nat} {D : List Deferred} {o : Oper} {V : List (Nat × Value)} {L : List Ent} {T : List (Nat × Value) → List Ent → Prop} {Q : Exit → Act → World → Prop}

theorem CX.scope {c : Code} (h : CX P none (Exit.noGoto Q) w0 O n D c V L) : CX P none Q w0 O n D (.scope c) V L :=
  fun a w ha hw => wpIn_wide.2 (wp_scope_straight (wpIn_wide.1 (h a w ha hw)))
theorem XX.scope_normal (h : XX Q w0 O n D .normal V L) : XX (Exit.noGoto Q) w0 O n D .normal V L := h
theorem XX.scope_ret (h : XX Q w0 O n D .ret V L) : XX (Exit.noGoto Q) w0 O n D .ret V L := h

/-- A call of yield. -/
theorem op_yield {f : Operand} {xs : Array Operand} {ts : Array TypeId} {l d : Nat} {vs : List Value} {σ : Type} {LL : σ → List Ent} {post : σ → Prop} (M R : List Ent)
    (ho : o.op = .call { callee := .value f, args := xs, argTypes := ts }) (hd : o.dst = some d) (hdn : Nat.blt d n = true) (hf : ev V f = some (.func (.yield l) #[] #[])) (hx : evs V xs.toList = some vs) (hL : L.Perm (M ++ R))
    (hc : ∀ w, SL w0 O w (M ++ R) → SL w (M.flatMap Ent.blocks) w M → ∃ f tmps asg body, (Instr.yield l vs.toArray).run P w = .ok (.round l f tmps asg body) w ∧
      RoundIn Fence.wide 0 P l f tmps asg body w fun e w' => ∃ x, post x ∧ e = .returned (.bool true) ∧ SL w (M.flatMap Ent.blocks) w' (LL x))
    (hT : ∀ x, post x → T ((d, .bool true) :: V) (LL x ++ R)) : OpS P w0 O n D o V L T := by
  intro a w ha hw
  have hw' := hw.perm hL
  obtain ⟨f', tmps, asg, body, hy, hr⟩ := hc w hw' (hw'.restart (List.Perm.refl _))
  have h1 := ha.evals hx
  have e1 : xs.map a.eval = vs.toArray := Array.ext' (by simpa using h1)
  have hrun : (execOp a.eval o).run P w = .ok (.round l f' tmps asg body) w := by
    simp only [execOp, ho, resolve, ha.eval hf, Deferred.ofValue, e1]
    simp only [Sem.run_bind, Sem.run_pure, Result.andThen_ok, invoke]
    simpa using hy
  unfold Does
  rw [hrun, hd]
  refine RoundIn.mono hr ?_
  rintro e w'' ⟨x, hp, he, hs⟩
  exact ⟨_, he, _, _, hT x hp, ha.put hdn _, hw'.call rfl hs⟩

theorem putObj_SL {w : World} (h : SL w0 O w L) {i g : Nat} {ob : Obj} (hL : L[i]? = some (.blk g ob)) (o' : Obj) : SL w0 O (w.putObj g o') (L.set i (.blk g o')) := by
  have hg : w.heap[g]? = some ob := h.ents _ (List.mem_of_getElem? hL)
  exact h.setB hL o' rfl rfl rfl (by simp [World.putObj]) (World.putObj_heap_same (Array.getElem?_eq_some_iff.1 hg).1) (fun k hk => World.putObj_heap_other hk)

/-- One round, out of the walks of the assignment and of the body. -/
theorem round_of_CX {w : World} {l Dk p : Nat} {rec : Loop} {v : Value} {M : List Ent} {V0 : List (Nat × Value)} {σ τ : Type} (V1 : σ → List (Nat × Value)) (L1 : σ → List Ent) (I1 : σ → Prop) {LL : τ → List Ent} {post : τ → Prop}
    (hst : rec.state = .ready) (hpe : rec.pending = none) (hps : rec.params = #[p]) (hV : Holds n [] { tmps := rec.tmps.setIfInBounds p v, defers := [] } V0)
    (hA : CX P (some l) (Met V1 (fun x => RB l Dk rec ++ L1 x) I1 w O n []) w O n [] rec.assign V0 (RB l Dk rec ++ M))
    (hB : ∀ x, I1 x → CX P (some l) (Met (fun _ => []) (fun y => RB l Dk { rec with state := .busy } ++ LL y) post w O n []) w O n [] rec.body (V1 x) (RB l Dk { rec with state := .busy } ++ L1 x))
    (hw : SL w O w (RB l Dk rec ++ M)) :
    ∃ f tmps asg body, (Instr.yield l #[v]).run P w = .ok (.round l f tmps asg body) w ∧
      RoundIn Fence.wide 0 P l f tmps asg body w fun e w' => ∃ y, post y ∧ e = .returned (.bool true) ∧ SL w O w' (RB l Dk rec ++ LL y) := by
  have hl : w.heap[l]? = some (.loop rec) := hw.ents (.blk l (.loop rec)) (by simp)
  have hy := run_yield (P := P) (args := #[v]) hl (by simp [hps])
  have e : (rec.params.zip #[v]).foldl (fun tmps (t, a) => tmps.setIfInBounds t a) rec.tmps = rec.tmps.setIfInBounds p v := by simp [hps]
  rw [e] at hy
  refine ⟨_, _, _, _, hy, roundIn_of_wpIn (F := Fence.wide) trivial ?_⟩
  refine wpIn_mono (hA _ w hV hw) ?_
  rintro e a1 w1 ⟨rfl, x, hI, ha1, hw1⟩
  have hl1 : w1.heap[l]? = some (.loop rec) := hw1.ents (.blk l (.loop rec)) (by simp)
  refine ⟨_, run_beginRound hl1 hst, ?_⟩
  have hw2 : SL w O (w1.putObj l (.loop { rec with state := .busy })) (RB l Dk { rec with state := .busy } ++ L1 x) := putObj_SL (i := 0) hw1 rfl _
  refine wpIn_mono (hB x hI a1 _ ha1 hw2) ?_
  rintro e a3 w3 ⟨rfl, y, hp, _, hw3⟩
  have hl3 : w3.heap[l]? = some (.loop { rec with state := .busy }) := hw3.ents (.blk l (.loop { rec with state := .busy })) (by simp)
  have hr3 := run_endRound (P := P) none hl3
  have e3 : ({ ({ rec with state := .busy } : Loop) with state := if (none : Option Code).isNone then .ready else .done, pending := none } : Loop) = rec := by
    cases rec; simp at hst hpe; simp [hst, hpe]
  rw [e3] at hr3
  exact ⟨_, _, hr3, y, hp, rfl, putObj_SL (i := 0) hw3 rfl _⟩

theorem CX.rangeFunc {g : Operand} {ps : Array Tmp} {asg body : Code} {gf : Nat} {cap : Array Value} {σ : Type} {LL : σ → List Ent} {post : σ → Prop} (M R : List Ent) (hL : L.Perm (M ++ R)) (hg : ev V g = some (.func (.func gf) #[] cap))
    (ent : ∀ args w, (callFunc gf args).run P w = .ok (.enter gf args) w)
    (hc : ∀ (l Dk fn : Nat) (a : Act) (w : World), Holds n D a V → SL w0 O w (RB l Dk (mkRec fn a.tmps ps asg body Dk) ++ (M ++ R)) → SL w ((RB l Dk (mkRec fn a.tmps ps asg body Dk) ++ M).flatMap Ent.blocks) w (RB l Dk (mkRec fn a.tmps ps asg body Dk) ++ M) →
      Calls P gf (#[.func (.yield l) #[] #[]] ++ cap) w fun e w' => ∃ x, post x ∧ (∃ v, e = .returned v) ∧ SL w ((RB l Dk (mkRec fn a.tmps ps asg body Dk) ++ M).flatMap Ent.blocks) w' (RB l Dk (mkRec fn a.tmps ps asg body Dk) ++ LL x))
    (hT : ∀ x l Dk ob, post x → XX Q w0 O n ({ target := .collected Dk, args := #[] } :: D) .normal V (.blk l ob :: .blk Dk (.deferred (some [])) :: (LL x ++ R))) :
    CX P none Q w0 O n D (.rangeFunc g ps asg body) V L := by
  intro a w ha hw
  refine wpIn_rangeFunc (F := FW none) fun fn _ => ?_
  obtain ⟨W1, hW1⟩ : ∃ W1, (w.alloc (.deferred (some []))).alloc (.loop (mkRec fn a.tmps ps asg body w.heap.size)) = W1 := ⟨_, rfl⟩
  have hs1 : SL w0 O W1 (RB (w.heap.size + 1) w.heap.size (mkRec fn a.tmps ps asg body w.heap.size) ++ (M ++ R)) := by
    have := ((hw.perm hL).alloc (.deferred (some []))).alloc (.loop (mkRec fn a.tmps ps asg body w.heap.size))
    rw [World.size_alloc, hW1] at this
    exact this
  refine ⟨w.heap.size + 1, [{ target := .collected w.heap.size, args := #[] }], W1, { target := .fn (.func gf) cap, args := #[.func (.yield (w.heap.size + 1)) #[] #[]] }, W1, gf,
    #[.func (.yield (w.heap.size + 1)) #[] #[]] ++ cap, W1, ?_, ?_, ?_, ?_, ?_, ?_⟩
  · rw [← hW1]; exact run_enterLoop_outer _ _ _ _ _
  · simp only [resolve, ha.eval hg]
    simp [Deferred.ofValue, Act.eval]
  · intro f' _; trivial
  · simp [invoke, ent]
  · intro hh; simp [Fence.wide] at hh
  · have hr := hc (w.heap.size + 1) w.heap.size fn a W1 ha hs1 (hs1.restart (by rw [List.append_assoc]))
    refine CallsIn.mono (callsIn_wide.2 hr) ?_
    rintro e w' ⟨x, hp, ⟨v, rfl⟩, hs⟩
    have hs' : SL w0 O w' ((RB (w.heap.size + 1) w.heap.size (mkRec fn a.tmps ps asg body w.heap.size) ++ LL x) ++ R) := SL.call (M := RB (w.heap.size + 1) w.heap.size (mkRec fn a.tmps ps asg body w.heap.size) ++ M) (by rw [List.append_assoc]; exact hs1) rfl hs
    have hl : w'.heap[w.heap.size + 1]? = some (.loop (mkRec fn a.tmps ps asg body w.heap.size)) := hs'.ents (.blk (w.heap.size + 1) (.loop _)) (by simp)
    have hend := run_endLoop (P := P) hl (by simp [mkRec])
    refine ⟨none, _, hend, ?_⟩
    exact hT x (w.heap.size + 1) w.heap.size _ hp _ _ ⟨by rw [← ha.defers]; rfl, ha.size, ha.at_⟩ (putObj_SL (i := 0) hs' rfl _)
end

/-! ### The end of a function that holds a range -/
section
variable {P : Program} {w0 : World} {O : List Nat} {L : List Ent} {fn : Func} {R : Ending → World → Prop} {n : Nat} {V : List (Nat × Value)}

theorem calls_of_CXM {f : FuncId} {c : Code} {args : List Value} (hf : P.funcs[f]? = some fn) (hb : fn.body = some c) (hn : args.length ≤ fn.ntmps) (hs : SL w0 O w0 L)
    (h : CX P none (bodyPostM Fence.wide 0 P fn R) w0 O fn.ntmps [] c (initV 0 args) L) : Calls P f args.toArray w0 R := by
  refine callsIn_wide.1 (callsIn_of_wp_marks (F := Fence.wide) (n := 0) hf hb trivial ?_ rfl)
  have := h _ w0 (Holds.init hn) hs
  simpa [FW_wide] using this

/-- A result of one cell lies in a block; the rounds' block is shut. -/
theorem ret_cellM {t g i Dk k : Nat} {tt : TypeId} {v : Value} {te : TypeId} {fr : Nat × Nat} (hr : fn.results = #[.cell t tt]) (hv : lk V t = some (.pointer (some ⟨g, 0, none⟩))) (h1 : One P tt) (hD : L[k]? = some (.blk Dk (.deferred (some [])))) (hL : (L.set k (.blk Dk (.deferred none)))[i]? = some (.blk g (.cells #[v] te fr)))
    (h : ∀ w, SL w0 O w (L.set k (.blk Dk (.deferred none))) → R (.returned v) w) : XX (bodyPostM Fence.wide 0 P fn R) w0 O n [{ target := .collected Dk, args := #[] }] .ret V L := by
  intro a w ha hw
  have hp := ha.at_ _ _ hv
  have hDk : w.heap[Dk]? = some (.deferred (some [])) := hw.ents _ (List.mem_of_getElem? hD)
  have hw' := putObj_SL hw hD (.deferred none)
  have hg : (w.putObj Dk (.deferred none)).heap[g]? = some (.cells #[v] te fr) := hw'.ents _ (List.mem_of_getElem? hL)
  have hc : (w.putObj Dk (.deferred none)).cell? ⟨g, 0, none⟩ = some v := by rw [cell_of_row _ g 0 #[v] te fr hg]; rfl
  show LeavesInM Fence.wide 0 P fn a.tmps R a.defers .returning w
  rw [ha.defers]
  refine ⟨by simp, .inl ⟨Dk, _, rfl, run_takeDeferred hDk, ?_⟩⟩
  refine ⟨v, ?_, h _ hw'⟩
  simp [results, hr, hp, asAddr, run_load_one h1 hc]
end
end Go.Proofs.YtpcfgoadkfajfaaGreatDoor
namespace Go.Proofs.YtpcfgoadkfajfaaGreatDoor.Se
set_option linter.all false
open Go Go.RowKit
set_option maxRecDepth 100000
theorem one_63 : One Tryz.prog 63 := ⟨_, Tryz.underlying63, rfl⟩
theorem zero_100 : Zero Tryz.prog 100 (.agg (#[.int .i64 0, .int .i64 0, .int .i64 0, .int .i64 0, .int .i64 0, .int .i64 0, .int .i64 0, .int .i64 0, .int .i64 0, .int .i64 0, .int .i64 0, .int .i64 0, .int .i64 0, .int .i64 0, .int .i64 0, .int .i64 0, .int .i64 0, .string .empty])) := ⟨(Tryz.prog.info? 100).get!, by kernel_rfl, by kernel_rfl⟩
theorem ent_42 : ∀ args w, (callFunc 42 args).run Tryz.prog w = .ok (.enter 42 args) w := enters_of Tryz.func42 (by kernel_rfl) rfl
theorem ent_43 : ∀ args w, (callFunc 43 args).run Tryz.prog w = .ok (.enter 43 args) w := enters_of Tryz.func43 (by kernel_rfl) rfl
/-- What the loop over the streams keeps: its record, its block; the slice that grows. -/
abbrev MS (gR l Dk : Nat) (rec : Loop) (A : Option Addr) (c : Nat) (ys : List Strm) : List Ent := RB l Dk rec ++ [.blk gR (.cells #[.slice A ys.length c] 34 (0, 0)), .row A c 39 9 (List.map Strm.cells ys)]
/-- A round appends the stream. -/
def YieldOk (gR l Dk : Nat) (rec : Loop) (N : Nat) : Prop := ∀ (ys : List Strm) (x : Strm) (A : Option Addr) (c : Nat) (w : World), ys.length < N → SL w ((MS gR l Dk rec A c ys).flatMap Ent.blocks) w (MS gR l Dk rec A c ys) →
    ∃ f tmps asg body, (Instr.yield l #[.agg x.cells]).run Tryz.prog w = .ok (.round l f tmps asg body) w ∧ RoundIn Fence.wide 0 Tryz.prog l f tmps asg body w fun e w' => ∃ z : Option Addr × Nat, True ∧ e = .returned (.bool true) ∧ SL w ((MS gR l Dk rec A c ys).flatMap Ent.blocks) w' (MS gR l Dk rec z.1 z.2 (ys ++ [x]))

set_option maxRecDepth 100000 in
theorem w_counted1 {w : World} {gR l Dk g1 : Nat} (rec : Loop) (A0 : Option Addr) (c0 : Nat) {B : Option Addr} {cb : Nat} (ps : List Fct) (hps : ∀ p ∈ ps, p.valid = true) (hn : ps.length ≤ 1000) (hG : Lens w) (h1 : w.cell? ⟨g1, 0, none⟩ = some (.slice B ps.length cb)) (hr : Rd w B 18 (ps.map Fct.cells)) (hO0 : 0 ∉ ((MS gR l Dk rec A0 c0 []).flatMap Ent.blocks)) (hOL : 1 ∉ ((MS gR l Dk rec A0 c0 []).flatMap Ent.blocks)) (hO1 : g1 ∉ ((MS gR l Dk rec A0 c0 []).flatMap Ent.blocks)) (hOB : ab B ∉ ((MS gR l Dk rec A0 c0 []).flatMap Ent.blocks)) (hs : SL w ((MS gR l Dk rec A0 c0 []).flatMap Ent.blocks) w (MS gR l Dk rec A0 c0 [])) (hy : YieldOk gR l Dk rec 1000) :
    Calls Tryz.prog 41 #[.func (.yield l) #[] #[], .pointer (some ⟨g1, 0, none⟩)] w (fun e w' => ∃ z : Option Addr × Nat, True ∧ e = .returned (.tuple #[]) ∧ SL w ((MS gR l Dk rec A0 c0 []).flatMap Ent.blocks) w' (MS gR l Dk rec z.1 z.2 (counted Plr.start ps))) := by
 refine calls_of_CX (O := ((MS gR l Dk rec A0 c0 []).flatMap Ent.blocks)) (L := [.blk l (.loop rec), .blk Dk (.deferred (some [])), .blk gR (.cells (#[.slice A0 ([] : List Strm).length c0]) 34 (0, 0)), .row A0 c0 39 9 (List.map Strm.cells ([] : List Strm))]) (args := [.func (.yield l) #[] #[], .pointer (some ⟨g1, 0, none⟩)]) Tryz.func41 rfl (by simp [Tryz.ntmps41]) hs ?_
 refine CX.sub (V' := [(0, .func (.yield l) #[] #[]), (1, .pointer (some ⟨g1, 0, none⟩))]) ⟨rfl, rfl, trivial⟩ ?_
 refine CX.scope ?_
 refine CX.seq ?_
 refine CX.region ?_
 refine RX.cons rfl rfl (op_makeMap rfl rfl rfl fun m => ?_)
 refine RX.cons rfl rfl (op_w (yw_build (v := .agg (#[.int .i64 0, .int .i64 0, .int .i64 0, .int .i64 0, .map (some m)])) rfl rfl (fun _ => by kernel_rfl)) rfl rfl ?_)
 refine RX.cons rfl rfl (op_box rfl rfl rfl rfl fun g2 => ?_)
 refine RX.cons rfl rfl (op_w (yw_assign rfl rfl) rfl rfl ?_)
 refine RX.nil (XX.next (V' := [(0, _), (1, _), (3, _)]) ⟨rfl, rfl, rfl, trivial⟩ ?_)
 refine CX.seq ?_
 refine CX.label (XX.next (V' := [(0, _), (1, _), (3, _)]) ⟨rfl, rfl, rfl, trivial⟩ ?_)
 refine CX.seq ?_
 refine CX.region ?_
 refine RX.cons rfl rfl (op_yld (y_loadG (v := .slice B ps.length cb) rfl rfl one_63 h1 hO1) rfl rfl ?_)
 refine RX.cons rfl rfl (op_w (yw_lenS rfl Tryz.underlying63 rfl) rfl rfl ?_)
 refine RX.cons rfl rfl (op_w (yw_move rfl rfl) rfl rfl ?_)
 refine RX.nil (XX.next (V' := [(0, _), (3, _), (12, _), (13, _), (14, _)]) ⟨rfl, rfl, rfl, rfl, rfl, trivial⟩ ?_)
 refine CX.block ?_
 refine CX.loop (σ := Nat × Plr × Nat × Option Addr × Nat × List Strm) (fun z => [(0, .func (.yield l) #[] #[]), (3, .pointer (some ⟨g2, 0, none⟩)), (12, .slice B ps.length cb), (13, .int .i64 ((ps.length : Nat) : Int)), (14, .int .i64 ((z.1 : Nat) : Int))]) (fun z => [.blk g2 (.cells (plrCells z.2.1 z.2.2.1) 99 (0, 0)), .imap z.2.2.1 (loopsMap z.2.1), .blk l (.loop rec), .blk Dk (.deferred (some [])), .blk gR (.cells (#[.slice z.2.2.2.1 z.2.2.2.2.2.length z.2.2.2.2.1]) 34 (0, 0)), .row z.2.2.2.1 z.2.2.2.2.1 39 9 (List.map Strm.cells z.2.2.2.2.2)]) (fun z => z.1 ≤ ps.length ∧ PlrOk z.2.1 ∧ z.2.1.session ≤ (z.1 : Int) ∧ z.2.2.2.2.2.length ≤ z.1 ∧ z.2.2.2.2.2 ++ counted z.2.1 (ps.drop z.1) = counted Plr.start ps) (fun z => ps.length - z.1) (0, Plr.start, m, A0, c0, []) ⟨Nat.zero_le _, start_ok, Int.le_refl 0, Nat.zero_le _, rfl⟩ ⟨rfl, rfl, rfl, rfl, rfl, trivial⟩ rfl (fun z hI => ?_)
 obtain ⟨i, x, m, A, c, ys⟩ := z
 dsimp only at hI ⊢
 obtain ⟨hi, hok, hsess, hyl, hf⟩ := hI
 refine CX.seq ?_
 refine CX.region ?_
 refine RX.cons rfl rfl (op_w (yw_lss rfl rfl rfl) rfl rfl ?_)
 refine RX.nil (XX.next (V' := [(0, _), (3, _), (12, _), (13, _), (14, _), (15, _)]) ⟨rfl, rfl, rfl, rfl, rfl, rfl, trivial⟩ ?_)
 refine CX.seq ?_
 refine CX.condD (p := ((i : Nat) : Int) < ((ps.length : Nat) : Int)) rfl (fun c15 => ?_) (fun c15 => ?_)
 ·obtain ⟨p, hp⟩ := get_some (l := ps) (k := i) (by omega)
  obtain ⟨h0, h1', h2, h3⟩ := valid_ranges (hps p (List.mem_of_getElem? hp))
  refine CX.skip (XX.next (V' := [(0, _), (3, _), (12, _), (13, _), (14, _)]) ⟨rfl, rfl, rfl, rfl, rfl, trivial⟩ ?_)
  refine CX.seq ?_
  refine CX.block ?_
  refine CX.seq ?_
  refine CX.region ?_
  refine RX.cons rfl rfl (op_w (yw_index (k := i) rfl slt_63 rfl rfl (by omega) (by omega) (hr.some (k := i) (by simp; omega))) rfl rfl ?_)
  refine RX.cons rfl rfl (op_yld (y_elem rfl rfl agg_100 hr hOB (map_get hp)) rfl rfl ?_)
  refine RX.cons rfl rfl (op_alloc rfl rfl rfl zero_100 fun g1 => ?_)
  refine RX.cons rfl rfl (op_storeAll (i := 0) rfl rfl rfl rfl szt_100 rfl (plain_of rfl) rfl rfl ?_)
  refine RX.nil (XX.next (V' := [(0, _), (3, _), (5, _), (12, _), (13, _), (14, _)]) ⟨rfl, rfl, rfl, rfl, rfl, rfl, trivial⟩ ?_)
  refine CX.seq ?_
  refine CX.seq ?_
  refine CX.region ?_
  refine RX.cons rfl rfl (op_w (yw_move rfl rfl) rfl rfl ?_)
  refine RX.cons rfl rfl (op_yld (y_loadA (i := 0) rfl rfl agg_100 rfl rfl) rfl rfl ?_)
  refine RX.cons rfl rfl (op_callP [.blk g2 (.cells (plrCells x m) 99 (0, 0)), .imap m (loopsMap x)] [.blk g1 (.cells (Fct.cells p) 100 (0, 0)), .blk l (.loop rec), .blk Dk (.deferred (some [])), .blk gR (.cells (#[.slice A ys.length c]) 34 (0, 0)), .row A c 39 9 (List.map Strm.cells ys)] rfl rfl rfl rfl rfl ent_42 ((perm_pick 1 rfl).trans (List.Perm.cons _ ((perm_pick 1 rfl).trans (List.Perm.cons _ (List.Perm.refl _))))) (σ := Nat) (val := fun _ => .bool (Plr.look x p).2) (LL := fun m' => [.blk g2 (.cells (plrCells ((Plr.look x p).1) m') 99 (0, 0)), .imap m' (loopsMap ((Plr.look x p).1))]) (post := fun _ => True) (fun w hw hs => w_look x p hs hok h0 h1' h2 h3) (fun m' _ => ?_))
  refine RX.cons rfl rfl (op_w (yw_not rfl rfl) rfl rfl ?_)
  refine RX.nil (XX.next (V' := [(0, _), (3, _), (5, _), (12, _), (13, _), (14, _), (21, _)]) ⟨rfl, rfl, rfl, rfl, rfl, rfl, rfl, trivial⟩ ?_)
  refine CX.cond (b := !((Plr.look x p).2)) rfl (fun c21 => ?_) (fun c21 => ?_)
  ·refine CX.exit ?_
   refine XX.then_exit ?_
   refine XX.block_exit ?_
   refine XX.next (V' := [(0, _), (3, _), (12, _), (13, _), (14, _)]) ⟨rfl, rfl, rfl, rfl, rfl, trivial⟩ ?_
   refine CX.region ?_
   refine RX.cons rfl rfl (op_w (yw_add rfl rfl rfl (by omega) (by omega)) rfl rfl ?_)
   refine RX.cons rfl rfl (op_w (yw_move rfl rfl) rfl rfl ?_)
   refine RX.nil (XX.againP ([.blk g1 (.cells (Fct.cells p) 100 (0, 0))]) (i + 1, (x.look p).1, m', A, c, ys) (by dsimp only; omega) ⟨by dsimp only; omega, look_ok hok h0 h1' hsess (by omega), look_sess hok h0 h1' hsess, by dsimp only; omega, by dsimp only; rw [← hf, drop_get hp, counted_no (by simpa using c21)]⟩ ⟨rfl, rfl, rfl, rfl, rfl, trivial⟩ ((perm_pick 0 rfl).trans (List.Perm.cons _ ((perm_pick 0 rfl).trans (List.Perm.cons _ ((perm_pick 1 rfl).trans (List.Perm.cons _ ((perm_pick 1 rfl).trans (List.Perm.cons _ ((perm_pick 1 rfl).trans (List.Perm.cons _ ((perm_pick 1 rfl).trans (List.Perm.cons _ (List.Perm.refl _))))))))))))))
  ·refine CX.skip (XX.next (V' := [(0, _), (3, _), (5, _), (12, _), (13, _), (14, _)]) ⟨rfl, rfl, rfl, rfl, rfl, rfl, trivial⟩ ?_)
   refine CX.seq ?_
   refine CX.region ?_
   refine RX.cons rfl rfl (op_w (yw_field0 rfl fld_100_0 rfl) rfl rfl ?_)
   refine RX.cons rfl rfl (op_w (yw_fieldAddr rfl fld_27_4 rfl) rfl rfl ?_)
   refine RX.cons rfl rfl (op_yld (y_load (i := 2) rfl rfl one_3 rfl rfl) rfl rfl ?_)
   refine RX.cons rfl rfl (op_callV (v := .tuple #[.int .i64 (periodOf p.second), .int .i64 (dayOf p.second), .bool true]) rfl rfl rfl rfl rfl ent_43 (fun w hw => w_of (hG.keep hw hOL) p.second ⟨h0, h1'⟩) ?_)
   refine RX.cons rfl rfl (op_w (yw_move rfl rfl) rfl rfl ?_)
   refine RX.cons rfl rfl (op_w (yw_extract rfl rfl rfl) rfl rfl ?_)
   refine RX.cons rfl rfl (op_w (yw_extract rfl rfl rfl) rfl rfl ?_)
   refine RX.cons rfl rfl (op_w (yw_extract rfl rfl rfl) rfl rfl ?_)
   refine RX.cons rfl rfl (op_w (yw_assign rfl rfl) rfl rfl ?_)
   refine RX.cons rfl rfl (op_w (yw_assign rfl rfl) rfl rfl ?_)
   refine RX.cons rfl rfl (op_w (yw_assign rfl rfl) rfl rfl ?_)
   refine RX.nil (XX.next (V' := [(0, _), (3, _), (5, _), (6, _), (12, _), (13, _), (14, _)]) ⟨rfl, rfl, rfl, rfl, rfl, rfl, rfl, trivial⟩ ?_)
   refine CX.seq ?_
   refine CX.draw 25 [(0, 1, 1073741824), (0, 32, 2147483648), (2, 2147483648, 4294967296), (4, 4294967296, 8589934592), (0, 32, 17179869184), (16, 17179869184, 34359738368), (32, 34359738368, 68719476736), (0, 32, 137438953472), (128, 137438953472, 274877906944), (256, 274877906944, 549755813888), (0, 32, 1099511627776), (1024, 1099511627776, 2199023255552), (2048, 2199023255552, 4398046511104), (0, 32, 8796093022208), (8192, 8796093022208, 17592186044416), (16384, 17592186044416, 35184372088832), (0, 32, 70368744177664), (65536, 70368744177664, 140737488355328), (131072, 140737488355328, 281474976710656), (0, 64, 562949953421312), (0, 8, 1125899906842624), (1048576, 1125899906842624, 2251799813685248), (2097152, 2251799813685248, 4503599627370496), (4194304, 4503599627370496, 9007199254740992), (9212488, 9891833668698112, 18014398509481984), (16777217, 18014399583223808, 36028797018963968), (33554432, 36028797018963968, 72057594037927936)] (by kernel_rfl) (by kernel_rfl) (by kernel_rfl) ?_
   refine DX.takeW 0 1 (by kernel_rfl) rfl rfl rfl rfl rfl (yw_move rfl rfl) ?_
   refine DX.takeW 1 3 (by kernel_rfl) rfl rfl rfl rfl rfl (yw_field0 rfl fld_100_0 rfl) ?_
   refine DX.takeW 2 7 (by kernel_rfl) rfl rfl rfl rfl rfl (yw_fieldAddr rfl fld_27_6 rfl) ?_
   refine DX.take 3 15 (by kernel_rfl) rfl rfl rfl rfl rfl (List.Sublist.refl _) (y_load (i := 2) rfl rfl one_3 rfl rfl) ?_
   refine DX.takeW 4 31 (by kernel_rfl) rfl rfl rfl rfl rfl (yw_field0 rfl fld_100_0 rfl) ?_
   refine DX.takeW 5 63 (by kernel_rfl) rfl rfl rfl rfl rfl (yw_fieldAddr rfl fld_27_1 rfl) ?_
   refine DX.take 6 127 (by kernel_rfl) rfl rfl rfl rfl rfl (List.Sublist.refl _) (y_load (i := 2) rfl rfl one_3 rfl rfl) ?_
   refine DX.takeW 7 255 (by kernel_rfl) rfl rfl rfl rfl rfl (yw_field0 rfl fld_100_0 rfl) ?_
   refine DX.takeW 8 511 (by kernel_rfl) rfl rfl rfl rfl rfl (yw_fieldAddr rfl fld_27_5 rfl) ?_
   refine DX.take 9 1023 (by kernel_rfl) rfl rfl rfl rfl rfl (List.Sublist.refl _) (y_load (i := 2) rfl rfl one_3 rfl rfl) ?_
   refine DX.takeW 10 2047 (by kernel_rfl) rfl rfl rfl rfl rfl (yw_field0 rfl fld_100_0 rfl) ?_
   refine DX.takeW 11 4095 (by kernel_rfl) rfl rfl rfl rfl rfl (yw_fieldAddr rfl fld_27_7 rfl) ?_
   refine DX.take 12 8191 (by kernel_rfl) rfl rfl rfl rfl rfl (List.Sublist.refl _) (y_load (i := 2) rfl rfl one_3 rfl rfl) ?_
   refine DX.takeW 13 16383 (by kernel_rfl) rfl rfl rfl rfl rfl (yw_field0 rfl fld_100_0 rfl) ?_
   refine DX.takeW 14 32767 (by kernel_rfl) rfl rfl rfl rfl rfl (yw_fieldAddr rfl fld_27_8 rfl) ?_
   refine DX.take 15 65535 (by kernel_rfl) rfl rfl rfl rfl rfl (List.Sublist.refl _) (y_load (i := 2) rfl rfl one_3 rfl rfl) ?_
   refine DX.takeW 16 131071 (by kernel_rfl) rfl rfl rfl rfl rfl (yw_field0 rfl fld_100_0 rfl) ?_
   refine DX.takeW 17 262143 (by kernel_rfl) rfl rfl rfl rfl rfl (yw_fieldAddr rfl fld_27_4 rfl) ?_
   refine DX.take 18 524287 (by kernel_rfl) rfl rfl rfl rfl rfl (List.Sublist.refl _) (y_load (i := 2) rfl rfl one_3 rfl rfl) ?_
   refine DX.takeW 19 1048575 (by kernel_rfl) rfl rfl rfl rfl rfl (yw_move rfl rfl) ?_
   refine DX.takeW 20 2097151 (by kernel_rfl) rfl rfl rfl rfl rfl (yw_move rfl rfl) ?_
   refine DX.takeW 21 4194303 (by kernel_rfl) rfl rfl rfl rfl rfl (yw_nilCheck rfl rfl) ?_
   refine DX.takeW 22 8388607 (by kernel_rfl) rfl rfl rfl rfl rfl (yw_fieldAddr rfl fld_99_3 rfl) ?_
   refine DX.take 23 16777215 (by kernel_rfl) rfl rfl rfl rfl rfl (List.Sublist.refl _) (y_load (i := 0) rfl rfl one_3 rfl rfl) ?_
   refine DX.takeW 24 33554431 (by kernel_rfl) rfl rfl rfl rfl rfl (yw_build (v := .agg (Strm.cells (strm (x.look p).1 p))) rfl rfl (fun _ => by kernel_rfl)) ?_
   refine DX.stepT 25 67108863 (by kernel_rfl) rfl rfl rfl rfl (op_yield [.blk l (.loop rec), .blk Dk (.deferred (some [])), .blk gR (.cells (#[.slice A ys.length c]) 34 (0, 0)), .row A c 39 9 (List.map Strm.cells ys)] [.blk g2 (.cells (plrCells ((Plr.look x p).1) m') 99 (0, 0)), .imap m' (loopsMap ((Plr.look x p).1)), .blk g1 (.cells (Fct.cells p) 100 (0, 0))] rfl rfl rfl rfl rfl ((perm_pick 3 rfl).trans (List.Perm.cons _ ((perm_pick 3 rfl).trans (List.Perm.cons _ ((perm_pick 3 rfl).trans (List.Perm.cons _ ((perm_pick 3 rfl).trans (List.Perm.cons _ (List.Perm.refl _))))))))) (σ := Option Addr × Nat) (LL := fun z => MS gR l Dk rec z.1 z.2 (ys ++ [strm (x.look p).1 p])) (post := fun _ => True) (fun w hw hs => hy ys (strm (x.look p).1 p) A c w (by omega) hs) (fun z _ => ?_))
   refine DX.takeW 26 134217727 (by kernel_rfl) rfl rfl rfl rfl rfl (yw_not rfl rfl) ?_
   refine DX.done (by kernel_rfl) (XX.next (V' := [(0, _), (3, _), (12, _), (13, _), (14, _), (56, _)]) ⟨rfl, rfl, rfl, rfl, rfl, rfl, trivial⟩ ?_)
   refine CX.condF rfl ?_
   refine CX.skip (XX.inBlock (V' := [(0, _), (3, _), (12, _), (13, _), (14, _)]) ⟨rfl, rfl, rfl, rfl, rfl, trivial⟩ ?_)
   refine XX.next (V' := [(0, _), (3, _), (12, _), (13, _), (14, _)]) ⟨rfl, rfl, rfl, rfl, rfl, trivial⟩ ?_
   refine CX.region ?_
   refine RX.cons rfl rfl (op_w (yw_add rfl rfl rfl (by omega) (by omega)) rfl rfl ?_)
   refine RX.cons rfl rfl (op_w (yw_move rfl rfl) rfl rfl ?_)
   refine RX.nil (XX.againP ([.blk g1 (.cells (Fct.cells p) 100 (0, 0))]) (i + 1, (x.look p).1, m', z.1, z.2, ys ++ [strm (x.look p).1 p]) (by dsimp only; omega) ⟨by dsimp only; omega, look_ok hok h0 h1' hsess (by omega), look_sess hok h0 h1' hsess, by simp; omega, by dsimp only; rw [← hf, drop_get hp, counted_yes (by simpa using c21)]; simp⟩ ⟨rfl, rfl, rfl, rfl, rfl, trivial⟩ ((perm_pick 4 rfl).trans (List.Perm.cons _ ((perm_pick 4 rfl).trans (List.Perm.cons _ ((perm_pick 0 rfl).trans (List.Perm.cons _ ((perm_pick 0 rfl).trans (List.Perm.cons _ ((perm_pick 0 rfl).trans (List.Perm.cons _ ((perm_pick 0 rfl).trans (List.Perm.cons _ (List.Perm.refl _))))))))))))))
 ·obtain rfl : i = ps.length := by omega
  rw [List.drop_length, counted, List.append_nil] at hf
  refine CX.exit ?_
  refine XX.then_exit ?_
  refine XX.then_exit ?_
  refine XX.block_exit ?_
  refine XX.scope_normal ?_
  exact end_none rfl fun w1 hw => ⟨(A, c), trivial, rfl, by rw [← hf]; exact hw.pick ((perm_pick 2 rfl).trans (List.Perm.cons _ ((perm_pick 2 rfl).trans (List.Perm.cons _ ((perm_pick 2 rfl).trans (List.Perm.cons _ ((perm_pick 2 rfl).trans (List.Perm.cons _ (List.Perm.refl _)))))))))⟩

end Go.Proofs.YtpcfgoadkfajfaaGreatDoor.Se
namespace Go.Proofs.YtpcfgoadkfajfaaGreatDoor
set_option linter.all false
open Go Go.RowKit
theorem perm_nil {α : Type} (l : List α) : l.Perm (l ++ []) := by rw [List.append_nil]
section
variable {P : Program} {w0 : World} {O : List Nat} {n : Nat} {D : List Deferred} {o : Oper} {V : List (Nat × Value)} {L : List Ent} {T : List (Nat × Value) → List Ent → Prop} {Q : Exit → Act → World → Prop}
/-- A round takes the loop from state s to a state s' with Rl s x s'; outside the loop's blocks Ob the world is still the world wb in which the iterator was called. -/
def YieldG (P : Program) (wb : World) (Ob : List Nat) (l Dk : Nat) (rec : Loop) {σ : Type} (St : σ → List Ent) (Rl : σ → List Value → σ → Prop) (ok : List Value → Prop) : Prop :=
  ∀ (s : σ) (x : List Value) (w : World), ok x → (∀ k, k < wb.heap.size → k ∉ Ob → w.heap[k]? = wb.heap[k]?) → SL w ((RB l Dk rec ++ St s).flatMap Ent.blocks) w (RB l Dk rec ++ St s) →
    ∃ f tmps asg body, (Instr.yield l x.toArray).run P w = .ok (.round l f tmps asg body) w ∧ RoundIn Fence.wide 0 P l f tmps asg body w fun e w' => ∃ s', Rl s x s' ∧ e = .returned (.bool true) ∧ SL w ((RB l Dk rec ++ St s).flatMap Ent.blocks) w' (RB l Dk rec ++ St s')
/-- .. what may be handed over hangs on the state. -/
def YieldS (P : Program) (wb : World) (Ob : List Nat) (l Dk : Nat) (rec : Loop) {σ : Type} (St : σ → List Ent) (Rl : σ → List Value → σ → Prop) (ok : σ → List Value → Prop) : Prop :=
  ∀ (s : σ) (x : List Value) (w : World), ok s x → (∀ k, k < wb.heap.size → k ∉ Ob → w.heap[k]? = wb.heap[k]?) → SL w ((RB l Dk rec ++ St s).flatMap Ent.blocks) w (RB l Dk rec ++ St s) →
    ∃ f tmps asg body, (Instr.yield l x.toArray).run P w = .ok (.round l f tmps asg body) w ∧ RoundIn Fence.wide 0 P l f tmps asg body w fun e w' => ∃ s', Rl s x s' ∧ e = .returned (.bool true) ∧ SL w ((RB l Dk rec ++ St s).flatMap Ent.blocks) w' (RB l Dk rec ++ St s')
/-- The rounds over a list of items. -/
inductive Steps {σ : Type} (Rl : σ → List Value → σ → Prop) : σ → List (List Value) → σ → Prop
  | nil (s : σ) : Steps Rl s [] s
  | snoc {s s' s'' : σ} {xs : List (List Value)} {x : List Value} : Steps Rl s xs s' → Rl s' x s'' → Steps Rl s (xs ++ [x]) s''
theorem op_yieldG {f : Operand} {xs : Array Operand} {ts : Array TypeId} {l Dk d : Nat} {vs : List Value} {rec : Loop} {σ : Type} {St : σ → List Ent} {Rl : σ → List Value → σ → Prop} {ok : List Value → Prop} (s : σ) (hy : YieldG P w0 O l Dk rec St Rl ok)
    (ho : o.op = .call { callee := .value f, args := xs, argTypes := ts }) (hd : o.dst = some d) (hdn : Nat.blt d n = true) (hf : ev V f = some (.func (.yield l) #[] #[])) (hx : evs V xs.toList = some vs) (hok : ok vs) (hL : L = RB l Dk rec ++ St s)
    (hT : ∀ s', Rl s vs s' → T ((d, .bool true) :: V) (RB l Dk rec ++ St s')) : OpS P w0 O n D o V L T := by
  subst hL
  refine op_yield (σ := σ) (LL := fun s' => RB l Dk rec ++ St s') (post := fun s' => Rl s vs s') (RB l Dk rec ++ St s) [] ho hd hdn hf hx (by rw [List.append_nil]) (fun w hw hs => ?_) (fun s' h => ?_)
  · obtain ⟨f', tmps, asg, body, h1, h2⟩ := hy s vs w hok hw.same hs
    exact ⟨f', tmps, asg, body, h1, h2.mono fun e w' ⟨s', a, b, c⟩ => ⟨s', a, b, c⟩⟩
  · rw [List.append_nil]; exact hT s' h
/-- .. of an iterator that has blocks of its own. -/
theorem op_yieldGR {f : Operand} {xs : Array Operand} {ts : Array TypeId} {l Dk d : Nat} {vs : List Value} {rec : Loop} {σ : Type} {St : σ → List Ent} {Rl : σ → List Value → σ → Prop} {ok : σ → List Value → Prop} (s : σ) (R : List Ent) (hy : YieldS P w0 O l Dk rec St Rl ok)
    (ho : o.op = .call { callee := .value f, args := xs, argTypes := ts }) (hd : o.dst = some d) (hdn : Nat.blt d n = true) (hf : ev V f = some (.func (.yield l) #[] #[])) (hx : evs V xs.toList = some vs) (hok : ok s vs) (hL : L = RB l Dk rec ++ (R ++ St s))
    (hT : ∀ s', Rl s vs s' → T ((d, .bool true) :: V) (RB l Dk rec ++ (R ++ St s'))) : OpS P w0 O n D o V L T := by
  subst hL
  have hp : ∀ s', ((RB l Dk rec ++ St s') ++ R).Perm (RB l Dk rec ++ (R ++ St s')) := fun s' => by
    rw [List.append_assoc]
    exact List.Perm.append_left _ List.perm_append_comm
  have h := op_yield (P := P) (w0 := w0) (O := O) (n := n) (D := D) (o := o) (V := V) (T := fun V' L' => ∃ s', Rl s vs s' ∧ V' = (d, .bool true) :: V ∧ L' = (RB l Dk rec ++ St s') ++ R) (σ := σ) (LL := fun s' => RB l Dk rec ++ St s') (post := fun s' => Rl s vs s') (RB l Dk rec ++ St s) R ho hd hdn hf hx (hp s).symm (fun w hw hs => by
    obtain ⟨f', tmps, asg, body, h1, h2⟩ := hy s vs w hok hw.same hs
    exact ⟨f', tmps, asg, body, h1, h2.mono fun e w' ⟨s', a, b, c⟩ => ⟨s', a, b, c⟩⟩) (fun s' h => ⟨s', h, rfl, rfl⟩)
  intro a w ha hw
  refine Does.mono (h a w ha hw) ?_
  rintro a' w' ⟨V', L', ⟨s', h1, rfl, rfl⟩, h2, h3⟩
  exact ⟨_, _, hT s' h1, h2, h3.perm (hp s')⟩

/-- One round of a range with two variables. -/
theorem round_of_CX2 {w : World} {l Dk p q : Nat} {rec : Loop} {v u : Value} {M : List Ent} {V0 : List (Nat × Value)} {σ τ : Type} (V1 : σ → List (Nat × Value)) (L1 : σ → List Ent) (I1 : σ → Prop) {LL : τ → List Ent} {post : τ → Prop}
    (hst : rec.state = .ready) (hpe : rec.pending = none) (hps : rec.params = #[p, q]) (hV : Holds n [] { tmps := (rec.tmps.setIfInBounds p v).setIfInBounds q u, defers := [] } V0)
    (hA : CX P (some l) (Met V1 (fun x => RB l Dk rec ++ L1 x) I1 w O n []) w O n [] rec.assign V0 (RB l Dk rec ++ M))
    (hB : ∀ x, I1 x → CX P (some l) (Met (fun _ => []) (fun y => RB l Dk { rec with state := .busy } ++ LL y) post w O n []) w O n [] rec.body (V1 x) (RB l Dk { rec with state := .busy } ++ L1 x))
    (hw : SL w O w (RB l Dk rec ++ M)) :
    ∃ f tmps asg body, (Instr.yield l #[v, u]).run P w = .ok (.round l f tmps asg body) w ∧
      RoundIn Fence.wide 0 P l f tmps asg body w fun e w' => ∃ y, post y ∧ e = .returned (.bool true) ∧ SL w O w' (RB l Dk rec ++ LL y) := by
  have hl : w.heap[l]? = some (.loop rec) := hw.ents (.blk l (.loop rec)) (by simp)
  have hy := run_yield (P := P) (args := #[v, u]) hl (by simp [hps])
  have e : (rec.params.zip #[v, u]).foldl (fun tmps (t, a) => tmps.setIfInBounds t a) rec.tmps = (rec.tmps.setIfInBounds p v).setIfInBounds q u := by simp [hps]
  rw [e] at hy
  refine ⟨_, _, _, _, hy, roundIn_of_wpIn (F := Fence.wide) trivial ?_⟩
  refine wpIn_mono (hA _ w hV hw) ?_
  rintro e a1 w1 ⟨rfl, x, hI, ha1, hw1⟩
  have hl1 : w1.heap[l]? = some (.loop rec) := hw1.ents (.blk l (.loop rec)) (by simp)
  refine ⟨_, run_beginRound hl1 hst, ?_⟩
  have hw2 : SL w O (w1.putObj l (.loop { rec with state := .busy })) (RB l Dk { rec with state := .busy } ++ L1 x) := putObj_SL (i := 0) hw1 rfl _
  refine wpIn_mono (hB x hI a1 _ ha1 hw2) ?_
  rintro e a3 w3 ⟨rfl, y, hp, _, hw3⟩
  have hl3 : w3.heap[l]? = some (.loop { rec with state := .busy }) := hw3.ents (.blk l (.loop { rec with state := .busy })) (by simp)
  have hr3 := run_endRound (P := P) none hl3
  have e3 : ({ ({ rec with state := .busy } : Loop) with state := if (none : Option Code).isNone then .ready else .done, pending := none } : Loop) = rec := by
    cases rec; simp at hst hpe; simp [hst, hpe]
  rw [e3] at hr3
  exact ⟨_, _, hr3, y, hp, rfl, putObj_SL (i := 0) hw3 rfl _⟩
end

/-! ### The end of a function that holds a range: results in slots -/
section
variable {P : Program} {w0 : World} {O : List Nat} {L : List Ent} {fn : Func} {R : Ending → World → Prop} {n : Nat} {V : List (Nat × Value)}
theorem ret_tmpM {t Dk k : Nat} {v : Value} (hr : fn.results = #[.tmp t]) (hv : lk V t = some v) (hD : L[k]? = some (.blk Dk (.deferred (some []))))
    (h : ∀ w, SL w0 O w (L.set k (.blk Dk (.deferred none))) → R (.returned v) w) : XX (bodyPostM Fence.wide 0 P fn R) w0 O n [{ target := .collected Dk, args := #[] }] .ret V L := by
  intro a w ha hw
  have hp := ha.at_ _ _ hv
  have hDk : w.heap[Dk]? = some (.deferred (some [])) := hw.ents _ (List.mem_of_getElem? hD)
  have hw' := putObj_SL hw hD (.deferred none)
  show LeavesInM Fence.wide 0 P fn a.tmps R a.defers .returning w
  rw [ha.defers]
  refine ⟨by simp, .inl ⟨Dk, _, rfl, run_takeDeferred hDk, ?_⟩⟩
  refine ⟨v, ?_, h _ hw'⟩
  simp [results, hr, hp]
theorem ret_tmpM0 {t : Nat} {v : Value} (hr : fn.results = #[.tmp t]) (hv : lk V t = some v) (h : ∀ w, SL w0 O w L → R (.returned v) w) : XX (bodyPostM Fence.wide 0 P fn R) w0 O n [] .ret V L := by
  intro a w ha hw
  have hp := ha.at_ _ _ hv
  show LeavesInM Fence.wide 0 P fn a.tmps R a.defers .returning w
  rw [ha.defers]
  refine ⟨v, ?_, h _ hw⟩
  simp [results, hr, hp]
theorem ret_tmp2M {t t' Dk k : Nat} {v v' : Value} (hr : fn.results = #[.tmp t, .tmp t']) (hv : lk V t = some v) (hv' : lk V t' = some v') (hD : L[k]? = some (.blk Dk (.deferred (some []))))
    (h : ∀ w, SL w0 O w (L.set k (.blk Dk (.deferred none))) → R (.returned (.tuple #[v, v'])) w) : XX (bodyPostM Fence.wide 0 P fn R) w0 O n [{ target := .collected Dk, args := #[] }] .ret V L := by
  intro a w ha hw
  have hp := ha.at_ _ _ hv
  have hp' := ha.at_ _ _ hv'
  have hDk : w.heap[Dk]? = some (.deferred (some [])) := hw.ents _ (List.mem_of_getElem? hD)
  have hw' := putObj_SL hw hD (.deferred none)
  show LeavesInM Fence.wide 0 P fn a.tmps R a.defers .returning w
  rw [ha.defers]
  refine ⟨by simp, .inl ⟨Dk, _, rfl, run_takeDeferred hDk, ?_⟩⟩
  refine ⟨.tuple #[v, v'], ?_, h _ hw'⟩
  simp [results, hr, hp, hp']
end
end Go.Proofs.YtpcfgoadkfajfaaGreatDoor
namespace Go.Proofs.YtpcfgoadkfajfaaGreatDoor
set_option linter.all false
open Go Go.RowKit
section
variable {w0 w : World} {O : List Nat} {M R : List Ent}
/-- Blocks that the call has made. -/
theorem SL.fresh {L : List Ent} (h : SL w0 [] w L) {M : List Ent} (hM : M ⊆ L) {b : Nat} (hb : b < w0.heap.size) : b ∉ M.flatMap Ent.blocks := by
  intro hm
  obtain ⟨p, hp, hbp⟩ := List.mem_flatMap.1 hm
  rcases h.own p (hM hp) b hbp with h1 | h1
  · simp at h1
  · omega
theorem SL.apart (h : SL w0 O w (M ++ R)) (i : Nat) {q : Ent} (hq : R[i]? = some q) {b : Nat} (hb : b ∈ q.blocks) : b ∉ M.flatMap Ent.blocks := by
  intro hm
  have hn := h.nodup
  rw [List.flatMap_append, List.nodup_append] at hn
  exact hn.2.2 b hm b (List.mem_flatMap.2 ⟨q, List.mem_of_getElem? hq, hb⟩) rfl
theorem SL.apartA (h : SL w0 O w (M ++ R)) (h0 : 0 ∉ M.flatMap Ent.blocks) (i : Nat) {A : Option Addr} {cap : Nat} {e : TypeId} {sz : Nat} {xs : List (Array Value)} (hq : R[i]? = some (.row A cap e sz xs)) : ab A ∉ M.flatMap Ent.blocks := by
  cases A with
  | none => exact h0
  | some a => exact h.apart i hq (b := a.block) (by simp [Ent.blocks])
end
theorem Holds.round {n : Nat} {D : List Deferred} {a : Act} {V : List (Nat × Value)} (h : Holds n D a V) (p : Nat) (hp : Nat.blt p n = true) (v : Value) : Holds n [] { tmps := a.tmps.setIfInBounds p v, defers := [] } ((p, v) :: V) := by
  have := h.put hp v
  exact ⟨rfl, this.size, this.at_⟩
theorem SL.keepC {w0 w : World} {O : List Nat} {L : List Ent} (h : SL w0 O w L) {a : Addr} {v : Value} (hc : w0.cell? a = some v) (hO : a.block ∉ O) : w.cell? a = some v := by
  rw [h.cell0 (World.block_lt_of_cell? w0 _ hc) hO]; exact hc
theorem Ent.capLe {w : World} {A : Option Addr} {cap : Nat} {e : TypeId} {sz : Nat} {xs : List (Array Value)} (h : (Ent.row A cap e sz xs).sat w) : xs.length ≤ cap := by
  obtain ⟨⟨_, h2⟩, _⟩ := h
  rcases h2 with ⟨hv, hn⟩ | ⟨g, c, _, hv, _, _, hn, _⟩
  · omega
  · injection hv with _ _ hc
    omega

theorem CX.rowCap {P : Program} {w0 : World} {O : List Nat} {n : Nat} {D : List Deferred} {V : List (Nat × Value)} {L : List Ent} {r : Option Nat} {Q : Exit → Act → World → Prop} {c : Code} {α : Type} {enc : α → Array Value} (i : Nat) {A : Option Addr} {cap : Nat} {e : TypeId} {sz : Nat} {xs : List α} (hL : L[i]? = Option.some (.row A cap e sz (xs.map enc)))
    (h : xs.length ≤ cap → CX P r Q w0 O n D c V L) : CX P r Q w0 O n D c V L :=
  fun a w ha hw => h (by have := Ent.capLe (hw.ents _ (List.mem_of_getElem? hL)); rwa [List.length_map] at this) a w ha hw
/-! ### A shorter row -/
theorem Ent.takeRow {w : World} {A : Option Addr} {cap : Nat} {e : TypeId} {sz : Nat} {xs : List (Array Value)} (h : (Ent.row A cap e sz xs).sat w) (k : Nat) : (Ent.row A cap e sz (xs.take k)).sat w := by
  obtain ⟨⟨h1, h2⟩, h3⟩ := h
  have h3' : ∀ c ∈ xs.take k, c.size = sz ∧ ∀ u ∈ c.toList, u.oneCell' = true := fun c hc => h3 c (List.mem_of_mem_take hc)
  have hf : flat (xs.take k) = (flat xs).take ((xs.take k).length * sz) := by
    have e1 : flat xs = flat (xs.take k) ++ flat (xs.drop k) := by rw [← flat_append, List.take_append_drop]
    have e2 := flat_length (fun c hc => (h3' c hc).1)
    rw [e1, ← e2, List.take_left]
  have hle : (xs.take k).length ≤ xs.length := by simp; omega
  refine ⟨⟨flat_length (fun c hc => (h3' c hc).1), ?_⟩, h3'⟩
  rcases h2 with ⟨hv, h0⟩ | ⟨g, cp, cur, hv, hbg, hg, hnc, hcm, hcs, htake⟩
  · injection hv with hA hl hc
    left
    refine ⟨?_, by omega⟩
    rw [hA, hc, show (xs.take k).length = 0 from by omega]
  · injection hv with hA hl hc
    right
    refine ⟨g, cap, cur, by rw [hA], hbg, hg, by omega, by omega, by rw [hc]; exact hcs, ?_⟩
    rw [hf, ← htake, List.take_take, Nat.min_eq_left (Nat.mul_le_mul_right _ hle)]
section
variable {P : Program} {w0 : World} {O : List Nat} {n : Nat} {D : List Deferred} {o : Oper} {V : List (Nat × Value)} {L : List Ent} {T : List (Nat × Value) → List Ent → Prop}
theorem SL.takeRow {w : World} (h : SL w0 O w L) {i : Nat} {A : Option Addr} {cap : Nat} {e : TypeId} {sz : Nat} {xs : List (Array Value)} (hL : L[i]? = some (.row A cap e sz xs)) (k : Nat) : SL w0 O w (L.set i (.row A cap e sz (xs.take k))) :=
  h.setI hL rfl rfl rfl (Nat.le_refl _) (Ent.takeRow (h.ents _ (List.mem_of_getElem? hL)) k) row_blocks_nodup (fun b hb => .inl hb) (fun _ _ _ => rfl)
/-- append to the head of a slice of one's own. -/
theorem op_appendMT {α : Type} (enc : α → Array Value) {x y : Operand} {t e : TypeId} {d sz bytes i j m k : Nat} {z : Value} {A B : Option Addr} {cap c capy : Nat} {ey : TypeId} {xs : List α} (ys : List α) {yc : List (Array Value)}
    (ho : o.op = .call { callee := .builtin .append, args := #[x, y], argTypes := #[t, t] }) (hd : o.dst = some d) (hdn : Nat.blt d n = true) (ht : SlB P t e sz bytes z) (hx : ev V x = some (.slice A k cap)) (hL : L[i]? = some (.row A cap e sz (xs.map enc))) (hk : k ≤ xs.length) (hij : i ≠ j)
    (hy : ev V y = some (.slice B m c)) (hm : ys.length = m) (hLy : L[j]? = some (.row B capy ey sz yc)) (hyc : ys.map enc = yc) (h63 : k + ys.length ≤ 9223372036854775807) (hby : (k + ys.length) * bytes ≤ 140737488355328)
    (hT : ∀ A' cap', T ((d, .slice A' (xs.take k ++ ys).length cap') :: V) (L.set i (.row A' cap' e sz ((xs.take k ++ ys).map enc)))) : OpS P w0 O n D o V L T := by
  intro a w ha hw
  have hkl : (xs.take k).length = k := by simp; omega
  have hi : i < L.length := (List.getElem?_eq_some_iff.1 hL).1
  have hw' := hw.takeRow hL k
  rw [← List.map_take] at hw'
  refine op_appendM enc (i := i) (j := j) (xs := xs.take k) ys ho hd hdn ht (by rw [hkl]; exact hx) (by rw [List.getElem?_set_self hi]) hy hm (by rw [List.getElem?_set_ne hij]; exact hLy) hyc (by rw [hkl]; exact h63) (by rw [hkl]; exact hby) (fun A' cap' => ?_) a w ha hw'
  rw [List.set_set]
  exact hT A' cap'
end
end Go.Proofs.YtpcfgoadkfajfaaGreatDoor
namespace Go.Proofs.YtpcfgoadkfajfaaGreatDoor.Se
set_option linter.all false
open Go Go.RowKit
theorem ordered_perm (fs : List Fct) : (ordered fs).Perm (fs.filter Fct.valid) := Srt.isort_perm _ _
theorem ordered_valid (fs : List Fct) {p : Fct} (h : p ∈ ordered fs) : p.valid = true := (List.mem_filter.1 ((ordered_perm fs).mem_iff.1 h)).2
theorem ordered_length (fs : List Fct) : (ordered fs).length ≤ fs.length := by rw [(ordered_perm fs).length_eq]; exact List.length_filter_le _ _
end Go.Proofs.YtpcfgoadkfajfaaGreatDoor.Se
namespace Go.Proofs.YtpcfgoadkfajfaaGreatDoor.Se
set_option linter.all false
open Go Go.RowKit
set_option maxRecDepth 100000
theorem zero_34 : Zero Tryz.prog 34 (.slice none 0 0) := ⟨(Tryz.prog.info? 34).get!, by kernel_rfl, by kernel_rfl⟩
theorem ent_24 : ∀ args w, (callFunc 24 args).run Tryz.prog w = .ok (.enter 24 args) w := enters_of Tryz.func24 (by kernel_rfl) rfl
theorem ent_23 : ∀ args w, (callFunc 23 args).run Tryz.prog w = .ok (.enter 23 args) w := enters_of Tryz.func23 (by kernel_rfl) rfl
theorem ent_41 : ∀ args w, (callFunc 41 args).run Tryz.prog w = .ok (.enter 41 args) w := enters_of Tryz.func41 (by kernel_rfl) rfl
theorem zero_39 : Zero Tryz.prog 39 (.agg (#[.int .i64 0, .int .i64 0, .int .i64 0, .int .i64 0, .int .i64 0, .int .i64 0, .int .i64 0, .int .i64 0, .int .i64 0])) := ⟨(Tryz.prog.info? 39).get!, by kernel_rfl, by kernel_rfl⟩
theorem szt_39 : SzT Tryz.prog 39 9 := ⟨(Tryz.prog.info? 39).get!, by kernel_rfl, by kernel_rfl⟩
theorem one_34 : One Tryz.prog 34 := ⟨_, Tryz.underlying34, rfl⟩
theorem agg_39 : AggT Tryz.prog 39 9 := ⟨_, _, Tryz.underlying39, rfl, (by kernel_rfl : Tryz.prog.info? 39 = some (Tryz.prog.info? 39).get!), by kernel_rfl⟩
theorem slb_34 : SlB Tryz.prog 34 39 9 72 (.agg (#[.int .i64 0, .int .i64 0, .int .i64 0, .int .i64 0, .int .i64 0, .int .i64 0, .int .i64 0, .int .i64 0, .int .i64 0])) := ⟨Tryz.underlying34, ⟨(Tryz.prog.info? 39).get!, by kernel_rfl, by kernel_rfl, by kernel_rfl, by kernel_rfl⟩, by decide, by decide⟩
theorem szt_34 : SzT Tryz.prog 34 1 := ⟨(Tryz.prog.info? 34).get!, by kernel_rfl, by kernel_rfl⟩
set_option maxRecDepth 100000 in
theorem w_countedOf {w : World} (B : Option Addr) (n c : Nat) :
    Calls Tryz.prog 23 #[.slice B n c] w (fun e w' => ∃ g : Nat, True ∧ e = .returned (.func (.func 41) #[] #[.pointer (some ⟨g, 0, none⟩)]) ∧ SL w [] w' [.blk g (.cells #[.slice B n c] 63 (0, 0))]) := by
 refine calls_of_CX (O := []) (L := []) (args := [.slice B n c]) Tryz.func23 rfl (by simp [Tryz.ntmps23]) (SL.refl w) ?_
 refine CX.sub (V' := [(0, .slice B n c)]) ⟨rfl, trivial⟩ ?_
 refine CX.seq ?_
 refine CX.region ?_
 refine RX.cons rfl rfl (op_box rfl rfl rfl rfl fun g1 => ?_)
 refine RX.cons rfl rfl (op_w (yw_assign rfl rfl) rfl rfl ?_)
 refine RX.nil (XX.next (V' := [(1, _)]) ⟨rfl, trivial⟩ ?_)
 refine CX.seq ?_
 refine CX.region ?_
 refine RX.cons rfl rfl (op_w (yw_makeFunc rfl rfl rfl) rfl rfl ?_)
 refine RX.cons rfl rfl (op_w (yw_assign rfl rfl) rfl rfl ?_)
 refine RX.nil (XX.next (V' := [(2, .func (.func 41) #[] #[.pointer (some ⟨g1, 0, none⟩)])]) ⟨rfl, trivial⟩ ?_)
 refine CX.ret ?_
 exact ret_tmp rfl rfl fun w1 hw => ⟨_, trivial, rfl, hw⟩

set_option maxRecDepth 100000 in
theorem w_streams {w : World} {A : Option Addr} {cap : Nat} (fs : List Fct) (hr : Rd w A 18 (fs.map Fct.cells)) (hn : fs.length ≤ 1000) (hG : Lens w) :
    Calls Tryz.prog 10 #[.slice A fs.length cap] w (fun e w' => ∃ x : Option Addr × Nat, True ∧ e = .returned (.slice x.1 (streams fs).length x.2) ∧ SL w [] w' [.row x.1 x.2 39 9 (List.map Strm.cells (streams fs))]) := by
 refine calls_of_CXM (O := []) (L := []) (args := [.slice A fs.length cap]) Tryz.func10 rfl (by simp [Tryz.ntmps10]) (SL.refl w) ?_
 refine CX.sub (V' := [(0, .slice A fs.length cap)]) ⟨rfl, trivial⟩ ?_
 refine CX.seq ?_
 refine CX.region ?_
 refine RX.cons rfl rfl (op_alloc rfl rfl rfl zero_34 fun gR => ?_)
 refine RX.nil (XX.next (V' := [(0, _), (2, .pointer (some ⟨gR, 0, none⟩))]) ⟨rfl, rfl, trivial⟩ ?_)
 refine CX.seq ?_
 refine CX.seq ?_
 refine CX.region ?_
 refine RX.cons rfl rfl (op_w (yw_move rfl rfl) rfl rfl ?_)
 refine RX.cons rfl rfl (op_callE rfl rfl rfl rfl rfl ent_24 (fun w hw => w_ordered fs (hw.rd hr (by simp)) hn) (fun x25 _ => ?_))
 refine RX.cons rfl rfl (op_callE rfl rfl rfl rfl rfl ent_23 (fun w _ => w_countedOf x25.1 ((ordered fs).length) x25.2) (fun g24 _ => ?_))
 refine RX.nil (XX.next (V' := [(0, _), (2, .pointer (some ⟨gR, 0, none⟩)), (4, _), (5, _), (6, _)]) ⟨rfl, rfl, rfl, rfl, rfl, trivial⟩ ?_)
 refine CX.block ?_
 refine CX.rowNil 39 9 ?_
 refine CX.rangeFunc (σ := Option Addr × Nat) (LL := fun z => [.blk gR (.cells (#[.slice z.1 (counted Plr.start (ordered fs)).length z.2]) 34 (0, 0)), .row z.1 z.2 39 9 (List.map Strm.cells (counted Plr.start (ordered fs)))]) (post := fun _ => True) [.blk gR (.cells (#[.slice none 0 0]) 34 (0, 0)), .row none 0 39 9 (List.map Strm.cells ([]))] [.blk g24 (.cells (#[.slice x25.1 ((ordered fs).length) x25.2]) 63 (0, 0)), .row x25.1 x25.2 100 18 (List.map Fct.cells (ordered fs))] ((perm_pick 3 rfl).trans (List.Perm.cons _ ((perm_pick 0 rfl).trans (List.Perm.cons _ (List.Perm.refl _))))) rfl ent_41 ?_ ?_
 ·intro l Dk fn a w1 ha hw hs
  have hM : SL w [] w1 (MS gR l Dk (mkRec fn a.tmps _ _ _ Dk) none 0 [] ++ [.blk g24 (.cells (#[.slice x25.1 ((ordered fs).length) x25.2]) 63 (0, 0)), .row x25.1 x25.2 100 18 (List.map Fct.cells (ordered fs))]) := hw
  have hOL := hM.fresh (List.subset_append_left _ _) (World.block_lt_of_cell? w _ (hG 0 (by decide)))
  have hO0 := hM.fresh (b := 0) (List.subset_append_left _ _) (Nat.lt_of_le_of_lt (Nat.zero_le 1) (World.block_lt_of_cell? w _ (hG 0 (by decide))))
  refine (w_counted1 _ none 0 (ordered fs) (fun p hp => ordered_valid fs hp) (by have := ordered_length fs; omega) (hG.keep hw (by simp)) (hM.cellOf (i := 4) rfl rfl) (Ent.rd (hM.ents _ (List.mem_of_getElem? (i := 5) rfl))) hO0 hOL (hM.apart 0 rfl (by simp [Ent.blocks])) ?_ hs ?_).mono ?_
  ·exact hM.apartA hO0 1 rfl
  ·intro ys x A c w2 hlen hs2
   refine round_of_CX (n := Tryz.f10.ntmps) (V0 := [(7, .agg (Strm.cells x)), (2, .pointer (some ⟨gR, 0, none⟩))]) (σ := Nat) (τ := Option Addr × Nat) (M := [.blk gR (.cells (#[.slice A ys.length c]) 34 (0, 0)), .row A c 39 9 (List.map Strm.cells ys)]) (fun g3 => [(2, .pointer (some ⟨gR, 0, none⟩)), (3, .pointer (some ⟨g3, 0, none⟩))]) (fun g3 => [.blk gR (.cells (#[.slice A ys.length c]) 34 (0, 0)), .row A c 39 9 (List.map Strm.cells ys), .blk g3 (.cells (Strm.cells x) 39 (0, 0))]) (fun _ => True) (LL := fun z => [.blk gR (.cells (#[.slice z.1 (ys ++ [x]).length z.2]) 34 (0, 0)), .row z.1 z.2 39 9 (List.map Strm.cells (ys ++ [x]))]) rfl rfl rfl ?_ ?_ ?_ hs2
   ·exact (ha.sub (V' := [(2, _)]) ⟨rfl, trivial⟩).round 7 rfl _
   ·refine CX.region ?_
    refine RX.cons rfl rfl (op_alloc rfl rfl rfl zero_39 fun g3 => ?_)
    refine RX.cons rfl rfl (op_storeAll (i := 0) rfl rfl rfl rfl szt_39 rfl (plain_of rfl) rfl rfl ?_)
    refine RX.nil (XX.meetP ([]) g3 trivial ⟨rfl, rfl, trivial⟩ ((perm_pick 1 rfl).trans (List.Perm.cons _ ((perm_pick 1 rfl).trans (List.Perm.cons _ ((perm_pick 1 rfl).trans (List.Perm.cons _ ((perm_pick 1 rfl).trans (List.Perm.cons _ ((perm_pick 0 rfl).trans (List.Perm.cons _ (List.Perm.refl _))))))))))))
   ·intro g3 _
    refine CX.block ?_
    refine CX.region ?_
    refine RX.cons rfl rfl (op_yld (y_load (i := 2) rfl rfl one_34 rfl rfl) rfl rfl ?_)
    refine RX.cons rfl rfl (op_yld (y_loadA (i := 4) rfl rfl agg_39 rfl rfl) rfl rfl ?_)
    refine RX.cons rfl rfl (op_buildSlice rfl rfl rfl slb_34 rfl rfl (by intro v hv; simp only [List.mem_cons, List.not_mem_nil, or_false] at hv; subst hv; exact ⟨rfl, (plain_of rfl)⟩) (by decide) fun g1 => ?_)
    refine RX.cons rfl rfl (op_appendM Strm.cells (i := 4) (j := 0) (xs := ys) ([x]) rfl rfl rfl slb_34 rfl rfl rfl rfl rfl rfl (by simp; omega) (by simp; omega) fun A' c' => ?_)
    refine RX.cons rfl rfl (op_storeAll (i := 3) rfl rfl rfl rfl szt_34 rfl (plain_of rfl) rfl rfl ?_)
    refine RX.nil (XX.inBlock (V' := []) trivial ?_)
    refine XX.meetP ([.row (some ⟨g1, 0, none⟩) 1 39 9 (List.map Value.cells [.agg (Strm.cells x)]), .blk g3 (.cells (Strm.cells x) 39 (0, 0))]) (A', c') trivial trivial ((perm_pick 1 rfl).trans (List.Perm.cons _ ((perm_pick 1 rfl).trans (List.Perm.cons _ ((perm_pick 1 rfl).trans (List.Perm.cons _ ((perm_pick 1 rfl).trans (List.Perm.cons _ (List.Perm.refl _)))))))))
  ·exact fun e w' ⟨z, _, he, hz⟩ => ⟨z, trivial, ⟨_, he⟩, hz⟩
 ·intro z l Dk ob _
  refine XX.inBlock (V' := [(2, .pointer (some ⟨gR, 0, none⟩))]) ⟨rfl, trivial⟩ ?_
  refine XX.next (V' := [(2, .pointer (some ⟨gR, 0, none⟩))]) ⟨rfl, trivial⟩ ?_
  refine CX.seq ?_
  refine CX.region ?_
  refine RX.cons rfl rfl (op_yld (y_load (i := 2) rfl rfl one_34 rfl rfl) rfl rfl ?_)
  refine RX.cons rfl rfl (op_storeAll (i := 2) rfl rfl rfl rfl szt_34 rfl (plain_of rfl) rfl rfl ?_)
  refine RX.nil (XX.next (V' := [(2, .pointer (some ⟨gR, 0, none⟩))]) ⟨rfl, trivial⟩ ?_)
  refine CX.ret ?_
  exact ret_cellM (i := 2) (k := 1) rfl rfl one_34 rfl rfl fun w1 hw => ⟨(z.1, z.2), trivial, rfl, hw.pick ((perm_pick 3 rfl).trans (List.Perm.cons _ (List.Perm.refl _)))⟩

end Go.Proofs.YtpcfgoadkfajfaaGreatDoor.Se
namespace Go.Proofs.YtpcfgoadkfajfaaGreatDoor
set_option linter.all false
open Go Go.RowKit

section
variable {κ α : Type} [DecidableEq κ]
def kget (x : κ) : List (κ × α) → Option α
  | [] => none
  | p :: r => if x = p.1 then some p.2 else kget x r
def kset (x : κ) (v : α) : List (κ × α) → List (κ × α)
  | [] => [(x, v)]
  | p :: r => if x = p.1 then (x, v) :: r else p :: kset x v r
theorem kget_kset (x y : κ) (v : α) : ∀ l : List (κ × α), kget y (kset x v l) = if y = x then some v else kget y l
  | [] => rfl
  | p :: r => by
    unfold kset
    by_cases h : x = p.1
    · rw [if_pos h]
      show (if y = x then some v else kget y r) = _
      by_cases h2 : y = x
      · rw [if_pos h2, if_pos h2]
      · rw [if_neg h2, if_neg h2, kget, if_neg (by rw [← h]; exact h2)]
    · rw [if_neg h]
      show (if y = p.1 then some p.2 else kget y (kset x v r)) = _
      rw [kget_kset x y v r]
      by_cases h2 : y = x
      · subst h2; rw [if_neg h, if_pos rfl, if_pos rfl]
      · rw [if_neg h2, if_neg h2]; rfl
theorem kset_length (x : κ) (v : α) : ∀ l : List (κ × α), (kset x v l).length = if (kget x l).isSome then l.length else l.length + 1
  | [] => rfl
  | p :: r => by
    unfold kset kget
    by_cases h : x = p.1
    · simp [h]
    · simp only [if_neg h, List.length_cons, kset_length x v r]
      split <;> rfl
/-- Where a key lies. -/
def kfind (encV : α → Value) (x : κ) : List (κ × α) → Nat → Option (Nat × Value)
  | [], _ => none
  | p :: r, i => if x = p.1 then some (i, encV p.2) else kfind encV x r (i + 1)
theorem kfind_spec (encV : α → Value) (x : κ) : ∀ (l : List (κ × α)) (i : Nat), (kfind encV x l i = none ∧ kget x l = none) ∨ ∃ j v, kfind encV x l i = some (i + j, encV v) ∧ kget x l = some v ∧ l[j]? = some (x, v) ∧ ∀ u, kset x u l = l.modify j fun _ => (x, u)
  | [], i => .inl ⟨rfl, rfl⟩
  | p :: r, i => by
    unfold kfind kget
    by_cases h : x = p.1
    · refine .inr ⟨0, p.2, by rw [if_pos h]; rfl, by rw [if_pos h], by rw [h]; rfl, fun u => by unfold kset; rw [if_pos h]; rfl⟩
    · rw [if_neg h, if_neg h]
      rcases kfind_spec encV x r (i + 1) with h1 | ⟨j, v, h1, h2, h3, h4⟩
      · exact .inl h1
      · refine .inr ⟨j + 1, v, by rw [h1]; congr 2; omega, h2, by simpa using h3, fun u => by unfold kset; rw [if_neg h, h4]; rfl⟩
theorem kset_none {x : κ} {u : α} : ∀ {l : List (κ × α)}, kget x l = none → kset x u l = l ++ [(x, u)]
  | [], _ => rfl
  | p :: r, h => by
    unfold kget at h
    by_cases hx : x = p.1
    · rw [if_pos hx] at h; cases h
    · rw [if_neg hx] at h
      unfold kset; rw [if_neg hx, kset_none h]; rfl

/-- What the model asks of a key. -/
structure KeyOk (P : Program) (encK : κ → Value) (k : TypeId) : Prop where
  chk : ∀ (b : Bool) (x : κ) (w : World), (Instr.checkKey b 10000 k (encK x)).run P w = .ok () w
  eq : ∀ (x y : κ) (w : World), (Op.equal k (encK x) (encK y)).run P w = .ok (decide (x = y)) w
  now : ∃ d, P.underlying k = some d ∧ ∀ x y, Instr.sameNow d (encK x) (encK y) = none ∨ Instr.sameNow d (encK x) (encK y) = some (decide (x = y))
  stays : ∀ (x : κ) (w : World), (Instr.keyThatStays (encK x) (encK x)).run P w = .ok (encK x) w
variable {P : Program} {encK : κ → Value} {encV : α → Value} {k : TypeId}
/-- The entries of a map are those of a list. -/
def Ents (encK : κ → Value) (encV : α → Value) (l : List MapEntry) (kv : List (κ × α)) : Prop := l.map (fun e => (e.key, e.val)) = kv.map fun p => (encK p.1, encV p.2)
theorem findNow_or (d : TypeDesc) (hd : ∀ x y : κ, Instr.sameNow d (encK x) (encK y) = none ∨ Instr.sameNow d (encK x) (encK y) = some (decide (x = y))) (x : κ) : ∀ (l : List MapEntry) (kv : List (κ × α)) (i : Nat), Ents encK encV l kv →
    Instr.findNow d (encK x) l i = none ∨ Instr.findNow d (encK x) l i = some (kfind encV x kv i)
  | [], [], i, _ => .inr rfl
  | [], p :: r, i, h => by simp [Ents] at h
  | e :: l, [], i, h => by simp [Ents] at h
  | e :: l, p :: r, i, h => by
    simp only [Ents, List.map_cons, List.cons.injEq, Prod.mk.injEq] at h
    obtain ⟨⟨h1, h2⟩, h3⟩ := h
    unfold Instr.findNow kfind
    rw [h1]
    rcases hd x p.1 with h4 | h4
    · rw [h4]; exact .inl rfl
    · rw [h4]
      by_cases hx : x = p.1
      · rw [decide_eq_true hx, if_pos hx, h2]; exact .inr rfl
      · rw [decide_eq_false hx, if_neg hx]; exact findNow_or d hd x l r (i + 1) h3
theorem findAsking_is (hk : KeyOk P encK k) (x : κ) (w : World) : ∀ (l : List MapEntry) (kv : List (κ × α)) (i : Nat), Ents encK encV l kv → (Instr.findAsking k (encK x) l i).run P w = .ok (kfind encV x kv i) w
  | [], [], i, _ => rfl
  | [], p :: r, i, h => by simp [Ents] at h
  | e :: l, [], i, h => by simp [Ents] at h
  | e :: l, p :: r, i, h => by
    simp only [Ents, List.map_cons, List.cons.injEq, Prod.mk.injEq] at h
    obtain ⟨⟨h1, h2⟩, h3⟩ := h
    unfold Instr.findAsking kfind
    rw [h1]
    by_cases hx : x = p.1
    · simp [hk.eq, Result.andThen, hx, h2]
    · simp [hk.eq, Result.andThen, hx, findAsking_is hk x w l r (i + 1) h3]
theorem findKey_is (hk : KeyOk P encK k) (x : κ) (w : World) {l : List MapEntry} {kv : List (κ × α)} (h : Ents encK encV l kv) : (Instr.findKey k (encK x) l).run P w = .ok (kfind encV x kv 0) w := by
  obtain ⟨d, hd, hn⟩ := hk.now
  unfold Instr.findKey
  rcases findNow_or d hn x l kv 0 h with h1 | h1
  · simp [run_underlying hd, Result.andThen, h1, findAsking_is hk x w l kv 0 h]
  · simp [run_underlying hd, Result.andThen, h1]

/-- A map's type: its key's and its element's. -/
def KMapT (P : Program) (encK : κ → Value) (t : TypeId) (z : Value) : Prop := ∃ k e i, P.underlying t = some (.map k e) ∧ KeyOk P encK k ∧ P.info? e = some i ∧ i.zero = some z
/-- Each entry has a stamp of its own, of an earlier time. -/
def Births (l : List MapEntry) (clock : Nat) : Prop := (l.map (·.born)).Nodup ∧ ∀ e ∈ l, e.born < clock
theorem Births.push {l : List MapEntry} {clock : Nat} (h : Births l clock) {e : MapEntry} (he : e.born = clock) : Births (l ++ [e]) (clock + 1) := by
  refine ⟨?_, fun x hx => ?_⟩
  · rw [List.map_append, List.nodup_append]
    refine ⟨h.1, by simp, fun a ha b hb e2 => ?_⟩
    obtain ⟨x, hx, rfl⟩ := List.mem_map.1 ha
    have := h.2 x hx
    rw [List.map_singleton, List.mem_singleton] at hb
    omega
  · rcases List.mem_append.1 hx with hx | hx
    · have := h.2 x hx; omega
    · rw [List.mem_singleton.1 hx]; omega
theorem modify_map {α β : Type} {f : α → α} {g : α → β} (h : ∀ a, g (f a) = g a) (l : List α) (j : Nat) : (l.modify j f).map g = l.map g := by
  apply List.ext_getElem?
  intro m
  simp only [List.getElem?_map, List.getElem?_modify]
  split <;> cases l[m]? <;> simp [h]
theorem Births.modify {l : List MapEntry} {clock : Nat} (h : Births l clock) {f : MapEntry → MapEntry} (hf : ∀ e, (f e).born = e.born) (j : Nat) : Births (l.modify j f) clock := by
  have h1 : (l.modify j f).map (·.born) = l.map (·.born) := modify_map (g := fun e : MapEntry => e.born) hf l j
  refine ⟨by rw [h1]; exact h.1, fun e he => ?_⟩
  have : e.born ∈ (l.modify j f).map (·.born) := List.mem_map.2 ⟨e, he, rfl⟩
  rw [h1] at this
  obtain ⟨x, hx, e2⟩ := List.mem_map.1 this
  have := h.2 x hx
  have e3 : x.born = e.born := e2
  omega
def KAt (encK : κ → Value) (encV : α → Value) (w : World) (g : Nat) (kv : List (κ × α)) : Prop := ∃ es clock, w.heap[g]? = some (.map es clock) ∧ Ents encK encV es.toList kv ∧ Births es.toList clock
/-- A map as an entry of the heap. -/
def kmap (encK : κ → Value) (encV : α → Value) (g : Nat) (kv : List (κ × α)) : Ent :=
  .gen [g] (fun w => KAt encK encV w g kv) (fun w ⟨_, _, h, _⟩ b hb => by obtain rfl := List.mem_singleton.1 hb; exact (Array.getElem?_eq_some_iff.1 h).1) (fun w w' ⟨es, c, h, h2⟩ hk => ⟨es, c, by rw [hk g (List.mem_singleton.2 rfl)]; exact h, h2⟩)

theorem run_klookup {w : World} {t : TypeId} {z : Value} {g : Nat} {kv : List (κ × α)} (ht : KMapT P encK t z) (h : KAt encK encV w g kv) (x : κ) (b : Bool) :
    (Instr.lookup t (.map (some g)) (encK x) b).run P w = .ok (if b then .tuple #[((kget x kv).map encV).getD z, .bool (kget x kv).isSome] else ((kget x kv).map encV).getD z) w := by
  obtain ⟨kt, et, i, h1, h2, h3, h4⟩ := ht
  obtain ⟨es, clock, hg, hk, hbi⟩ := h
  have hz : (zeroValue et).run P w = .ok z w := by simp [zeroValue, typeInfo, h3, h4]
  rcases kfind_spec encV x kv 0 with ⟨h5, h6⟩ | ⟨j, v, h5, h6, _, _⟩
  · cases b <;> simp [Instr.lookup, run_underlying h1, MapKept.run_getObj_map hg, h2.chk, findKey_is h2 x w hk, h5, hz, Result.andThen, h6]
  · cases b <;> simp [Instr.lookup, run_underlying h1, MapKept.run_getObj_map hg, h2.chk, findKey_is h2 x w hk, h5, hz, Result.andThen, h6]
theorem run_kupdate {w : World} {t : TypeId} {z : Value} {g : Nat} {kv : List (κ × α)} (ht : KMapT P encK t z) (h : KAt encK encV w g kv) (x : κ) (u : α) :
    ∃ es' clock', (Instr.mapUpdate t (.map (some g)) (encK x) (encV u)).run P w = .ok () { w with heap := w.heap.setIfInBounds g (.map es' clock') } ∧ Ents encK encV es'.toList (kset x u kv) ∧ Births es'.toList clock' := by
  obtain ⟨kt, et, i, h1, h2, h3, h4⟩ := ht
  obtain ⟨es, clock, hg, hk, hbi⟩ := h
  rcases kfind_spec encV x kv 0 with ⟨h5, h6⟩ | ⟨j, v, h5, h6, h7, h8⟩
  · refine ⟨es.push { key := encK x, val := encV u, born := clock }, clock + 1, ?_, ?_, by rw [Array.toList_push]; exact hbi.push rfl⟩
    · simp [Instr.mapUpdate, run_underlying h1, MapKept.run_getObj_map hg, h2.chk, findKey_is h2 x w hk, h5, MapKept.run_setObj_map _ hg, Result.andThen]
    · rw [Ents, Array.toList_push, List.map_append, hk, kset_none h6, List.map_append]; rfl
  · have hj : ∃ e, es[j]? = some e ∧ e.key = encK x := by
      have h9 := congrArg (·[j]?) hk
      simp only [List.getElem?_map, h7, Option.map_some] at h9
      cases he : es.toList[j]? with
      | none => rw [he] at h9; cases h9
      | some e =>
        rw [he, Option.map_some, Option.some.injEq, Prod.mk.injEq] at h9
        exact ⟨e, by simpa using he, h9.1⟩
    obtain ⟨e, he, hek⟩ := hj
    refine ⟨es.modify j fun e => { e with key := encK x, val := encV u }, clock, ?_, ?_, by rw [Array.toList_modify]; exact hbi.modify (f := fun e => { e with key := encK x, val := encV u }) (fun _ => rfl) j⟩
    · simp only [Nat.zero_add] at h5
      simp [Instr.mapUpdate, run_underlying h1, MapKept.run_getObj_map hg, h2.chk, findKey_is h2 x w hk, h5, he, hek, h2.stays, MapKept.run_setObj_map _ hg, Result.andThen]
    · rw [Ents, Array.toList_modify, h8]
      apply List.ext_getElem?
      intro m
      have h9 := congrArg (·[m]?) hk
      simp only [List.getElem?_map] at h9
      simp only [List.getElem?_map, List.getElem?_modify]
      by_cases hm : j = m
      · subst hm
        simp only [if_pos]
        cases hq : es.toList[j]? <;> cases hq2 : kv[j]? <;> simp_all
      · simp only [if_neg hm, Option.map_id', id_eq]
        simpa using h9
end
end Go.Proofs.YtpcfgoadkfajfaaGreatDoor
namespace Go.Proofs.YtpcfgoadkfajfaaGreatDoor
set_option linter.all false
open Go Go.RowKit

section
variable {P : Program} {w0 : World} {O : List Nat} {n : Nat} {D : List Deferred} {o : Oper} {V : List (Nat × Value)} {L : List Ent} {T : List (Nat × Value) → List Ent → Prop} {κ α : Type} [DecidableEq κ] {encK : κ → Value} {encV : α → Value}

theorem y_klookup {t : TypeId} {m x : Operand} {g i : Nat} {kv : List (κ × α)} {k : κ} {z : Value} (ho : o.op = .lookup t m x false) (hm : ev V m = some (.map (some g))) (hx : ev V x = some (encK k)) (ht : KMapT P encK t z) (hL : L[i]? = some (kmap encK encV g kv)) :
    Yld P w0 O n D o V L (((kget k kv).map encV).getD z) := by
  intro a w ha hw
  have h := run_klookup (P := P) ht (hw.ents _ (List.mem_of_getElem? hL)) k false
  simp [execOp, ho, ha.eval hm, ha.eval hx, h]
theorem y_klookupOk {t : TypeId} {m x : Operand} {g i : Nat} {kv : List (κ × α)} {k : κ} {z : Value} (ho : o.op = .lookup t m x true) (hm : ev V m = some (.map (some g))) (hx : ev V x = some (encK k)) (ht : KMapT P encK t z) (hL : L[i]? = some (kmap encK encV g kv)) :
    Yld P w0 O n D o V L (.tuple #[((kget k kv).map encV).getD z, .bool (kget k kv).isSome]) := by
  intro a w ha hw
  have h := run_klookup (P := P) ht (hw.ents _ (List.mem_of_getElem? hL)) k true
  simp [execOp, ho, ha.eval hm, ha.eval hx, h]
theorem setK_SL {w : World} (hw : SL w0 O w L) {i g : Nat} {kv kv' : List (κ × α)} (hL : L[i]? = some (kmap encK encV g kv)) {es' : Array MapEntry} {clock' : Nat} (h1 : Ents encK encV es'.toList kv' ∧ Births es'.toList clock') :
    SL w0 O { w with heap := w.heap.setIfInBounds g (.map es' clock') } (L.set i (kmap encK encV g kv')) := by
  obtain ⟨es, clock, hg, _⟩ : KAt encK encV w g kv := hw.ents _ (List.mem_of_getElem? hL)
  exact hw.setI hL rfl rfl rfl (by simp) (show KAt encK encV _ g kv' from ⟨es', clock', (MapKept.heap_set hg).1, h1⟩) (by simp [Ent.blocks, kmap]) (fun b hb => .inl (by simpa [Ent.blocks, kmap] using hb)) (fun k _ hkb => (MapKept.heap_set hg).2 k (by simpa [Ent.blocks, kmap] using hkb))
theorem op_kupdate {t : TypeId} {m x y : Operand} {g i : Nat} {kv : List (κ × α)} {k : κ} {u : α} {z : Value} (ho : o.op = .mapUpdate t m x y ∨ o.op = .insert t m x y) (hd : o.dst = none) (hm : ev V m = some (.map (some g))) (hx : ev V x = some (encK k)) (hy : ev V y = some (encV u))
    (ht : KMapT P encK t z) (hL : L[i]? = some (kmap encK encV g kv)) (hT : T V (L.set i (kmap encK encV g (kset k u kv)))) : OpS P w0 O n D o V L T := by
  intro a w ha hw
  obtain ⟨es', clock', h1, h2⟩ := run_kupdate (P := P) ht (hw.ents _ (List.mem_of_getElem? hL)) k u
  have hr : (execOp a.eval o).run P w = .ok .skip { w with heap := w.heap.setIfInBounds g (.map es' clock') } := by
    rcases ho with ho | ho <;> simp [execOp, ho, ha.eval hm, ha.eval hx, ha.eval hy, h1]
  unfold Does
  rw [hr, hd]
  exact ⟨_, _, hT, ha, setK_SL hw hL h2⟩
theorem op_kmake {t : TypeId} {d : Nat} (encK : κ → Value) (encV : α → Value) (ho : o.op = .makeMap t none) (hd : o.dst = some d) (hdn : Nat.blt d n = true)
    (hT : ∀ g, T ((d, .map (some g)) :: V) (kmap encK encV g [] :: L)) : OpS P w0 O n D o V L T := by
  intro a w ha hw
  have hr : (execOp a.eval o).run P w = .ok (.value (.map (some w.heap.size))) (w.alloc (.map #[] 0)) := by
    simp [execOp, ho, Instr.makeMap]
  have h1 := hw.alloc (.map #[] 0)
  have h2 : SL w0 O (w.alloc (.map #[] 0)) (kmap encK encV w.heap.size [] :: L) := by
    refine ⟨h1.os, h1.tape, h1.output, h1.size, h1.same, ?_, h1.nodup, ?_⟩
    · intro p hp
      rcases List.mem_cons.1 hp with rfl | hp
      · exact ⟨#[], 0, h1.ents _ List.mem_cons_self, rfl, by simp [Births]⟩
      · exact h1.ents p (List.mem_cons_of_mem _ hp)
    · intro p hp
      rcases List.mem_cons.1 hp with rfl | hp
      · exact h1.own (.blk w.heap.size (.map #[] 0)) List.mem_cons_self
      · exact h1.own p (List.mem_cons_of_mem _ hp)
  unfold Does
  rw [hr, hd]
  exact ⟨_, _, hT _, ha.put hdn _, h2⟩
theorem ents_len {l : List MapEntry} {kv : List (κ × α)} (h : Ents encK encV l kv) : l.length = kv.length := by
  have := congrArg List.length h; simpa using this
theorem y_klen {t k e : TypeId} {x : Operand} {g i : Nat} {kv : List (κ × α)} (ho : o.op = .call { callee := .builtin .len, args := #[x], argTypes := #[t] }) (ht : P.underlying t = some (.map k e)) (hx : ev V x = some (.map (some g))) (hL : L[i]? = some (kmap encK encV g kv)) :
    Yld P w0 O n D o V L (.int .i64 ((kv.length : Nat) : Int)) := by
  intro a w ha hw
  obtain ⟨es, clock, hg, hk, _⟩ : KAt encK encV w g kv := hw.ents _ (List.mem_of_getElem? hL)
  have h1 := ents_len hk
  have h2 : es.size = kv.length := by simpa using h1
  simp [execOp, ho, resolve, invoke, builtin, ha.eval hx, Builtin.len_, run_underlying ht, MapKept.run_getObj_map hg, Result.andThen, goInt, h2]
end

section
variable {P : Program} {k : TypeId}
theorem keyOk_int (hk : P.underlying k = some (.int .i64)) : KeyOk P (fun x : Int => Value.int .i64 x) k where
  chk := fun b x w => MapKept.run_checkKey hk (isKey_int x) b 9999
  eq := fun x y w => by
    have := run_equalIn_int w 9999 k .i64 .i64 x y hk
    rw [show (x == y) = decide (x = y) from rfl] at this
    exact this
  now := ⟨_, hk, fun x y => .inr (by simp [Instr.sameNow]; rfl)⟩
  stays := fun x w => MapKept.run_keyThatStays (isKey_int x)
theorem chk2 {f0 f1 : Field} (ht : P.underlying k = some (.struct #[f0, f1])) (n0 : f0.name ≠ "_") (n1 : f1.name ≠ "_") {d0 d1 : TypeDesc} (h0 : P.underlying f0.type = some d0) (h1 : P.underlying f1.type = some d1) {v0 v1 : Value} (k0 : MapKept.IsKey d0 v0) (k1 : MapKept.IsKey d1 v1) (o0 : One P f0.type) (o1 : One P f1.type)
    {xs : Array Value} (x0 : xs[f0.offset]? = some v0) (x1 : xs[f1.offset]? = some v1) (b : Bool) (w : World) : (Instr.checkKey b 10000 k (.agg xs)).run P w = .ok () w := by
  show (Instr.checkKey b (9998 + 1 + 1) k (.agg xs)).run P w = _
  rw [Instr.checkKey]
  simp [run_underlying ht, Result.andThen, n0, n1, run_part_one o0 x0, run_part_one o1 x1, MapKept.run_checkKey h0 k0, MapKept.run_checkKey h1 k1]
theorem stays2 {v0 v1 : Value} {d0 d1 : TypeDesc} (k0 : MapKept.IsKey d0 v0) (k1 : MapKept.IsKey d1 v1) (w : World) : (Instr.keyThatStays (.agg #[v0, v1]) (.agg #[v0, v1])).run P w = .ok (.agg #[v0, v1]) w := by
  have hs : Instr.sameBits 10000 (.agg #[v0, v1]) (.agg #[v0, v1]) = true := by
    show Instr.sameBits (9999 + 1) _ _ = true
    simp [Instr.sameBits, MapKept.sameBits_self k0, MapKept.sameBits_self k1]
  simp [Instr.keyThatStays, hs]
theorem eqF_bool {w : World} {d : Nat} {xs ys : Array Value} {f : Field} {fs : List Field} {a b : Bool} {r : Bool} (hn : (f.name == "_") = false) (ht : P.underlying f.type = some .bool) (hx : xs[f.offset]? = some (.bool a)) (hy : ys[f.offset]? = some (.bool b))
    (h : (Op.eqFields (d + 1) xs ys fs).run P w = .ok r w) : (Op.eqFields (d + 1) xs ys (f :: fs)).run P w = .ok (a == b && r) w := by
  have hn' : f.name ≠ "_" := by simpa using hn
  have h1 : One P f.type := ⟨_, ht, rfl⟩
  simp only [Op.eqFields, hn', ne_eq, not_false_eq_true, if_true, Sem.run_bind, run_part_one h1 hx, run_part_one h1 hy, Result.andThen_ok, run_equalIn_bool' w d f.type a b ht]
  cases a == b <;> simp [h]
/-- Two integers as a key. -/
def key2 (x : Int × Int) : Value := .agg #[.int .i64 x.1, .int .i64 x.2]
theorem keyOk_two {f0 f1 : Field} (ht : P.underlying k = some (.struct #[f0, f1])) (hp : P.stoodInHeld k = false) (n0 : (f0.name == "_") = false) (n1 : (f1.name == "_") = false) (h0 : P.underlying f0.type = some (.int .i64)) (h1 : P.underlying f1.type = some (.int .i64)) (z0 : f0.offset = 0) (z1 : f1.offset = 1) : KeyOk P key2 k where
  chk := fun b x w => chk2 ht (by simpa using n0) (by simpa using n1) h0 h1 (isKey_int x.1) (isKey_int x.2) ⟨_, h0, rfl⟩ ⟨_, h1, rfl⟩ (by rw [z0]; rfl) (by rw [z1]; rfl) b w
  eq := fun x y w => by
    have := equal_of (d := 9999) ht hp (eqF_int (d := 9998) (xs := #[.int .i64 x.1, .int .i64 x.2]) (ys := #[.int .i64 y.1, .int .i64 y.2]) (w := w) n0 h0 (by rw [z0]; rfl) (by rw [z0]; rfl) (eqF_int n1 h1 (by rw [z1]; rfl) (by rw [z1]; rfl) eqF_nil))
    rw [show (x.1 == y.1 && (x.2 == y.2 && true)) = decide (x = y) from by rw [Bool.and_true, Bool.eq_iff_iff]; simp [Prod.ext_iff]] at this
    exact this
  now := ⟨_, ht, fun x y => .inl rfl⟩
  stays := fun x w => stays2 (isKey_int x.1) (isKey_int x.2) w
/-- A bool and an integer as a key. -/
def keyB (x : Bool × Int) : Value := .agg #[.bool x.1, .int .i64 x.2]
theorem isKey_bool (b : Bool) : MapKept.IsKey .bool (.bool b) := by simp [MapKept.IsKey]
theorem keyOk_boolInt {f0 f1 : Field} (ht : P.underlying k = some (.struct #[f0, f1])) (hp : P.stoodInHeld k = false) (n0 : (f0.name == "_") = false) (n1 : (f1.name == "_") = false) (h0 : P.underlying f0.type = some .bool) (h1 : P.underlying f1.type = some (.int .i64)) (z0 : f0.offset = 0) (z1 : f1.offset = 1) : KeyOk P keyB k where
  chk := fun b x w => chk2 ht (by simpa using n0) (by simpa using n1) h0 h1 (isKey_bool x.1) (isKey_int x.2) ⟨_, h0, rfl⟩ ⟨_, h1, rfl⟩ (by rw [z0]; rfl) (by rw [z1]; rfl) b w
  eq := fun x y w => by
    have := equal_of (d := 9999) ht hp (eqF_bool (d := 9998) (xs := #[.bool x.1, .int .i64 x.2]) (ys := #[.bool y.1, .int .i64 y.2]) (w := w) n0 h0 (by rw [z0]; rfl) (by rw [z0]; rfl) (eqF_int n1 h1 (by rw [z1]; rfl) (by rw [z1]; rfl) eqF_nil))
    rw [show (x.1 == y.1 && (x.2 == y.2 && true)) = decide (x = y) from by rw [Bool.and_true, Bool.eq_iff_iff]; simp [Prod.ext_iff]] at this
    exact this
  now := ⟨_, ht, fun x y => .inl rfl⟩
  stays := fun x w => stays2 (isKey_bool x.1) (isKey_int x.2) w
end
end Go.Proofs.YtpcfgoadkfajfaaGreatDoor
namespace Go.Proofs.YtpcfgoadkfajfaaGreatDoor
set_option linter.all false
/-- An account (false), or a device (true). -/
abbrev Nd := Bool × Int
/-- R is what the parents p represent; the rank falls from a node to its parent. -/
structure Forest (p : List (Nd × Nd)) (R : Nd → Nd) (rk : Nd → Nat) : Prop where
  dec : ∀ x y, kget x p = some y → rk y < rk x ∧ R x = R y
  top : ∀ x, kget x p = none → R x = x
  fix : ∀ x, kget (R x) p = none
variable {p : List (Nd × Nd)} {R : Nd → Nd} {rk : Nd → Nat}
theorem Forest.nil : Forest [] id fun _ => 0 := ⟨fun _ _ h => (by simp [kget] at h), fun _ _ => rfl, fun _ => rfl⟩
theorem Forest.idem (h : Forest p R rk) (x : Nd) : R (R x) = R x := h.top _ (h.fix x)
theorem Forest.le (h : Forest p R rk) : ∀ (n : Nat) (x : Nd), rk x ≤ n → rk (R x) ≤ rk x
  | n, x, hn => by
    cases hx : kget x p with
    | none => rw [h.top x hx]; exact Nat.le_refl _
    | some y =>
      obtain ⟨h1, h2⟩ := h.dec x y hx
      cases n with
      | zero => omega
      | succ n => rw [h2]; have := Forest.le h n y (by omega); omega
theorem Forest.lt (h : Forest p R rk) {x y : Nd} (hx : kget x p = some y) : rk (R x) < rk x := by
  obtain ⟨h1, h2⟩ := h.dec x y hx
  rw [h2]; have := h.le _ y (Nat.le_refl _); omega
/-- A path that is shortened. -/
theorem Forest.short (h : Forest p R rk) {x : Nd} (hlt : rk (R x) < rk x) : Forest (kset x (R x) p) R rk := by
  refine ⟨fun y z hy => ?_, fun y hy => ?_, fun z => ?_⟩
  · rw [kget_kset] at hy
    by_cases hyx : y = x
    · rw [if_pos hyx] at hy
      obtain rfl := Option.some.inj hy
      subst hyx
      exact ⟨hlt, (h.idem _).symm⟩
    · rw [if_neg hyx] at hy; exact h.dec y z hy
  · rw [kget_kset] at hy
    by_cases hyx : y = x
    · rw [if_pos hyx] at hy; cases hy
    · rw [if_neg hyx] at hy; exact h.top y hy
  · rw [kget_kset, if_neg, h.fix z]
    intro e
    have h1 : R x = x := by rw [← e, h.idem z]
    rw [h1] at hlt; omega
/-- What two joined nodes make of the representatives. -/
def joinR (R : Nd → Nd) (a b : Nd) : Nd → Nd := fun y => if R y = R a then R b else R y
theorem joinR_same {a b : Nd} (h : R a = R b) : joinR R a b = R := by
  funext y; unfold joinR; split
  · rename_i h1; rw [h1, h]
  · rfl
theorem Forest.join (h : Forest p R rk) {a b : Nd} (hne : R a ≠ R b) : Forest (kset (R a) (R b) p) (joinR R a b) (fun y => if R y = R a then rk y + rk (R b) + 1 else rk y) := by
  have ha := h.idem a
  have hb := h.idem b
  refine ⟨fun y z hy => ?_, fun y hy => ?_, fun z => ?_⟩
  · rw [kget_kset] at hy
    by_cases hya : y = R a
    · rw [if_pos hya] at hy
      obtain rfl := Option.some.inj hy
      subst hya
      refine ⟨?_, ?_⟩
      · show (if R (R b) = R a then _ else rk (R b)) < (if R (R a) = R a then _ else _)
        rw [hb, if_neg (fun e => hne e.symm), if_pos ha]; omega
      · unfold joinR; rw [if_pos ha, hb, if_neg (fun e => hne e.symm)]
    · rw [if_neg hya] at hy
      obtain ⟨h1, h2⟩ := h.dec y z hy
      refine ⟨?_, ?_⟩
      · show (if R z = R a then _ else _) < (if R y = R a then _ else _)
        rw [h2]; split <;> omega
      · unfold joinR; rw [h2]
  · rw [kget_kset] at hy
    by_cases hya : y = R a
    · rw [if_pos hya] at hy; cases hy
    · rw [if_neg hya] at hy
      unfold joinR
      rw [h.top y hy, if_neg hya]
  · rw [kget_kset]
    unfold joinR
    by_cases hz : R z = R a
    · rw [if_pos hz, if_neg (fun e => hne e.symm)]; exact h.fix b
    · rw [if_neg hz, if_neg hz]; exact h.fix z
/-- What the edges of a graph represent. -/
def rep (E : List (Int × Int)) : Nd → Nd := E.foldl (fun R e => joinR R (false, e.1) (true, e.2)) id
theorem rep_snoc (E : List (Int × Int)) (e : Int × Int) : rep (E ++ [e]) = joinR (rep E) (false, e.1) (true, e.2) := by simp [rep]
/-- Joined by the edges: the least relation that joins each edge's ends. -/
inductive Conn (E : List (Int × Int)) : Nd → Nd → Prop where
  | refl (x : Nd) : Conn E x x
  | edge {e : Int × Int} (h : e ∈ E) : Conn E (false, e.1) (true, e.2)
  | symm {x y : Nd} (h : Conn E x y) : Conn E y x
  | trans {x y z : Nd} (h : Conn E x y) (h2 : Conn E y z) : Conn E x z
theorem Conn.mono {E F : List (Int × Int)} (hs : ∀ e ∈ E, e ∈ F) {x y : Nd} (h : Conn E x y) : Conn F x y := by
  induction h with
  | refl x => exact .refl x
  | edge h => exact .edge (hs _ h)
  | symm _ ih => exact ih.symm
  | trans _ _ i1 i2 => exact i1.trans i2
theorem rep_conn : ∀ (n : Nat) (E : List (Int × Int)), E.length = n → (∀ x, Conn E x (rep E x)) ∧ (∀ x y, Conn E x y → rep E x = rep E y) := by
  intro n
  induction n with
  | zero =>
    intro E hE
    obtain rfl := List.eq_nil_of_length_eq_zero hE
    refine ⟨fun x => .refl x, fun x y h => ?_⟩
    have : ∀ x y, Conn [] x y → x = y := fun x y h => by
      induction h with
      | refl => rfl
      | edge h => cases h
      | symm _ ih => exact ih.symm
      | trans _ _ i1 i2 => exact i1.trans i2
    rw [this x y h]
  | succ n ih =>
    intro E hE
    obtain ⟨F, e, rfl⟩ : ∃ F e, E = F ++ [e] := ⟨E.dropLast, E.getLast (by intro h; simp [h] at hE), (List.dropLast_concat_getLast _).symm⟩
    obtain ⟨h1, h2⟩ := ih F (by simpa using hE)
    have hm : ∀ {x y}, Conn F x y → Conn (F ++ [e]) x y := fun h => h.mono fun a ha => List.mem_append_left _ ha
    have he : Conn (F ++ [e]) (false, e.1) (true, e.2) := .edge (List.mem_append_right _ (List.mem_singleton.2 rfl))
    rw [rep_snoc]
    refine ⟨fun x => ?_, fun x y h => ?_⟩
    · unfold joinR
      split
      · rename_i hx
        have a1 : Conn (F ++ [e]) x (rep F (false, e.1)) := by rw [← hx]; exact hm (h1 x)
        exact (a1.trans ((hm (h1 _)).symm)).trans (he.trans (hm (h1 _)))
      · exact hm (h1 x)
    · induction h with
      | refl => rfl
      | @edge d hd =>
        rcases List.mem_append.1 hd with hd | hd
        · have := h2 _ _ (.edge hd)
          unfold joinR; rw [this]
        · obtain rfl := List.mem_singleton.1 hd
          unfold joinR
          rw [if_pos rfl]
          split <;> rfl
      | symm _ ih => exact ih.symm
      | trans _ _ i1 i2 => exact i1.trans i2
theorem rep_eq {E : List (Int × Int)} {x y : Nd} : rep E x = rep E y ↔ Conn E x y := by
  obtain ⟨h1, h2⟩ := rep_conn _ E rfl
  refine ⟨fun h => ?_, h2 x y⟩
  have := h1 y
  rw [← h] at this
  exact (h1 x).trans this.symm
end Go.Proofs.YtpcfgoadkfajfaaGreatDoor
namespace Go.Proofs.YtpcfgoadkfajfaaGreatDoor
set_option linter.all false
open Go Go.RowKit
section
variable {P : Program} {w0 : World} {O : List Nat} {n : Nat} {D : List Deferred} {o : Oper} {V : List (Nat × Value)} {L : List Ent}
def bytesOf (ns : List Int) : ByteArray := ns.foldl (fun r n => r.push (UInt8.ofNat n.toNat)) ByteArray.empty
theorem y_bytesStr {s d e : TypeId} {x : Operand} {A : Option Addr} {cap i len c : Nat} {ey : TypeId} {xs : List (Array Value)} (ns : List Int) (ho : o.op = .convert s d x) (hx : ev V x = some (.slice A len c)) (hs : P.underlying s = some (.slice e)) (he : P.underlying e = some (.int .u8)) (hd : P.underlying d = some .string)
    (hL : L[i]? = some (.row A cap ey 1 xs)) (hxs : xs = ns.map fun n => #[.int .u8 n]) (hlen : ns.length = len) (hpos : 0 < len) : Yld P w0 O n D o V L (.string (bytesOf ns)) := by
  intro a w ha hw
  subst hxs
  subst hlen
  have hr := Ent.rd (hw.ents _ (List.mem_of_getElem? hL))
  obtain ⟨b, j, rfl⟩ := hr.some (k := 0) (by simpa using hpos)
  have hl := run_loadCells_list (P := P) (w := w) ⟨b, j, none⟩ (ns.map (Value.int .u8)) (fun k v hv => by
    rw [List.getElem?_map] at hv
    cases hk : ns[k]? with
    | none => rw [hk] at hv; simp at hv
    | some m =>
      rw [hk] at hv
      simp at hv
      subst hv
      obtain ⟨_, _, _, _, hc⟩ := hr.at_ k #[.int .u8 m] (by rw [List.getElem?_map, hk]; rfl)
      have := hc 0 (by decide)
      rw [add_none]
      simpa [ab, ao] using this)
  rw [List.length_map] at hl
  have h2 := run_bytesToString (P := P) w ⟨b, j, none⟩ ns.length c ns hl
  have h3 := run_convert_bytes_string (P := P) w s d e (some ⟨b, j, none⟩) ns.length c hs he hd
  simp only [execOp, ho, ha.eval hx, Sem.run_bind, h3, h2, Result.andThen_ok, Sem.run_pure]
  rfl
end
end Go.Proofs.YtpcfgoadkfajfaaGreatDoor
