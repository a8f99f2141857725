/- Walks, printed by a program. -/
import Derived.Test.YtmndhiaaolfepaaDoorWalkI
namespace Go.Proofs.YtmndhiaaolfepaaDoor
set_option linter.all false
open Go Go.RowKit
set_option maxRecDepth 100000
theorem ent_50 : ∀ args w, (callFunc 50 args).run Tryd.prog w = .ok (.enter 50 args) w := enters_of Tryd.func50 (by kernel_rfl) rfl
theorem ent_44 : ∀ args w, (callFunc 44 args).run Tryd.prog w = .ok (.enter 44 args) w := enters_of Tryd.func44 (by kernel_rfl) rfl
set_option maxRecDepth 100000 in
theorem w_stable {w : World} {A : Option Addr} {cap len : Nat} (xs : List Fct) (hlen : xs.length = len) (hA : 0 < len → ∃ b j, A = some ⟨b, j, none⟩) (hn : len ≤ 1000000)(hs : SL w (rowO A) w [PRow A cap xs]) :
    Calls Tryd.prog 44 #[.slice A len cap, .int .i64 ((len : Nat) : Int), .func (.func 35) #[] #[]] w (fun e w' => e = .returned (.tuple #[]) ∧ SL w (rowO A) w' [PRow A cap (Srt.isort before xs)]) := by
  refine calls_of_CX (O := (rowO A)) (L := [PRow A cap xs]) (args := [.slice A len cap, .int .i64 ((len : Nat) : Int), .func (.func 35) #[] #[]]) Tryd.func44 rfl (by simp [Tryd.ntmps44]) hs ?_
  refine CX.sub (V' := [(0, .slice A len cap), (1, .int .i64 ((len : Nat) : Int)), (2, .func (.func 35) #[] #[])]) ⟨rfl, rfl, rfl, trivial⟩ ?_
  refine CX.seq ?_
  refine CX.region ?_
  refine RX.cons rfl rfl (op_w (yw_assign rfl rfl) rfl rfl ?_)
  refine RX.nil (XX.next (V' := [(0, .slice A len cap), (1, .int .i64 ((len : Nat) : Int)), (2, .func (.func 35) #[] #[]), (6, .int .i64 20)]) ⟨rfl, rfl, rfl, rfl, trivial⟩ ?_)
  refine CX.seq ?_
  refine CX.region ?_
  refine RX.cons rfl rfl (op_w (yw_move rfl rfl) rfl rfl ?_)
  refine RX.cons rfl rfl (op_w (yw_assign rfl rfl) rfl rfl ?_)
  refine RX.cons rfl rfl (op_w (yw_assign rfl rfl) rfl rfl ?_)
  refine RX.nil (XX.next (V' := [(0, .slice A len cap), (1, .int .i64 ((len : Nat) : Int)), (2, .func (.func 35) #[] #[]), (6, .int .i64 20), (7, .int .i64 0), (8, .int .i64 20)]) ⟨rfl, rfl, rfl, rfl, rfl, rfl, trivial⟩ ?_)
  refine CX.seq ?_
  refine CX.block ?_
  refine CX.loop (σ := Nat) (fun c => [(0, .slice A len cap), (1, .int .i64 ((len : Nat) : Int)), (2, .func (.func 35) #[] #[]), (6, .int .i64 20), (7, .int .i64 ((20 * c : Nat) : Int)), (8, .int .i64 ((20 * c + 20 : Nat) : Int))]) (fun c => [PRow A cap (Srt.cs before 20 c xs)]) (fun c => 20 * c ≤ len) (fun c => len - 20 * c) 0 (by omega) ⟨rfl, rfl, rfl, rfl, rfl, rfl, trivial⟩ rfl (fun c hI => ?_)
  refine CX.seq ?_
  refine CX.seq ?_
  refine CX.region ?_
  refine RX.cons rfl rfl (op_w (yw_move rfl rfl) rfl rfl ?_)
  refine RX.cons rfl rfl (op_w (yw_move rfl rfl) rfl rfl ?_)
  refine RX.cons rfl rfl (op_w (yw_leq rfl rfl rfl) rfl rfl ?_)
  refine RX.nil (XX.next (V' := [(0, .slice A len cap), (1, .int .i64 ((len : Nat) : Int)), (2, .func (.func 35) #[] #[]), (6, .int .i64 20), (7, .int .i64 ((20 * c : Nat) : Int)), (8, .int .i64 ((20 * c + 20 : Nat) : Int)), (13, .bool (decide (((20 * c + 20 : Nat) : Int) ≤ ((len : Nat) : Int))))]) ⟨rfl, rfl, rfl, rfl, rfl, rfl, rfl, trivial⟩ ?_)
  refine CX.condD (p := ((20 * c + 20 : Nat) : Int) ≤ ((len : Nat) : Int)) rfl (fun c13 => ?_) (fun c13 => ?_)
  · obtain ⟨P, s, r, hP, hPl, hsl, hP2⟩ := Srt.cs_ins (lt := before) (k := 20) (c := c) (a := 20 * c) hlen rfl (by omega)
    refine CX.skip (XX.next (V' := [(0, .slice A len cap), (1, .int .i64 ((len : Nat) : Int)), (2, .func (.func 35) #[] #[]), (6, .int .i64 20), (7, .int .i64 ((20 * c : Nat) : Int)), (8, .int .i64 ((20 * c + 20 : Nat) : Int))]) ⟨rfl, rfl, rfl, rfl, rfl, rfl, trivial⟩ ?_)
    refine CX.block ?_
    refine CX.seq ?_
    refine CX.region ?_
    refine RX.cons rfl rfl (op_w (yw_move rfl rfl) rfl rfl ?_)
    refine RX.cons rfl rfl (op_w (yw_move rfl rfl) rfl rfl ?_)
    refine RX.cons rfl rfl (op_w (yw_move rfl rfl) rfl rfl ?_)
    refine RX.cons rfl rfl (op_w (yw_move rfl rfl) rfl rfl ?_)
    refine RX.cons rfl rfl (op_callP [PRow A cap (Srt.cs before 20 c xs)] [] rfl rfl rfl rfl rfl ent_50 ((perm_pick 0 rfl).trans (List.Perm.cons _ (List.Perm.refl _))) (σ := Unit) (val := fun _ => .tuple #[]) (LL := fun _ => [PRow A cap (P ++ Srt.isort before s ++ r)]) (post := fun _ => True) (fun w hw hs => (w_insertion P s r (20 * c) (20 * c + 20) (by rw [← hlen, ← Srt.cs_length (lt := before) 20 c xs, hP]) (by omega) (by omega) hA hn (prow_eq hP hs)).mono fun e w' h => ⟨(), trivial, h⟩) (fun _ _ => ?_))
    refine RX.nil (XX.next (V' := [(0, .slice A len cap), (1, .int .i64 ((len : Nat) : Int)), (2, .func (.func 35) #[] #[]), (6, .int .i64 20), (8, .int .i64 ((20 * c + 20 : Nat) : Int))]) ⟨rfl, rfl, rfl, rfl, rfl, trivial⟩ ?_)
    refine CX.seq ?_
    refine CX.region ?_
    refine RX.cons rfl rfl (op_w (yw_move rfl rfl) rfl rfl ?_)
    refine RX.cons rfl rfl (op_w (yw_assign rfl rfl) rfl rfl ?_)
    refine RX.nil (XX.next (V' := [(0, .slice A len cap), (1, .int .i64 ((len : Nat) : Int)), (2, .func (.func 35) #[] #[]), (6, .int .i64 20), (7, .int .i64 ((20 * c + 20 : Nat) : Int)), (8, .int .i64 ((20 * c + 20 : Nat) : Int))]) ⟨rfl, rfl, rfl, rfl, rfl, rfl, trivial⟩ ?_)
    refine CX.region ?_
    refine RX.cons rfl rfl (op_w (yw_move rfl rfl) rfl rfl ?_)
    refine RX.cons rfl rfl (op_w (yw_move rfl rfl) rfl rfl ?_)
    refine RX.cons rfl rfl (op_w (yw_add rfl rfl rfl (by omega) (by omega)) rfl rfl ?_)
    refine RX.know (t := 22) (u := .int .i64 ((20 * (c + 1) + 20 : Nat) : Int)) rfl (congrArg (Value.int .i64) (by omega)) ?_
    refine RX.cons rfl rfl (op_w (yw_assign rfl rfl) rfl rfl ?_)
    refine RX.nil (XX.inBlock (V' := [(0, .slice A len cap), (1, .int .i64 ((len : Nat) : Int)), (2, .func (.func 35) #[] #[]), (6, .int .i64 20), (7, .int .i64 ((20 * c + 20 : Nat) : Int)), (8, .int .i64 ((20 * (c + 1) + 20 : Nat) : Int))]) ⟨rfl, rfl, rfl, rfl, rfl, rfl, trivial⟩ ?_)
    refine XX.againP ([]) (c + 1) (by omega) (by omega) ⟨rfl, rfl, rfl, rfl, rfl, rfl, trivial⟩ (by rw [hP2] <;> exact List.Perm.refl _)
  · obtain ⟨P, s, hP, hPl, hsl, hP2⟩ := Srt.cs_rest (lt := before) (k := 20) (c := c) (a := 20 * c) (by decide) hlen rfl (by omega) (by omega)
    refine CX.exit ?_
    refine XX.then_exit ?_
    refine XX.then_exit ?_
    refine XX.block_exit ?_
    refine XX.next (V' := [(0, .slice A len cap), (1, .int .i64 ((len : Nat) : Int)), (2, .func (.func 35) #[] #[]), (6, .int .i64 20), (7, .int .i64 ((20 * c : Nat) : Int))]) ⟨rfl, rfl, rfl, rfl, rfl, trivial⟩ ?_
    refine CX.seq ?_
    refine CX.region ?_
    refine RX.cons rfl rfl (op_w (yw_move rfl rfl) rfl rfl ?_)
    refine RX.cons rfl rfl (op_w (yw_move rfl rfl) rfl rfl ?_)
    refine RX.cons rfl rfl (op_w (yw_move rfl rfl) rfl rfl ?_)
    refine RX.cons rfl rfl (op_w (yw_move rfl rfl) rfl rfl ?_)
    refine RX.cons rfl rfl (op_callP [PRow A cap (Srt.cs before 20 c xs)] [] rfl rfl rfl rfl rfl ent_50 ((perm_pick 0 rfl).trans (List.Perm.cons _ (List.Perm.refl _))) (σ := Unit) (val := fun _ => .tuple #[]) (LL := fun _ => [PRow A cap (P ++ Srt.isort before s ++ [])]) (post := fun _ => True) (fun w hw hs => (w_insertion P s [] (20 * c) len (by rw [← hlen, ← Srt.cs_length (lt := before) 20 c xs, hP] <;> simp) (by omega) (by omega) hA hn (prow_eq (by rw [hP]; simp) hs)).mono fun e w' h => ⟨(), trivial, h⟩) (fun _ _ => ?_))
    refine RX.nil (XX.next (V' := [(0, .slice A len cap), (1, .int .i64 ((len : Nat) : Int)), (2, .func (.func 35) #[] #[]), (6, .int .i64 20)]) ⟨rfl, rfl, rfl, rfl, trivial⟩ ?_)
    refine CX.block ?_
    refine CX.loop (σ := Nat) (fun k => [(0, .slice A len cap), (1, .int .i64 ((len : Nat) : Int)), (2, .func (.func 35) #[] #[]), (6, .int .i64 ((k : Nat) : Int))]) (fun k => [PRow A cap (Srt.cs before k (len + 1) xs)]) (fun k => 0 < k ∧ k ≤ 2000020) (fun k => len - k) 20 ⟨by decide, by decide⟩ ⟨rfl, rfl, rfl, rfl, trivial⟩ (by rw [hP2] <;> simp) (fun k hI => ?_)
    obtain ⟨hk, hk2⟩ := hI
    refine CX.seq ?_
    refine CX.seq ?_
    refine CX.region ?_
    refine RX.cons rfl rfl (op_w (yw_move rfl rfl) rfl rfl ?_)
    refine RX.cons rfl rfl (op_w (yw_move rfl rfl) rfl rfl ?_)
    refine RX.cons rfl rfl (op_w (yw_lss rfl rfl rfl) rfl rfl ?_)
    refine RX.nil (XX.next (V' := [(0, .slice A len cap), (1, .int .i64 ((len : Nat) : Int)), (2, .func (.func 35) #[] #[]), (6, .int .i64 ((k : Nat) : Int)), (30, .bool (decide (((k : Nat) : Int) < ((len : Nat) : Int))))]) ⟨rfl, rfl, rfl, rfl, rfl, trivial⟩ ?_)
    refine CX.condD (p := ((k : Nat) : Int) < ((len : Nat) : Int)) rfl (fun c30 => ?_) (fun c30 => ?_)
    · refine CX.skip (XX.next (V' := [(0, .slice A len cap), (1, .int .i64 ((len : Nat) : Int)), (2, .func (.func 35) #[] #[]), (6, .int .i64 ((k : Nat) : Int))]) ⟨rfl, rfl, rfl, rfl, trivial⟩ ?_)
      refine CX.block ?_
      refine CX.seq ?_
      refine CX.region ?_
      refine RX.cons rfl rfl (op_w (yw_move rfl rfl) rfl rfl ?_)
      refine RX.cons rfl rfl (op_w (yw_mul rfl rfl rfl (by omega) (by omega)) rfl rfl ?_)
      refine RX.know (t := 32) (u := .int .i64 ((2 * k : Nat) : Int)) rfl (congrArg (Value.int .i64) (by omega)) ?_
      refine RX.cons rfl rfl (op_w (yw_assign rfl rfl) rfl rfl ?_)
      refine RX.cons rfl rfl (op_w (yw_assign rfl rfl) rfl rfl ?_)
      refine RX.know (t := 8) (u := .int .i64 ((0 + 2 * k : Nat) : Int)) rfl (congrArg (Value.int .i64) (by omega)) ?_
      refine RX.nil (XX.next (V' := [(0, .slice A len cap), (1, .int .i64 ((len : Nat) : Int)), (2, .func (.func 35) #[] #[]), (6, .int .i64 ((k : Nat) : Int)), (7, .int .i64 0), (8, .int .i64 ((0 + 2 * k : Nat) : Int))]) ⟨rfl, rfl, rfl, rfl, rfl, rfl, trivial⟩ ?_)
      refine CX.seq ?_
      refine CX.block ?_
      refine CX.loop (σ := Nat × Nat) (fun z => [(0, .slice A len cap), (1, .int .i64 ((len : Nat) : Int)), (2, .func (.func 35) #[] #[]), (6, .int .i64 ((k : Nat) : Int)), (7, .int .i64 ((z.1 : Nat) : Int)), (8, .int .i64 ((z.1 + 2 * k : Nat) : Int))]) (fun z => [PRow A cap (Srt.ms before k (len + 1) z.2 xs)]) (fun z => z.1 = 2 * k * z.2 ∧ z.1 ≤ len) (fun z => len - z.1) (0, 0) ⟨rfl, Nat.zero_le _⟩ ⟨rfl, rfl, rfl, rfl, rfl, rfl, trivial⟩ rfl (fun z hI => ?_)
      obtain ⟨a, d⟩ := z
      dsimp only at hI ⊢
      obtain ⟨ha, han⟩ := hI
      refine CX.seq ?_
      refine CX.seq ?_
      refine CX.region ?_
      refine RX.cons rfl rfl (op_w (yw_move rfl rfl) rfl rfl ?_)
      refine RX.cons rfl rfl (op_w (yw_move rfl rfl) rfl rfl ?_)
      refine RX.cons rfl rfl (op_w (yw_leq rfl rfl rfl) rfl rfl ?_)
      refine RX.nil (XX.next (V' := [(0, .slice A len cap), (1, .int .i64 ((len : Nat) : Int)), (2, .func (.func 35) #[] #[]), (6, .int .i64 ((k : Nat) : Int)), (7, .int .i64 ((a : Nat) : Int)), (8, .int .i64 ((a + 2 * k : Nat) : Int)), (35, .bool (decide (((a + 2 * k : Nat) : Int) ≤ ((len : Nat) : Int))))]) ⟨rfl, rfl, rfl, rfl, rfl, rfl, rfl, trivial⟩ ?_)
      refine CX.condD (p := ((a + 2 * k : Nat) : Int) ≤ ((len : Nat) : Int)) rfl (fun c35 => ?_) (fun c35 => ?_)
      · obtain ⟨P, A', B', R, hP, hPl, hA', hB', hSA, hSB, hP2⟩ := Srt.ms_one before_swo hk hlen ha (by omega)
        refine CX.skip (XX.next (V' := [(0, .slice A len cap), (1, .int .i64 ((len : Nat) : Int)), (2, .func (.func 35) #[] #[]), (6, .int .i64 ((k : Nat) : Int)), (7, .int .i64 ((a : Nat) : Int)), (8, .int .i64 ((a + 2 * k : Nat) : Int))]) ⟨rfl, rfl, rfl, rfl, rfl, rfl, trivial⟩ ?_)
        refine CX.block ?_
        refine CX.seq ?_
        refine CX.region ?_
        refine RX.cons rfl rfl (op_w (yw_move rfl rfl) rfl rfl ?_)
        refine RX.cons rfl rfl (op_w (yw_move rfl rfl) rfl rfl ?_)
        refine RX.cons rfl rfl (op_w (yw_move rfl rfl) rfl rfl ?_)
        refine RX.cons rfl rfl (op_w (yw_move rfl rfl) rfl rfl ?_)
        refine RX.cons rfl rfl (op_w (yw_add rfl rfl rfl (by omega) (by omega)) rfl rfl ?_)
        refine RX.know (t := 40) (u := .int .i64 ((a + k : Nat) : Int)) rfl (congrArg (Value.int .i64) (by omega)) ?_
        refine RX.cons rfl rfl (op_w (yw_move rfl rfl) rfl rfl ?_)
        refine RX.cons rfl rfl (op_w (yw_move rfl rfl) rfl rfl ?_)
        refine RX.cons rfl rfl (op_callP [PRow A cap (Srt.ms before k (len + 1) d xs)] [] rfl rfl rfl rfl rfl ent_51 ((perm_pick 0 rfl).trans (List.Perm.cons _ (List.Perm.refl _))) (σ := Unit) (val := fun _ => .tuple #[]) (LL := fun _ => [PRow A cap (P ++ Srt.isort before (A' ++ B') ++ R)]) (post := fun _ => True) (fun w hw hs => (symOk _ P A' B' R a (a + k) (a + 2 * k) (Nat.lt_succ_self _) (by rw [← hlen, ← Srt.ms_length (lt := before) k (len + 1) d xs, hP]) (by omega) (by omega) (by omega) hSA hSB (by omega) (by omega) hA hn (prow_eq hP hs)).mono fun e w' h => ⟨(), trivial, h⟩) (fun _ _ => ?_))
        refine RX.nil (XX.next (V' := [(0, .slice A len cap), (1, .int .i64 ((len : Nat) : Int)), (2, .func (.func 35) #[] #[]), (6, .int .i64 ((k : Nat) : Int)), (8, .int .i64 ((a + 2 * k : Nat) : Int))]) ⟨rfl, rfl, rfl, rfl, rfl, trivial⟩ ?_)
        refine CX.seq ?_
        refine CX.region ?_
        refine RX.cons rfl rfl (op_w (yw_move rfl rfl) rfl rfl ?_)
        refine RX.cons rfl rfl (op_w (yw_assign rfl rfl) rfl rfl ?_)
        refine RX.nil (XX.next (V' := [(0, .slice A len cap), (1, .int .i64 ((len : Nat) : Int)), (2, .func (.func 35) #[] #[]), (6, .int .i64 ((k : Nat) : Int)), (7, .int .i64 ((a + 2 * k : Nat) : Int)), (8, .int .i64 ((a + 2 * k : Nat) : Int))]) ⟨rfl, rfl, rfl, rfl, rfl, rfl, trivial⟩ ?_)
        refine CX.region ?_
        refine RX.cons rfl rfl (op_w (yw_move rfl rfl) rfl rfl ?_)
        refine RX.cons rfl rfl (op_w (yw_move rfl rfl) rfl rfl ?_)
        refine RX.cons rfl rfl (op_w (yw_mul rfl rfl rfl (by omega) (by omega)) rfl rfl ?_)
        refine RX.know (t := 47) (u := .int .i64 ((2 * k : Nat) : Int)) rfl (congrArg (Value.int .i64) (by omega)) ?_
        refine RX.cons rfl rfl (op_w (yw_add rfl rfl rfl (by omega) (by omega)) rfl rfl ?_)
        refine RX.know (t := 48) (u := .int .i64 ((a + 2 * k + 2 * k : Nat) : Int)) rfl (congrArg (Value.int .i64) (by omega)) ?_
        refine RX.cons rfl rfl (op_w (yw_assign rfl rfl) rfl rfl ?_)
        refine RX.nil (XX.inBlock (V' := [(0, .slice A len cap), (1, .int .i64 ((len : Nat) : Int)), (2, .func (.func 35) #[] #[]), (6, .int .i64 ((k : Nat) : Int)), (7, .int .i64 ((a + 2 * k : Nat) : Int)), (8, .int .i64 ((a + 2 * k + 2 * k : Nat) : Int))]) ⟨rfl, rfl, rfl, rfl, rfl, rfl, trivial⟩ ?_)
        refine XX.againP ([]) (a + 2 * k, d + 1) (by dsimp only; omega) ⟨by dsimp only; rw [ha, Nat.mul_succ], by dsimp only; omega⟩ ⟨rfl, rfl, rfl, rfl, rfl, rfl, trivial⟩ (by dsimp only; rw [hP2] <;> exact List.Perm.refl _)
      · refine CX.exit ?_
        refine XX.then_exit ?_
        refine XX.then_exit ?_
        refine XX.block_exit ?_
        refine XX.next (V' := [(0, .slice A len cap), (1, .int .i64 ((len : Nat) : Int)), (2, .func (.func 35) #[] #[]), (6, .int .i64 ((k : Nat) : Int)), (7, .int .i64 ((a : Nat) : Int))]) ⟨rfl, rfl, rfl, rfl, rfl, trivial⟩ ?_
        refine CX.seq ?_
        refine CX.seq ?_
        refine CX.region ?_
        refine RX.cons rfl rfl (op_w (yw_move rfl rfl) rfl rfl ?_)
        refine RX.cons rfl rfl (op_w (yw_move rfl rfl) rfl rfl ?_)
        refine RX.cons rfl rfl (op_w (yw_add rfl rfl rfl (by omega) (by omega)) rfl rfl ?_)
        refine RX.know (t := 51) (u := .int .i64 ((a + k : Nat) : Int)) rfl (congrArg (Value.int .i64) (by omega)) ?_
        refine RX.cons rfl rfl (op_w (yw_assign rfl rfl) rfl rfl ?_)
        refine RX.nil (XX.next (V' := [(0, .slice A len cap), (1, .int .i64 ((len : Nat) : Int)), (2, .func (.func 35) #[] #[]), (6, .int .i64 ((k : Nat) : Int)), (7, .int .i64 ((a : Nat) : Int)), (9, .int .i64 ((a + k : Nat) : Int))]) ⟨rfl, rfl, rfl, rfl, rfl, rfl, trivial⟩ ?_)
        refine CX.seq ?_
        refine CX.region ?_
        refine RX.cons rfl rfl (op_w (yw_move rfl rfl) rfl rfl ?_)
        refine RX.cons rfl rfl (op_w (yw_move rfl rfl) rfl rfl ?_)
        refine RX.cons rfl rfl (op_w (yw_lss rfl rfl rfl) rfl rfl ?_)
        refine RX.nil (XX.next (V' := [(0, .slice A len cap), (1, .int .i64 ((len : Nat) : Int)), (2, .func (.func 35) #[] #[]), (6, .int .i64 ((k : Nat) : Int)), (7, .int .i64 ((a : Nat) : Int)), (9, .int .i64 ((a + k : Nat) : Int)), (54, .bool (decide (((a + k : Nat) : Int) < ((len : Nat) : Int))))]) ⟨rfl, rfl, rfl, rfl, rfl, rfl, rfl, trivial⟩ ?_)
        refine CX.condD (p := ((a + k : Nat) : Int) < ((len : Nat) : Int)) rfl (fun c54 => ?_) (fun c54 => ?_)
        · obtain ⟨P, A', B', hP, hPl, hA', hB', hSA, hSB, hP2⟩ := Srt.ms_rest before_swo hk hlen ha (by omega) (by omega)
          have hfin : Srt.cs before (2 * k) (len + 1) xs = P ++ Srt.isort before (A' ++ B') ++ [] := by rw [hP2]; simp
          refine CX.region ?_
          refine RX.cons rfl rfl (op_w (yw_move rfl rfl) rfl rfl ?_)
          refine RX.cons rfl rfl (op_w (yw_move rfl rfl) rfl rfl ?_)
          refine RX.cons rfl rfl (op_w (yw_move rfl rfl) rfl rfl ?_)
          refine RX.cons rfl rfl (op_w (yw_move rfl rfl) rfl rfl ?_)
          refine RX.cons rfl rfl (op_w (yw_move rfl rfl) rfl rfl ?_)
          refine RX.cons rfl rfl (op_callP [PRow A cap (Srt.ms before k (len + 1) d xs)] [] rfl rfl rfl rfl rfl ent_51 ((perm_pick 0 rfl).trans (List.Perm.cons _ (List.Perm.refl _))) (σ := Unit) (val := fun _ => .tuple #[]) (LL := fun _ => [PRow A cap (P ++ Srt.isort before (A' ++ B') ++ [])]) (post := fun _ => True) (fun w hw hs => (symOk _ P A' B' [] a (a + k) len (Nat.lt_succ_self _) (by rw [← hlen, ← Srt.ms_length (lt := before) k (len + 1) d xs, hP] <;> simp) (by omega) (by omega) (by omega) hSA hSB (by omega) (by omega) hA hn (prow_eq (by rw [hP]; simp) hs)).mono fun e w' h => ⟨(), trivial, h⟩) (fun _ _ => ?_))
          refine RX.nil (XX.next (V' := [(0, .slice A len cap), (1, .int .i64 ((len : Nat) : Int)), (2, .func (.func 35) #[] #[]), (6, .int .i64 ((k : Nat) : Int))]) ⟨rfl, rfl, rfl, rfl, trivial⟩ ?_)
          refine CX.region ?_
          refine RX.cons rfl rfl (op_w (yw_move rfl rfl) rfl rfl ?_)
          refine RX.cons rfl rfl (op_w (yw_mul rfl rfl rfl (by omega) (by omega)) rfl rfl ?_)
          refine RX.know (t := 62) (u := .int .i64 ((2 * k : Nat) : Int)) rfl (congrArg (Value.int .i64) (by omega)) ?_
          refine RX.cons rfl rfl (op_w (yw_assign rfl rfl) rfl rfl ?_)
          refine RX.nil (XX.inBlock (V' := [(0, .slice A len cap), (1, .int .i64 ((len : Nat) : Int)), (2, .func (.func 35) #[] #[]), (6, .int .i64 ((2 * k : Nat) : Int))]) ⟨rfl, rfl, rfl, rfl, trivial⟩ ?_)
          refine XX.againP ([]) (2 * k) (by omega) ⟨by omega, by omega⟩ ⟨rfl, rfl, rfl, rfl, trivial⟩ (by rw [hfin] <;> exact List.Perm.refl _)
        · have hfin : Srt.cs before (2 * k) (len + 1) xs = Srt.ms before k (len + 1) d xs := (Srt.ms_last hk hlen ha (by omega) (by omega)).symm
          refine CX.skip (XX.next (V' := [(0, .slice A len cap), (1, .int .i64 ((len : Nat) : Int)), (2, .func (.func 35) #[] #[]), (6, .int .i64 ((k : Nat) : Int))]) ⟨rfl, rfl, rfl, rfl, trivial⟩ ?_)
          refine CX.region ?_
          refine RX.cons rfl rfl (op_w (yw_move rfl rfl) rfl rfl ?_)
          refine RX.cons rfl rfl (op_w (yw_mul rfl rfl rfl (by omega) (by omega)) rfl rfl ?_)
          refine RX.know (t := 62) (u := .int .i64 ((2 * k : Nat) : Int)) rfl (congrArg (Value.int .i64) (by omega)) ?_
          refine RX.cons rfl rfl (op_w (yw_assign rfl rfl) rfl rfl ?_)
          refine RX.nil (XX.inBlock (V' := [(0, .slice A len cap), (1, .int .i64 ((len : Nat) : Int)), (2, .func (.func 35) #[] #[]), (6, .int .i64 ((2 * k : Nat) : Int))]) ⟨rfl, rfl, rfl, rfl, trivial⟩ ?_)
          refine XX.againP ([]) (2 * k) (by omega) ⟨by omega, by omega⟩ ⟨rfl, rfl, rfl, rfl, trivial⟩ (by rw [hfin] <;> exact List.Perm.refl _)
    · refine CX.exit ?_
      refine XX.then_exit ?_
      refine XX.then_exit ?_
      refine XX.block_exit ?_
      exact end_none rfl fun w1 hw => ⟨rfl, prow_eq (Srt.cs_one k _ _ (by omega)) hw⟩

set_option maxRecDepth 100000 in
theorem w_sortStable {w : World} {A : Option Addr} {cap len : Nat} (xs : List Fct) (hlen : xs.length = len) (hA : 0 < len → ∃ b j, A = some ⟨b, j, none⟩) (hn : len ≤ 1000000)(hs : SL w (rowO A) w [PRow A cap xs]) :
    Calls Tryd.prog 34 #[.slice A len cap, .func (.func 35) #[] #[]] w (fun e w' => e = .returned (.tuple #[]) ∧ SL w (rowO A) w' [PRow A cap (Srt.isort before xs)]) := by
  refine calls_of_CX (O := (rowO A)) (L := [PRow A cap xs]) (args := [.slice A len cap, .func (.func 35) #[] #[]]) Tryd.func34 rfl (by simp [Tryd.ntmps34]) hs ?_
  refine CX.sub (V' := [(0, .slice A len cap), (1, .func (.func 35) #[] #[])]) ⟨rfl, rfl, trivial⟩ ?_
  refine CX.region ?_
  refine RX.cons rfl rfl (op_w (yw_move rfl rfl) rfl rfl ?_)
  refine RX.cons rfl rfl (op_w (yw_move rfl rfl) rfl rfl ?_)
  refine RX.cons rfl rfl (op_w (yw_lenS rfl Tryd.underlying49 rfl) rfl rfl ?_)
  refine RX.cons rfl rfl (op_w (yw_move rfl rfl) rfl rfl ?_)
  refine RX.cons rfl rfl (op_callP [PRow A cap xs] [] rfl rfl rfl rfl rfl ent_44 ((perm_pick 0 rfl).trans (List.Perm.cons _ (List.Perm.refl _))) (σ := Unit) (val := fun _ => .tuple #[]) (LL := fun _ => [PRow A cap (Srt.isort before xs)]) (post := fun _ => True) (fun w hw hs => (w_stable xs hlen hA hn (prow_eq rfl hs)).mono fun e w' h => ⟨(), trivial, h⟩) (fun _ _ => ?_))
  refine RX.nil ?_
  exact end_none rfl fun w1 hw => ⟨rfl, hw⟩

end Go.Proofs.YtmndhiaaolfepaaDoor
