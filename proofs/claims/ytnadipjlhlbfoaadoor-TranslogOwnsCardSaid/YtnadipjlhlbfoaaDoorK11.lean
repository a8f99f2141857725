/- Plain aids for the reference's walks: lists compared, numbers as bytes, statements judged line by line. Walks, printed by a program. Walks, printed by a program. Walks, printed by a program. Walks, printed by a program. Walks, printed by a program. -/
import Derived.Test.YtnadipjlhlbfoaaDoorK10
namespace Go.Proofs.YtnadipjlhlbfoaaDoor
set_option linter.all false
open Go Go.RowKit
theorem same_upto {α : Type} {l m : List α} {i : Nat} {x y : α} (h : l.take i = m.take i) (hx : l[i]? = some x) (hy : m[i]? = some y) (e : x = y) : l.take (i + 1) = m.take (i + 1) := by
  rw [take_succ hx, take_succ hy, h, e]
theorem differ_at {α : Type} {l m : List α} {i : Nat} {x y : α} (hx : l[i]? = some x) (hy : m[i]? = some y) (h : x ≠ y) : l ≠ m := by
  rintro rfl
  rw [hx] at hy
  injection hy with hy
  exact h hy
def Ln.same (f g : Ln) : Bool := f.p == g.p && (f.b == g.b && (f.a == g.a && true))
theorem Ln.same_iff (f g : Ln) : f.same g = true ↔ f = g := by
  cases f; cases g
  simp [Ln.same]
/-- An index out of any number. -/
def pickN (c : Int) (n : Nat) : Nat := (if c < 0 then -(c + 1) else c).toNat % n
theorem pickN_neg {c : Int} {n : Nat} (h : c < 0) : -(c + 1) % (n : Int) = ((pickN c n : Nat) : Int) := by
  rw [pickN, if_pos h, Int.natCast_emod, Int.toNat_of_nonneg (by omega)]
theorem pickN_pos {c : Int} {n : Nat} (h : ¬ c < 0) : c % (n : Int) = ((pickN c n : Nat) : Int) := by
  rw [pickN, if_neg h, Int.natCast_emod, Int.toNat_of_nonneg (by omega)]
theorem pickN_lt (c : Int) {n : Nat} (h : 0 < n) : pickN c n < n := Nat.mod_lt _ h
theorem okL_false6 {last : Int} {x : Ln} (h : x.p ≤ last ∨ 1200 ≤ x.p ∨ okM x.b = false ∨ okM x.a = false ∨ x.b = x.a) : okL last x = false := by
  unfold okL
  rcases h with h | h | h | h | h
  · rw [decide_eq_false (by omega)]; rfl
  · rw [decide_eq_false (p := x.p < 1200) (by omega)]; simp
  · rw [h]; simp
  · rw [h]; simp
  · rw [decide_eq_false (p := x.b ≠ x.a) (by simpa using h)]; simp
theorem okL_true6 {last : Int} {x : Ln} (h1 : last < x.p) (h2 : x.p < 1200) (h3 : okM x.b = true) (h4 : okM x.a = true) (h5 : ¬ x.b = x.a) : okL last x = true := by
  simp only [okL, Bool.and_eq_true, decide_eq_true_iff]
  exact ⟨⟨⟨⟨h1, h2⟩, h3⟩, h4⟩, h5⟩
theorem okLs_len {ls : List Ln} : ∀ {last : Int}, -1 ≤ last → okLs last ls = true → (ls.length : Int) ≤ 1199 - last ∨ ls = [] := by
  induction ls with
  | nil => intro last _ _; exact .inr rfl
  | cons x r ih =>
    intro last hl h
    rw [okLs_cons, Bool.and_eq_true] at h
    have hx : last < x.p ∧ x.p < 1200 := by
      have := h.1
      simp only [okL, Bool.and_eq_true, decide_eq_true_iff] at this
      exact ⟨this.1.1.1.1, this.1.1.1.2⟩
    left
    rcases ih (by omega) h.2 with h1 | h1
    · simp only [List.length_cons]; omega
    · subst h1; simp; omega
theorem okS_len {s : Stm} (h : okS s = true) : s.ls.length ≤ 1200 := by
  rcases okLs_len (Int.le_refl _) (okS_parts h).1 with h1 | h1
  · omega
  · rw [h1]; simp
theorem okS_long {s : Stm} (h : 1200 < s.ls.length) : okS s = false := by
  cases hs : okS s with
  | false => rfl
  | true => have := okS_len hs; omega
theorem okS_odd {s : Stm} (h : s.h < 1 ∨ 1000000 < s.h ∨ s.c < 0 ∨ 1200 ≤ s.c ∨ s.ls.length < 1) : okS s = false := by
  cases hs : okS s with
  | false => rfl
  | true => have := okS_parts hs; omega
theorem okS_all {s : Stm} (h : okLs (-1) s.ls = true) (h1 : 1 ≤ s.h) (h2 : s.h ≤ 1000000) (h3 : 0 ≤ s.c) (h4 : s.c < 1200) (h5 : 1 ≤ s.ls.length) : okS s = true := by
  simp only [okS, Bool.and_eq_true, decide_eq_true_iff]
  exact ⟨⟨⟨⟨⟨h, h1⟩, h2⟩, h3⟩, h4⟩, h5⟩
/-! ### Numbers as bytes -/
theorem ofNat_toNat {m : Nat} (h : m < 2 ^ 64) : (BitVec.ofNat 64 m).toNat = m := by rw [BitVec.toNat_ofNat, Nat.mod_eq_of_lt h]
theorem put_ref_more {f m : Nat} (hm : m < 2 ^ 64) (h : 128 ≤ m) : (putW (f + 1) (BitVec.ofNat 64 m)).map grpB = UInt8.ofBitVec (BitVec.ofInt 8 (IntKind.u64.wrap (((m : Nat) : Int) % 128 + 128))) :: (putW f (BitVec.ofNat 64 (m / 128))).map grpB := by
  rw [putW_more (by rw [ofNat_toNat hm]; omega), List.map_cons]
  congr 1
  · show UInt8.ofBitVec _ = UInt8.ofBitVec _
    congr 1
    apply BitVec.eq_of_toNat_eq
    have e1 : IntKind.u64.wrap (((m : Nat) : Int) % 128 + 128) = ((m % 128 + 128 : Nat) : Int) := by
      have : IntKind.u64.wrap (((m : Nat) : Int) % 128 + 128) = (((m : Nat) : Int) % 128 + 128) % 18446744073709551616 := rfl
      rw [this]; omega
    rw [e1, BitVec.toNat_ofInt]
    simp only [if_neg, Bool.false_eq_true, if_false, BitVec.toNat_or, BitVec.toNat_setWidth, BitVec.toNat_and, BitVec.toNat_ofNat]
    have e2 : (m % 2 ^ 64 &&& 127 % 2 ^ 64) % 2 ^ 8 = m % 128 := by
      rw [Nat.mod_eq_of_lt hm, show (127 % 2 ^ 64 : Nat) = 2 ^ 7 - 1 from rfl, Nat.and_two_pow_sub_one_eq_mod]
      omega
    rw [e2]
    have e3 : (m % 128 ||| 128 % 2 ^ 8) = m % 128 + 128 := by
      rw [show (128 % 2 ^ 8 : Nat) = 2 ^ 7 * 1 from rfl, Nat.or_comm, ← Nat.two_pow_add_eq_or_of_lt (by omega)]
      omega
    rw [e3]
    omega
  · congr 2
    apply BitVec.eq_of_toNat_eq
    rw [BitVec.toNat_ushiftRight, ofNat_toNat hm, ofNat_toNat (by omega), Nat.shiftRight_eq_div_pow]
theorem put_ref_last {f m : Nat} (h : m < 128) : (putW (f + 1) (BitVec.ofNat 64 m)).map grpB = [UInt8.ofBitVec (BitVec.ofInt 8 ((m : Nat) : Int))] := by
  rw [putW_last (by rw [ofNat_toNat (by omega)]; omega), List.map_cons, List.map_nil]
  congr 1
  show UInt8.ofBitVec _ = UInt8.ofBitVec _
  congr 1
  apply BitVec.eq_of_toNat_eq
  simp only [if_true, BitVec.toNat_setWidth, BitVec.toNat_and, BitVec.toNat_ofNat, BitVec.toNat_ofInt]
  rw [Nat.mod_eq_of_lt (show m < 2 ^ 64 by omega), show (127 % 2 ^ 64 : Nat) = 2 ^ 7 - 1 from rfl, Nat.and_two_pow_sub_one_eq_mod]
  omega
theorem u64_quo (m : Nat) (h : m < 2 ^ 64) : IntKind.u64.wrap (Int.tdiv ((m : Nat) : Int) 128) = ((m / 128 : Nat) : Int) := by
  have e1 : Int.tdiv ((m : Nat) : Int) 128 = ((m / 128 : Nat) : Int) := by rw [Int.tdiv_eq_ediv_of_nonneg (by omega)]; omega
  have : IntKind.u64.wrap ((m / 128 : Nat) : Int) = ((m / 128 : Nat) : Int) % 18446744073709551616 := rfl
  rw [e1, this]; omega
theorem zigzag_ref {n : Nat} (h : n ≤ 4611686018427387903) : (((BitVec.ofInt 64 ((n : Nat) : Int) * 2#64).toNat : Nat) : Int) = ((2 * n : Nat) : Int) := by
  rw [BitVec.toNat_mul, BitVec.toNat_ofInt]
  simp
  omega
end Go.Proofs.YtnadipjlhlbfoaaDoor
namespace Go.Proofs.YtnadipjlhlbfoaaDoor
set_option linter.all false
open Go Go.RowKit
set_option maxRecDepth 100000
theorem eqg_57 : Tryd.prog.eqGuardType Tryd.prog.depth 57 = false := by kernel_rfl
theorem held_57 : Tryd.prog.stoodInHeld 57 = false := by kernel_rfl
theorem eq_ln (f g : Ln) (w : World) : (Op.equalIn 10000 57 (.agg (lnC f)) (.agg (lnC g))).run Tryd.prog w = .ok (f.same g) w :=
  equal_of Tryd.underlying57 held_57 (eqF_int rfl Tryd.underlying3 rfl rfl (eqF_int rfl Tryd.underlying3 rfl rfl (eqF_int rfl Tryd.underlying3 rfl rfl eqF_nil)))
set_option maxRecDepth 100000 in
theorem w_pick {w : World} (c : Int) (n : Nat) (h1 : -9223372036854775808 ≤ c) (h2 : c ≤ 9223372036854775807) (hn : 0 < n) :
    Calls Tryd.prog 20 #[.int .i64 c, .int .i64 ((n : Nat) : Int)] w (fun e w' => e = .returned (.int .i64 ((pickN c n : Nat) : Int)) ∧ SL w [] w' []) := by
  refine calls_of_CX (O := []) (L := []) (args := [.int .i64 c, .int .i64 ((n : Nat) : Int)]) Tryd.func20 rfl (by simp [Tryd.ntmps20]) (SL.refl w) ?_
  refine CX.sub (V' := [(0, .int .i64 c), (1, .int .i64 ((n : Nat) : Int))]) ⟨rfl, rfl, trivial⟩ ?_
  refine CX.seq ?_
  refine CX.region ?_
  refine RX.cons rfl rfl (op_w (yw_assign rfl rfl) rfl rfl ?_)
  refine RX.nil (XX.next (V' := [(0, .int .i64 c), (1, .int .i64 ((n : Nat) : Int))]) ⟨rfl, rfl, trivial⟩ ?_)
  refine CX.seq ?_
  refine CX.seq ?_
  refine CX.region ?_
  refine RX.cons rfl rfl (op_w (yw_move rfl rfl) rfl rfl ?_)
  refine RX.cons rfl rfl (op_w (yw_lss rfl rfl rfl) rfl rfl ?_)
  refine RX.nil (XX.next (V' := [(0, .int .i64 c), (1, .int .i64 ((n : Nat) : Int)), (6, .bool (decide (c < 0)))]) ⟨rfl, rfl, rfl, trivial⟩ ?_)
  refine CX.condD (p := c < 0) rfl (fun c6 => ?_) (fun c6 => ?_)
  · refine CX.region ?_
    refine RX.cons rfl rfl (op_w (yw_move rfl rfl) rfl rfl ?_)
    refine RX.cons rfl rfl (op_w (yw_add rfl rfl rfl (by omega) (by omega)) rfl rfl ?_)
    refine RX.cons rfl rfl (op_w (yw_neg rfl rfl (by omega) (by omega)) rfl rfl ?_)
    refine RX.cons rfl rfl (op_w (yw_assign rfl rfl) rfl rfl ?_)
    refine RX.nil (XX.next (V' := [(0, .int .i64 (-(c + 1))), (1, .int .i64 ((n : Nat) : Int))]) ⟨rfl, rfl, trivial⟩ ?_)
    refine CX.seq ?_
    refine CX.region ?_
    refine RX.cons rfl rfl (op_w (yw_move rfl rfl) rfl rfl ?_)
    refine RX.cons rfl rfl (op_w (yw_move rfl rfl) rfl rfl ?_)
    refine RX.cons rfl rfl (op_w (yw_rem rfl rfl rfl (by omega) (by omega)) rfl rfl ?_)
    refine RX.know (t := 12) (u := .int .i64 ((pickN c n : Nat) : Int)) rfl (congrArg (Value.int .i64) (pickN_neg c6)) ?_
    refine RX.cons rfl rfl (op_w (yw_assign rfl rfl) rfl rfl ?_)
    refine RX.nil (XX.next (V' := [(4, .int .i64 ((pickN c n : Nat) : Int))]) ⟨rfl, trivial⟩ ?_)
    refine CX.ret ?_
    exact ret_tmp rfl rfl fun w1 hw => ⟨rfl, hw.sub (List.nil_sublist _)⟩
  · refine CX.skip (XX.next (V' := [(0, .int .i64 c), (1, .int .i64 ((n : Nat) : Int))]) ⟨rfl, rfl, trivial⟩ ?_)
    refine CX.seq ?_
    refine CX.region ?_
    refine RX.cons rfl rfl (op_w (yw_move rfl rfl) rfl rfl ?_)
    refine RX.cons rfl rfl (op_w (yw_move rfl rfl) rfl rfl ?_)
    refine RX.cons rfl rfl (op_w (yw_rem rfl rfl rfl (by omega) (by omega)) rfl rfl ?_)
    refine RX.know (t := 12) (u := .int .i64 ((pickN c n : Nat) : Int)) rfl (congrArg (Value.int .i64) (pickN_pos c6)) ?_
    refine RX.cons rfl rfl (op_w (yw_assign rfl rfl) rfl rfl ?_)
    refine RX.nil (XX.next (V' := [(4, .int .i64 ((pickN c n : Nat) : Int))]) ⟨rfl, trivial⟩ ?_)
    refine CX.ret ?_
    exact ret_tmp rfl rfl fun w1 hw => ⟨rfl, hw.sub (List.nil_sublist _)⟩

set_option maxRecDepth 100000 in
theorem w_same {w : World} {A B : Option Addr} {ca cb : Nat} (a b : Stm) (hra : Rd w A 3 (a.ls.map lnC)) (hrb : Rd w B 3 (b.ls.map lnC)) (hl : a.ls.length ≤ 1000000) :
    Calls Tryd.prog 17 #[.agg (#[.int .i64 (Stm.h a), .int .i64 (Stm.c a), .slice A (List.length (Stm.ls a)) ca]), .agg (#[.int .i64 (Stm.h b), .int .i64 (Stm.c b), .slice B (List.length (Stm.ls b)) cb])] w (fun e w' => e = .returned (.bool (decide (a = b))) ∧ SL w [] w' []) := by
  refine calls_of_CX (O := []) (L := []) (args := [.agg (#[.int .i64 (Stm.h a), .int .i64 (Stm.c a), .slice A (List.length (Stm.ls a)) ca]), .agg (#[.int .i64 (Stm.h b), .int .i64 (Stm.c b), .slice B (List.length (Stm.ls b)) cb])]) Tryd.func17 rfl (by simp [Tryd.ntmps17]) (SL.refl w) ?_
  refine CX.sub (V' := [(0, .agg (#[.int .i64 (Stm.h a), .int .i64 (Stm.c a), .slice A (List.length (Stm.ls a)) ca])), (1, .agg (#[.int .i64 (Stm.h b), .int .i64 (Stm.c b), .slice B (List.length (Stm.ls b)) cb]))]) ⟨rfl, rfl, trivial⟩ ?_
  refine CX.seq ?_
  refine CX.region ?_
  refine RX.cons rfl rfl (op_box rfl rfl rfl rfl fun ga => ?_)
  refine RX.cons rfl rfl (op_box rfl rfl rfl rfl fun gb => ?_)
  refine RX.cons rfl rfl (op_w (yw_assign rfl rfl) rfl rfl ?_)
  refine RX.nil (XX.next (V' := [(2, .pointer (some ⟨ga, 0, none⟩)), (3, .pointer (some ⟨gb, 0, none⟩))]) ⟨rfl, rfl, trivial⟩ ?_)
  refine CX.seq ?_
  refine CX.seq ?_
  refine CX.region ?_
  refine RX.cons rfl rfl (op_w (yw_field0 rfl fld_34_0 rfl) rfl rfl ?_)
  refine RX.cons rfl rfl (op_yld (y_load (i := 1) rfl rfl one_3 rfl rfl) rfl rfl ?_)
  refine RX.cons rfl rfl (op_w (yw_field0 rfl fld_34_0 rfl) rfl rfl ?_)
  refine RX.cons rfl rfl (op_yld (y_load (i := 0) rfl rfl one_3 rfl rfl) rfl rfl ?_)
  refine RX.cons rfl rfl (op_w (yw_neq rfl rfl rfl) rfl rfl ?_)
  refine RX.cons rfl rfl (op_w (yw_move rfl rfl) rfl rfl ?_)
  refine RX.splitD (t := 11) (p := Stm.h a ≠ Stm.h b) rfl (fun d11 => ?_) (fun d11 => ?_)
  · refine RX.skip rfl rfl rfl rfl rfl rfl rfl ?_
    refine RX.skip rfl rfl rfl rfl rfl rfl rfl ?_
    refine RX.skip rfl rfl rfl rfl rfl rfl rfl ?_
    refine RX.skip rfl rfl rfl rfl rfl rfl rfl ?_
    refine RX.skip rfl rfl rfl rfl rfl rfl rfl ?_
    refine RX.cons rfl rfl (op_w (yw_pickT rfl rfl rfl) rfl rfl ?_)
    refine RX.cons rfl rfl (op_w (yw_move rfl rfl) rfl rfl ?_)
    refine RX.skip rfl rfl rfl rfl rfl rfl rfl ?_
    refine RX.skip rfl rfl rfl rfl rfl rfl rfl ?_
    refine RX.skip rfl rfl rfl rfl rfl rfl rfl ?_
    refine RX.skip rfl rfl rfl rfl rfl rfl rfl ?_
    refine RX.skip rfl rfl rfl rfl rfl rfl rfl ?_
    refine RX.skip rfl rfl rfl rfl rfl rfl rfl ?_
    refine RX.skip rfl rfl rfl rfl rfl rfl rfl ?_
    refine RX.cons rfl rfl (op_w (yw_pickT rfl rfl rfl) rfl rfl ?_)
    refine RX.nil (XX.next (V' := [(2, .pointer (some ⟨ga, 0, none⟩)), (3, .pointer (some ⟨gb, 0, none⟩)), (26, .bool true)]) ⟨rfl, rfl, rfl, trivial⟩ ?_)
    refine CX.condT rfl ?_
    refine CX.seq ?_
    refine CX.region ?_
    refine RX.cons rfl rfl (op_w (yw_assign rfl rfl) rfl rfl ?_)
    refine RX.nil (XX.next (V' := [(4, .bool false)]) ⟨rfl, trivial⟩ ?_)
    refine CX.ret ?_
    refine XX.then_ret ?_
    exact ret_tmp rfl rfl fun w1 hw => ⟨by rw [decide_eq_false (fun e => d11 (by rw [e]))], hw.sub (List.nil_sublist _)⟩
  · refine RX.consG rfl rfl rfl rfl rfl (op_w (yw_fieldAddr rfl fld_34_1 rfl) rfl rfl ?_)
    refine RX.consG rfl rfl rfl rfl rfl (op_yld (y_load (i := 1) rfl rfl one_3 rfl rfl) rfl rfl ?_)
    refine RX.consG rfl rfl rfl rfl rfl (op_w (yw_fieldAddr rfl fld_34_1 rfl) rfl rfl ?_)
    refine RX.consG rfl rfl rfl rfl rfl (op_yld (y_load (i := 0) rfl rfl one_3 rfl rfl) rfl rfl ?_)
    refine RX.consG rfl rfl rfl rfl rfl (op_w (yw_neq rfl rfl rfl) rfl rfl ?_)
    refine RX.cons rfl rfl (op_w (yw_pickF rfl rfl rfl) rfl rfl ?_)
    refine RX.cons rfl rfl (op_w (yw_move rfl rfl) rfl rfl ?_)
    refine RX.splitD (t := 18) (p := Stm.c a ≠ Stm.c b) rfl (fun d18 => ?_) (fun d18 => ?_)
    · refine RX.skip rfl rfl rfl rfl rfl rfl rfl ?_
      refine RX.skip rfl rfl rfl rfl rfl rfl rfl ?_
      refine RX.skip rfl rfl rfl rfl rfl rfl rfl ?_
      refine RX.skip rfl rfl rfl rfl rfl rfl rfl ?_
      refine RX.skip rfl rfl rfl rfl rfl rfl rfl ?_
      refine RX.skip rfl rfl rfl rfl rfl rfl rfl ?_
      refine RX.skip rfl rfl rfl rfl rfl rfl rfl ?_
      refine RX.cons rfl rfl (op_w (yw_pickT rfl rfl rfl) rfl rfl ?_)
      refine RX.nil (XX.next (V' := [(2, .pointer (some ⟨ga, 0, none⟩)), (3, .pointer (some ⟨gb, 0, none⟩)), (26, .bool true)]) ⟨rfl, rfl, rfl, trivial⟩ ?_)
      refine CX.condT rfl ?_
      refine CX.seq ?_
      refine CX.region ?_
      refine RX.cons rfl rfl (op_w (yw_assign rfl rfl) rfl rfl ?_)
      refine RX.nil (XX.next (V' := [(4, .bool false)]) ⟨rfl, trivial⟩ ?_)
      refine CX.ret ?_
      refine XX.then_ret ?_
      exact ret_tmp rfl rfl fun w1 hw => ⟨by rw [decide_eq_false (fun e => d18 (by rw [e]))], hw.sub (List.nil_sublist _)⟩
    · refine RX.consG rfl rfl rfl rfl rfl (op_w (yw_fieldAddr rfl fld_34_2 rfl) rfl rfl ?_)
      refine RX.consG rfl rfl rfl rfl rfl (op_yld (y_load (i := 1) rfl rfl one_32 rfl rfl) rfl rfl ?_)
      refine RX.consG rfl rfl rfl rfl rfl (op_w (yw_lenS rfl Tryd.underlying32 rfl) rfl rfl ?_)
      refine RX.consG rfl rfl rfl rfl rfl (op_w (yw_fieldAddr rfl fld_34_2 rfl) rfl rfl ?_)
      refine RX.consG rfl rfl rfl rfl rfl (op_yld (y_load (i := 0) rfl rfl one_32 rfl rfl) rfl rfl ?_)
      refine RX.consG rfl rfl rfl rfl rfl (op_w (yw_lenS rfl Tryd.underlying32 rfl) rfl rfl ?_)
      refine RX.consG rfl rfl rfl rfl rfl (op_w (yw_neq rfl rfl rfl) rfl rfl ?_)
      refine RX.cons rfl rfl (op_w (yw_pickF rfl rfl rfl) rfl rfl ?_)
      refine RX.nil (XX.next (V' := [(2, .pointer (some ⟨ga, 0, none⟩)), (3, .pointer (some ⟨gb, 0, none⟩)), (26, .bool (decide (((List.length (Stm.ls a) : Nat) : Int) ≠ ((List.length (Stm.ls b) : Nat) : Int))))]) ⟨rfl, rfl, rfl, trivial⟩ ?_)
      refine CX.condD (p := ((List.length (Stm.ls a) : Nat) : Int) ≠ ((List.length (Stm.ls b) : Nat) : Int)) rfl (fun c26 => ?_) (fun c26 => ?_)
      · refine CX.seq ?_
        refine CX.region ?_
        refine RX.cons rfl rfl (op_w (yw_assign rfl rfl) rfl rfl ?_)
        refine RX.nil (XX.next (V' := [(4, .bool false)]) ⟨rfl, trivial⟩ ?_)
        refine CX.ret ?_
        refine XX.then_ret ?_
        exact ret_tmp rfl rfl fun w1 hw => ⟨by rw [decide_eq_false (fun e => c26 (by rw [e]))], hw.sub (List.nil_sublist _)⟩
      · refine CX.skip (XX.next (V' := [(2, .pointer (some ⟨ga, 0, none⟩)), (3, .pointer (some ⟨gb, 0, none⟩))]) ⟨rfl, rfl, trivial⟩ ?_)
        refine CX.seq ?_
        refine CX.seq ?_
        refine CX.region ?_
        refine RX.cons rfl rfl (op_w (yw_assign rfl rfl) rfl rfl ?_)
        refine RX.nil (XX.next (V' := [(2, .pointer (some ⟨ga, 0, none⟩)), (3, .pointer (some ⟨gb, 0, none⟩)), (5, .int .i64 0)]) ⟨rfl, rfl, rfl, trivial⟩ ?_)
        refine CX.block ?_
        have hlen : a.ls.length = b.ls.length := by omega
        refine CX.loop (σ := Nat) (fun i => [(2, .pointer (some ⟨ga, 0, none⟩)), (3, .pointer (some ⟨gb, 0, none⟩)), (5, .int .i64 ((i : Nat) : Int))]) (fun i => [.blk gb (.cells (#[.int .i64 (Stm.h b), .int .i64 (Stm.c b), .slice B (List.length (Stm.ls b)) cb]) 34 (0, 0)), .blk ga (.cells (#[.int .i64 (Stm.h a), .int .i64 (Stm.c a), .slice A (List.length (Stm.ls a)) ca]) 34 (0, 0))]) (fun i => i ≤ a.ls.length ∧ a.ls.take i = b.ls.take i) (fun i => a.ls.length - i) 0 ⟨Nat.zero_le _, by simp⟩ ⟨rfl, rfl, rfl, trivial⟩ rfl (fun i hI => ?_)
        obtain ⟨hi, hf⟩ := hI
        refine CX.seq ?_
        refine CX.seq ?_
        refine CX.region ?_
        refine RX.cons rfl rfl (op_w (yw_move rfl rfl) rfl rfl ?_)
        refine RX.cons rfl rfl (op_w (yw_fieldAddr rfl fld_34_2 rfl) rfl rfl ?_)
        refine RX.cons rfl rfl (op_yld (y_load (i := 1) rfl rfl one_32 rfl rfl) rfl rfl ?_)
        refine RX.cons rfl rfl (op_w (yw_lenS rfl Tryd.underlying32 rfl) rfl rfl ?_)
        refine RX.cons rfl rfl (op_w (yw_lss rfl rfl rfl) rfl rfl ?_)
        refine RX.nil (XX.next (V' := [(2, .pointer (some ⟨ga, 0, none⟩)), (3, .pointer (some ⟨gb, 0, none⟩)), (5, .int .i64 ((i : Nat) : Int)), (31, .bool (decide (((i : Nat) : Int) < ((List.length (Stm.ls a) : Nat) : Int))))]) ⟨rfl, rfl, rfl, rfl, trivial⟩ ?_)
        refine CX.condD (p := ((i : Nat) : Int) < ((List.length (Stm.ls a) : Nat) : Int)) rfl (fun c31 => ?_) (fun c31 => ?_)
        · obtain ⟨x, ha⟩ := get_some (l := a.ls) (k := i) (by omega)
          obtain ⟨y, hb⟩ := get_some (l := b.ls) (k := i) (by omega)
          have hA : ∃ b j, A = some ⟨b, j, none⟩ := hra.some (k := i) (by simp; omega)
          have hB : ∃ b j, B = some ⟨b, j, none⟩ := hrb.some (k := i) (by simp; omega)
          refine CX.skip (XX.next (V' := [(2, .pointer (some ⟨ga, 0, none⟩)), (3, .pointer (some ⟨gb, 0, none⟩)), (5, .int .i64 ((i : Nat) : Int))]) ⟨rfl, rfl, rfl, trivial⟩ ?_)
          refine CX.seq ?_
          refine CX.block ?_
          refine CX.seq ?_
          refine CX.draw 11 [(0, 4, 17179869184), (1, 17179869184, 34359738368), (0, 32, 68719476736), (6, 103079215104, 137438953472), (8, 137438953472, 274877906944), (0, 8, 549755813888), (32, 549755813888, 1099511627776), (0, 32, 2199023255552), (192, 3298534883328, 4398046511104), (256, 4398046511104, 8796093022208), (528, 9070970929152, 17592186044416)] (by kernel_rfl) (by kernel_rfl) (by kernel_rfl) ?_
          refine DX.takeW 0 1 (by kernel_rfl) rfl rfl rfl rfl rfl (yw_fieldAddr rfl fld_34_2 rfl) ?_
          refine DX.take 1 3 (by kernel_rfl) rfl rfl rfl rfl rfl (List.Sublist.refl _) (y_load (i := 1) rfl rfl one_32 rfl rfl) ?_
          refine DX.takeW 2 7 (by kernel_rfl) rfl rfl rfl rfl rfl (yw_move rfl rfl) ?_
          refine DX.takeW 3 15 (by kernel_rfl) rfl rfl rfl rfl rfl (yw_index (k := i) rfl slt_32 rfl rfl (by omega) (by omega) hA) ?_
          refine DX.take 4 31 (by kernel_rfl) rfl rfl rfl rfl rfl (List.Sublist.refl _) (y_elem rfl rfl agg_57 hra (by simp) (map_get ha)) ?_
          refine DX.takeW 5 63 (by kernel_rfl) rfl rfl rfl rfl rfl (yw_fieldAddr rfl fld_34_2 rfl) ?_
          refine DX.take 6 127 (by kernel_rfl) rfl rfl rfl rfl rfl (List.Sublist.refl _) (y_load (i := 0) rfl rfl one_32 rfl rfl) ?_
          refine DX.takeW 7 255 (by kernel_rfl) rfl rfl rfl rfl rfl (yw_move rfl rfl) ?_
          refine DX.takeW 8 511 (by kernel_rfl) rfl rfl rfl rfl rfl (yw_index (k := i) rfl slt_32 rfl rfl (by omega) (by omega) hB) ?_
          refine DX.take 9 1023 (by kernel_rfl) rfl rfl rfl rfl rfl (List.Sublist.refl _) (y_elem rfl rfl agg_57 hrb (by simp) (map_get hb)) ?_
          refine DX.takeW 10 2047 (by kernel_rfl) rfl rfl rfl rfl rfl (yw_neqAgg (b := Ln.same x y) rfl rfl rfl eqg_57 (fun w => eq_ln x y w)) ?_
          refine DX.done (by kernel_rfl) (XX.next (V' := [(2, .pointer (some ⟨ga, 0, none⟩)), (3, .pointer (some ⟨gb, 0, none⟩)), (5, .int .i64 ((i : Nat) : Int)), (44, .bool (!(Ln.same x y)))]) ⟨rfl, rfl, rfl, rfl, trivial⟩ ?_)
          refine CX.cond (b := !(Ln.same x y)) rfl (fun c44 => ?_) (fun c44 => ?_)
          · refine CX.seq ?_
            refine CX.region ?_
            refine RX.cons rfl rfl (op_w (yw_assign rfl rfl) rfl rfl ?_)
            refine RX.nil (XX.next (V' := [(4, .bool false)]) ⟨rfl, trivial⟩ ?_)
            refine CX.ret ?_
            refine XX.block_ret ?_
            refine XX.then_ret ?_
            refine XX.then_ret ?_
            refine XX.block_ret ?_
            refine XX.then_ret ?_
            exact ret_tmp rfl rfl fun w1 hw => ⟨by rw [decide_eq_false (fun e => differ_at ha hb (fun e => by rw [(Ln.same_iff x y).2 e] at c44; simp at c44) (by rw [e]))], hw.sub (List.nil_sublist _)⟩
          · refine CX.skip (XX.inBlock (V' := [(2, .pointer (some ⟨ga, 0, none⟩)), (3, .pointer (some ⟨gb, 0, none⟩)), (5, .int .i64 ((i : Nat) : Int))]) ⟨rfl, rfl, rfl, trivial⟩ ?_)
            refine XX.next (V' := [(2, .pointer (some ⟨ga, 0, none⟩)), (3, .pointer (some ⟨gb, 0, none⟩)), (5, .int .i64 ((i : Nat) : Int))]) ⟨rfl, rfl, rfl, trivial⟩ ?_
            refine CX.region ?_
            refine RX.cons rfl rfl (op_w (yw_move rfl rfl) rfl rfl ?_)
            refine RX.cons rfl rfl (op_w (yw_add rfl rfl rfl (by omega) (by omega)) rfl rfl ?_)
            refine RX.cons rfl rfl (op_w (yw_assign rfl rfl) rfl rfl ?_)
            refine RX.nil (XX.againP ([]) (i + 1) (by omega) ⟨by omega, same_upto hf ha hb ((Ln.same_iff x y).1 (by simpa using c44))⟩ ⟨rfl, rfl, rfl, trivial⟩ ((perm_pick 0 rfl).trans (List.Perm.cons _ ((perm_pick 0 rfl).trans (List.Perm.cons _ (List.Perm.refl _))))))
        · refine CX.exit ?_
          refine XX.then_exit ?_
          refine XX.then_exit ?_
          refine XX.block_exit ?_
          refine XX.next (V' := []) trivial ?_
          refine CX.seq ?_
          refine CX.region ?_
          refine RX.cons rfl rfl (op_w (yw_assign rfl rfl) rfl rfl ?_)
          refine RX.nil (XX.next (V' := [(4, .bool true)]) ⟨rfl, trivial⟩ ?_)
          refine CX.ret ?_
          exact ret_tmp rfl rfl fun w1 hw => ⟨by rw [decide_eq_true (by rw [List.take_of_length_le (by omega), List.take_of_length_le (by omega)] at hf; obtain ⟨ah, ac, al⟩ := a; obtain ⟨bh, bc, bl⟩ := b; simp only at *; simp [Decidable.not_not.1 d11, Decidable.not_not.1 d18, hf])], hw.sub (List.nil_sublist _)⟩

end Go.Proofs.YtnadipjlhlbfoaaDoor
namespace Go.Proofs.YtnadipjlhlbfoaaDoor
set_option linter.all false
open Go Go.RowKit
set_option maxRecDepth 100000
theorem ent_17 : ∀ args w, (callFunc 17 args).run Tryd.prog w = .ok (.enter 17 args) w := enters_of Tryd.func17 (by kernel_rfl) rfl
theorem ent_65 : ∀ args w, (callFunc 65 args).run Tryd.prog w = .ok (.enter 65 args) w := enters_of Tryd.func65 (by kernel_rfl) rfl
set_option maxRecDepth 100000 in
theorem w_sameList {w : World} {A B : Option Addr} {ca cb : Nat} (X Y : List SX) (hrX : Rd w A 3 (X.map stC)) (hX : ∀ x ∈ X, Rd w x.1.1 3 (x.2.ls.map lnC)) (hrY : Rd w B 3 (Y.map stC)) (hY : ∀ x ∈ Y, Rd w x.1.1 3 (x.2.ls.map lnC)) (hXl : ∀ x ∈ X, x.2.ls.length ≤ 1000000) (hl : X.length ≤ 1000000) :
    Calls Tryd.prog 13 #[.slice A X.length ca, .slice B Y.length cb] w (fun e w' => e = .returned (.bool (decide (X.map (fun x : SX => x.2) = Y.map (fun x : SX => x.2)))) ∧ SL w [] w' []) := by
  refine calls_of_CX (O := []) (L := []) (args := [.slice A X.length ca, .slice B Y.length cb]) Tryd.func13 rfl (by simp [Tryd.ntmps13]) (SL.refl w) ?_
  refine CX.sub (V' := [(0, .slice A X.length ca), (1, .slice B Y.length cb)]) ⟨rfl, rfl, trivial⟩ ?_
  refine CX.seq ?_
  refine CX.region ?_
  refine RX.cons rfl rfl (op_w (yw_assign rfl rfl) rfl rfl ?_)
  refine RX.nil (XX.next (V' := [(0, .slice A X.length ca), (1, .slice B Y.length cb)]) ⟨rfl, rfl, trivial⟩ ?_)
  refine CX.seq ?_
  refine CX.seq ?_
  refine CX.region ?_
  refine RX.cons rfl rfl (op_w (yw_move rfl rfl) rfl rfl ?_)
  refine RX.cons rfl rfl (op_w (yw_lenS rfl Tryd.underlying22 rfl) rfl rfl ?_)
  refine RX.cons rfl rfl (op_w (yw_move rfl rfl) rfl rfl ?_)
  refine RX.cons rfl rfl (op_w (yw_lenS rfl Tryd.underlying22 rfl) rfl rfl ?_)
  refine RX.cons rfl rfl (op_w (yw_neq rfl rfl rfl) rfl rfl ?_)
  refine RX.nil (XX.next (V' := [(0, .slice A X.length ca), (1, .slice B Y.length cb), (10, .bool (decide (((X.length : Nat) : Int) ≠ ((Y.length : Nat) : Int))))]) ⟨rfl, rfl, rfl, trivial⟩ ?_)
  refine CX.condD (p := ((X.length : Nat) : Int) ≠ ((Y.length : Nat) : Int)) rfl (fun c10 => ?_) (fun c10 => ?_)
  · refine CX.seq ?_
    refine CX.region ?_
    refine RX.cons rfl rfl (op_w (yw_assign rfl rfl) rfl rfl ?_)
    refine RX.nil (XX.next (V' := [(4, .bool false)]) ⟨rfl, trivial⟩ ?_)
    refine CX.ret ?_
    refine XX.then_ret ?_
    exact ret_tmp rfl rfl fun w1 hw => ⟨by rw [decide_eq_false (fun e => c10 (by have := congrArg List.length e; simp at this; omega))], hw.sub (List.nil_sublist _)⟩
  · refine CX.skip (XX.next (V' := [(0, .slice A X.length ca), (1, .slice B Y.length cb)]) ⟨rfl, rfl, trivial⟩ ?_)
    refine CX.seq ?_
    refine CX.seq ?_
    refine CX.region ?_
    refine RX.cons rfl rfl (op_w (yw_assign rfl rfl) rfl rfl ?_)
    refine RX.nil (XX.next (V' := [(0, .slice A X.length ca), (1, .slice B Y.length cb), (5, .int .i64 0)]) ⟨rfl, rfl, rfl, trivial⟩ ?_)
    refine CX.block ?_
    have hlen : X.length = Y.length := by omega
    refine CX.loop (σ := Nat) (fun i => [(0, .slice A X.length ca), (1, .slice B Y.length cb), (5, .int .i64 ((i : Nat) : Int))]) (fun i => []) (fun i => i ≤ X.length ∧ (X.map (fun x : SX => x.2)).take i = (Y.map (fun x : SX => x.2)).take i) (fun i => X.length - i) 0 ⟨Nat.zero_le _, by simp⟩ ⟨rfl, rfl, rfl, trivial⟩ rfl (fun i hI => ?_)
    obtain ⟨hi, hf⟩ := hI
    refine CX.seq ?_
    refine CX.seq ?_
    refine CX.region ?_
    refine RX.cons rfl rfl (op_w (yw_move rfl rfl) rfl rfl ?_)
    refine RX.cons rfl rfl (op_w (yw_move rfl rfl) rfl rfl ?_)
    refine RX.cons rfl rfl (op_w (yw_lenS rfl Tryd.underlying22 rfl) rfl rfl ?_)
    refine RX.cons rfl rfl (op_w (yw_lss rfl rfl rfl) rfl rfl ?_)
    refine RX.nil (XX.next (V' := [(0, .slice A X.length ca), (1, .slice B Y.length cb), (5, .int .i64 ((i : Nat) : Int)), (14, .bool (decide (((i : Nat) : Int) < ((X.length : Nat) : Int))))]) ⟨rfl, rfl, rfl, rfl, trivial⟩ ?_)
    refine CX.condD (p := ((i : Nat) : Int) < ((X.length : Nat) : Int)) rfl (fun c14 => ?_) (fun c14 => ?_)
    · obtain ⟨x0, ha⟩ := get_some (l := X) (k := i) (by omega)
      obtain ⟨y0, hb⟩ := get_some (l := Y) (k := i) (by omega)
      have hA : ∃ b j, A = some ⟨b, j, none⟩ := hrX.some (k := i) (by simp; omega)
      have hB : ∃ b j, B = some ⟨b, j, none⟩ := hrY.some (k := i) (by simp; omega)
      have hx0m := List.mem_of_getElem? ha
      have hy0m := List.mem_of_getElem? hb
      refine CX.skip (XX.next (V' := [(0, .slice A X.length ca), (1, .slice B Y.length cb), (5, .int .i64 ((i : Nat) : Int))]) ⟨rfl, rfl, rfl, trivial⟩ ?_)
      refine CX.seq ?_
      refine CX.block ?_
      refine CX.seq ?_
      refine CX.draw 10 [(0, 1, 131072), (0, 32, 262144), (3, 393216, 524288), (4, 524288, 1048576), (0, 2, 2097152), (0, 32, 4194304), (48, 6291456, 8388608), (64, 8388608, 16777216), (136, 17825792, 33554432), (256, 33554432, 67108864)] (by kernel_rfl) (by kernel_rfl) (by kernel_rfl) ?_
      refine DX.takeW 0 1 (by kernel_rfl) rfl rfl rfl rfl rfl (yw_move rfl rfl) ?_
      refine DX.takeW 1 3 (by kernel_rfl) rfl rfl rfl rfl rfl (yw_move rfl rfl) ?_
      refine DX.takeW 2 7 (by kernel_rfl) rfl rfl rfl rfl rfl (yw_index (k := i) rfl slt_22 rfl rfl (by omega) (by omega) hA) ?_
      refine DX.take 3 15 (by kernel_rfl) rfl rfl rfl rfl rfl (List.nil_sublist _) (y_elem rfl rfl agg_34 hrX (by simp) (map_get ha)) ?_
      refine DX.takeW 4 31 (by kernel_rfl) rfl rfl rfl rfl rfl (yw_move rfl rfl) ?_
      refine DX.takeW 5 63 (by kernel_rfl) rfl rfl rfl rfl rfl (yw_move rfl rfl) ?_
      refine DX.takeW 6 127 (by kernel_rfl) rfl rfl rfl rfl rfl (yw_index (k := i) rfl slt_22 rfl rfl (by omega) (by omega) hB) ?_
      refine DX.take 7 255 (by kernel_rfl) rfl rfl rfl rfl rfl (List.nil_sublist _) (y_elem rfl rfl agg_34 hrY (by simp) (map_get hb)) ?_
      refine DX.step 8 511 (by kernel_rfl) rfl rfl rfl (op_callV (v := .bool (decide (x0.2 = y0.2))) rfl rfl rfl rfl rfl ent_17 (fun w hw => w_same x0.2 y0.2 (hw.rd (hX x0 hx0m) (by simp)) (hw.rd (hY y0 hy0m) (by simp)) (hXl x0 hx0m)) (DXs.mk (List.nil_sublist _) ?_))
      refine DX.takeW 9 1023 (by kernel_rfl) rfl rfl rfl rfl rfl (yw_notD rfl rfl) ?_
      refine DX.done (by kernel_rfl) (XX.next (V' := [(0, .slice A X.length ca), (1, .slice B Y.length cb), (5, .int .i64 ((i : Nat) : Int)), (26, .bool (decide (¬ (x0.2 = y0.2))))]) ⟨rfl, rfl, rfl, rfl, trivial⟩ ?_)
      refine CX.condD (p := ¬ (x0.2 = y0.2)) rfl (fun c26 => ?_) (fun c26 => ?_)
      · refine CX.seq ?_
        refine CX.region ?_
        refine RX.cons rfl rfl (op_w (yw_assign rfl rfl) rfl rfl ?_)
        refine RX.nil (XX.next (V' := [(4, .bool false)]) ⟨rfl, trivial⟩ ?_)
        refine CX.ret ?_
        refine XX.block_ret ?_
        refine XX.then_ret ?_
        refine XX.then_ret ?_
        refine XX.block_ret ?_
        refine XX.then_ret ?_
        exact ret_tmp rfl rfl fun w1 hw => ⟨by rw [decide_eq_false (differ_at (map_get (f := fun x : SX => x.2) ha) (map_get (f := fun x : SX => x.2) hb) c26)], hw.sub (List.nil_sublist _)⟩
      · refine CX.skip (XX.inBlock (V' := [(0, .slice A X.length ca), (1, .slice B Y.length cb), (5, .int .i64 ((i : Nat) : Int))]) ⟨rfl, rfl, rfl, trivial⟩ ?_)
        refine XX.next (V' := [(0, .slice A X.length ca), (1, .slice B Y.length cb), (5, .int .i64 ((i : Nat) : Int))]) ⟨rfl, rfl, rfl, trivial⟩ ?_
        refine CX.region ?_
        refine RX.cons rfl rfl (op_w (yw_move rfl rfl) rfl rfl ?_)
        refine RX.cons rfl rfl (op_w (yw_add rfl rfl rfl (by omega) (by omega)) rfl rfl ?_)
        refine RX.cons rfl rfl (op_w (yw_assign rfl rfl) rfl rfl ?_)
        refine RX.nil (XX.againP ([]) (i + 1) (by omega) ⟨by omega, same_upto hf (map_get (f := fun x : SX => x.2) ha) (map_get (f := fun x : SX => x.2) hb) (Decidable.not_not.1 c26)⟩ ⟨rfl, rfl, rfl, trivial⟩ (List.Perm.refl _))
    · refine CX.exit ?_
      refine XX.then_exit ?_
      refine XX.then_exit ?_
      refine XX.block_exit ?_
      refine XX.next (V' := []) trivial ?_
      refine CX.seq ?_
      refine CX.region ?_
      refine RX.cons rfl rfl (op_w (yw_assign rfl rfl) rfl rfl ?_)
      refine RX.nil (XX.next (V' := [(4, .bool true)]) ⟨rfl, trivial⟩ ?_)
      refine CX.ret ?_
      exact ret_tmp rfl rfl fun w1 hw => ⟨by rw [decide_eq_true (by rw [List.take_of_length_le (by simp; omega), List.take_of_length_le (by simp; omega)] at hf; exact hf)], hw.sub (List.nil_sublist _)⟩

set_option maxRecDepth 100000 in
theorem w_zig {w : World} (n : Nat) (hn : n ≤ 4611686018427387903) :
    Calls Tryd.prog 65 #[.int .i64 ((n : Nat) : Int)] w (fun e w' => e = .returned (.int .u64 ((2 * n : Nat) : Int)) ∧ SL w [] w' []) := by
  refine calls_of_CX (O := []) (L := []) (args := [.int .i64 ((n : Nat) : Int)]) Tryd.func65 rfl (by simp [Tryd.ntmps65]) (SL.refl w) ?_
  refine CX.sub (V' := [(0, .int .i64 ((n : Nat) : Int))]) ⟨rfl, trivial⟩ ?_
  refine CX.seq ?_
  refine CX.region ?_
  refine RX.cons rfl rfl (op_w (yw_assign rfl rfl) rfl rfl ?_)
  refine RX.nil (XX.next (V' := [(0, .int .i64 ((n : Nat) : Int))]) ⟨rfl, trivial⟩ ?_)
  refine CX.seq ?_
  refine CX.seq ?_
  refine CX.region ?_
  refine RX.cons rfl rfl (op_w (yw_move rfl rfl) rfl rfl ?_)
  refine RX.cons rfl rfl (op_w (yw_lss rfl rfl rfl) rfl rfl ?_)
  refine RX.nil (XX.next (V' := [(0, .int .i64 ((n : Nat) : Int)), (4, .bool (decide (((n : Nat) : Int) < 0)))]) ⟨rfl, rfl, trivial⟩ ?_)
  refine CX.condD (p := ((n : Nat) : Int) < 0) rfl (fun c4 => ?_) (fun c4 => ?_)
  · exfalso; omega
  · refine CX.skip (XX.next (V' := [(0, .int .i64 ((n : Nat) : Int))]) ⟨rfl, trivial⟩ ?_)
    refine CX.seq ?_
    refine CX.region ?_
    refine RX.cons rfl rfl (op_w (yw_move rfl rfl) rfl rfl ?_)
    refine RX.cons rfl rfl (op_w (yw_bvOf UK.u64 rfl rfl Tryd.underlying3 Tryd.underlying100) rfl rfl ?_)
    refine RX.cons rfl rfl (op_w (yw_bvMul (a := BitVec.ofInt 64 ((n : Nat) : Int)) (b := 2#64) UK.u64 rfl rfl rfl) rfl rfl ?_)
    refine RX.cons rfl rfl (op_w (yw_assign rfl rfl) rfl rfl ?_)
    refine RX.nil (XX.next (V' := [(2, .int .u64 (wi ((BitVec.ofInt 64 ((n : Nat) : Int)) * (2#64))))]) ⟨rfl, trivial⟩ ?_)
    refine CX.ret ?_
    exact ret_tmp rfl rfl fun w1 hw => ⟨congrArg (fun z => Ending.returned (Value.int .u64 z)) (zigzag_ref hn), hw.sub (List.nil_sublist _)⟩

set_option maxRecDepth 100000 in
theorem w_putInt01 {w : World} (n : Nat) (hn : n ≤ 4611686018427387903) :
    Calls Tryd.prog 39 #[.int .i64 ((n : Nat) : Int)] w (fun e w' => e = .returned (.tuple #[.string (⟨(encI n).toArray⟩), .int .i64 0]) ∧ SL w [] w' []) := by
  refine calls_of_CX (O := []) (L := []) (args := [.int .i64 ((n : Nat) : Int)]) Tryd.func39 rfl (by simp [Tryd.ntmps39]) (SL.refl w) ?_
  refine CX.sub (V' := [(0, .int .i64 ((n : Nat) : Int))]) ⟨rfl, trivial⟩ ?_
  refine CX.seq ?_
  refine CX.region ?_
  refine RX.cons rfl rfl (op_w (yw_assign rfl rfl) rfl rfl ?_)
  refine RX.cons rfl rfl (op_w (yw_assign rfl rfl) rfl rfl ?_)
  refine RX.nil (XX.next (V' := [(0, .int .i64 ((n : Nat) : Int))]) ⟨rfl, trivial⟩ ?_)
  refine CX.seq ?_
  refine CX.seq ?_
  refine CX.region ?_
  refine RX.cons rfl rfl (op_w (yw_move rfl rfl) rfl rfl ?_)
  refine RX.cons rfl rfl (op_w (yw_lss rfl rfl rfl) rfl rfl ?_)
  refine RX.cons rfl rfl (op_w (yw_move rfl rfl) rfl rfl ?_)
  refine RX.splitD (t := 8) (p := ((n : Nat) : Int) < (-4611686018427387903)) rfl (fun d8 => ?_) (fun d8 => ?_)
  · exfalso; omega
  · refine RX.consG rfl rfl rfl rfl rfl (op_w (yw_move rfl rfl) rfl rfl ?_)
    refine RX.consG rfl rfl rfl rfl rfl (op_w (yw_gtr rfl rfl rfl) rfl rfl ?_)
    refine RX.cons rfl rfl (op_w (yw_pickF rfl rfl rfl) rfl rfl ?_)
    refine RX.nil (XX.next (V' := [(0, .int .i64 ((n : Nat) : Int)), (11, .bool (decide (4611686018427387903 < ((n : Nat) : Int))))]) ⟨rfl, rfl, trivial⟩ ?_)
    refine CX.condD (p := 4611686018427387903 < ((n : Nat) : Int)) rfl (fun c11 => ?_) (fun c11 => ?_)
    · exfalso; omega
    · refine CX.skip (XX.next (V' := [(0, .int .i64 ((n : Nat) : Int))]) ⟨rfl, trivial⟩ ?_)
      refine CX.seq ?_
      refine CX.region ?_
      refine RX.cons rfl rfl (op_w (yw_move rfl rfl) rfl rfl ?_)
      refine RX.cons rfl rfl (op_callV (v := .int .u64 ((2 * n : Nat) : Int)) rfl rfl rfl rfl rfl ent_65 (fun w hw => w_zig n hn) ?_)
      refine RX.cons rfl rfl (op_w (yw_assign rfl rfl) rfl rfl ?_)
      refine RX.nil (XX.next (V' := [(4, .int .u64 ((2 * n : Nat) : Int))]) ⟨rfl, trivial⟩ ?_)
      refine CX.seq ?_
      refine CX.region ?_
      refine RX.cons rfl rfl (op_w (yw_assign rfl rfl) rfl rfl ?_)
      refine RX.nil (XX.next (V' := [(4, .int .u64 ((2 * n : Nat) : Int)), (5, .slice none 0 0)]) ⟨rfl, rfl, trivial⟩ ?_)
      refine CX.seq ?_
      refine CX.block ?_
      refine CX.rowNil 5 1 ?_
      refine CX.loop (σ := Nat × Nat × (Option Addr × Nat) × List UInt8) (fun z => [(4, .int .u64 ((z.2.1 : Nat) : Int)), (5, .slice z.2.2.1.1 (List.length (z.2.2.2 : List UInt8)) z.2.2.1.2)]) (fun z => [.row z.2.2.1.1 z.2.2.1.2 5 1 (List.map u8c z.2.2.2)]) (fun z => z.1 + 1 + z.2.2.2.length = 10 ∧ z.2.1 < 2 ^ (7 * (z.1 + 1)) ∧ z.2.1 < 2 ^ 64 ∧ z.2.2.2 ++ (putW (z.1 + 1) (BitVec.ofNat 64 z.2.1)).map grpB = encI n) (fun z => z.1) (9, 2 * n, (none, 0), []) ⟨rfl, by dsimp only; omega, by dsimp only; omega, rfl⟩ ⟨rfl, rfl, trivial⟩ rfl (fun z hI => ?_)
      obtain ⟨f, m, ⟨A1, c1⟩, bs⟩ := z
      dsimp only at hI ⊢
      obtain ⟨hf, hm, hm64, hp⟩ := hI
      refine CX.seq ?_
      refine CX.seq ?_
      refine CX.region ?_
      refine RX.cons rfl rfl (op_w (yw_move rfl rfl) rfl rfl ?_)
      refine RX.cons rfl rfl (op_w (yw_geq rfl rfl rfl) rfl rfl ?_)
      refine RX.nil (XX.next (V' := [(4, .int .u64 ((m : Nat) : Int)), (5, .slice A1 (List.length (bs : List UInt8)) c1), (15, .bool (decide (128 ≤ ((m : Nat) : Int))))]) ⟨rfl, rfl, rfl, trivial⟩ ?_)
      refine CX.condD (p := 128 ≤ ((m : Nat) : Int)) rfl (fun c15 => ?_) (fun c15 => ?_)
      · have hf1 : f - 1 + 1 = f := by
          rcases f with _ | f
          · have : m < 128 := hm
            omega
          · rfl
        refine CX.skip (XX.next (V' := [(4, .int .u64 ((m : Nat) : Int)), (5, .slice A1 (List.length (bs : List UInt8)) c1)]) ⟨rfl, rfl, trivial⟩ ?_)
        refine CX.block ?_
        refine CX.seq ?_
        refine CX.region ?_
        refine RX.cons rfl rfl (op_w (yw_move rfl rfl) rfl rfl ?_)
        refine RX.cons rfl rfl (op_w (yw_move rfl rfl) rfl rfl ?_)
        refine RX.cons rfl rfl (op_w (yw_rem rfl rfl rfl (by omega) (by omega)) rfl rfl ?_)
        refine RX.cons rfl rfl (op_w (yw_addw rfl rfl rfl) rfl rfl ?_)
        refine RX.cons rfl rfl (op_w (yw_bvOf UK.u8 rfl rfl Tryd.underlying100 Tryd.underlying5) rfl rfl ?_)
        refine RX.cons rfl rfl (op_buildSlice rfl rfl rfl slb_60 rfl rfl (by intro v hv; simp only [List.mem_cons, List.not_mem_nil, or_false] at hv; subst hv; exact ⟨rfl, (plain_of rfl)⟩) (by decide) fun g9 => ?_)
        refine RX.cons rfl rfl (op_appendM u8c (i := 1) (j := 0) (xs := bs) ([UInt8.ofBitVec (BitVec.ofInt 8 (IntKind.u64.wrap (((m : Nat) : Int) % 128 + 128)))]) rfl rfl rfl slb_60 rfl rfl rfl rfl rfl rfl (by simp only [List.length_singleton]; omega) (by simp only [List.length_singleton]; omega) fun A2 c2 => ?_)
        refine RX.cons rfl rfl (op_w (yw_assign rfl rfl) rfl rfl ?_)
        refine RX.nil (XX.next (V' := [(4, .int .u64 ((m : Nat) : Int)), (5, .slice A2 ((bs ++ [UInt8.ofBitVec (BitVec.ofInt 8 (IntKind.u64.wrap (((m : Nat) : Int) % 128 + 128)))]).length) c2)]) ⟨rfl, rfl, trivial⟩ ?_)
        refine CX.region ?_
        refine RX.cons rfl rfl (op_w (yw_move rfl rfl) rfl rfl ?_)
        refine RX.cons rfl rfl (op_w (yw_quow rfl rfl rfl (by decide)) rfl rfl ?_)
        refine RX.know (t := 24) (u := .int .u64 ((m / 128 : Nat) : Int)) rfl (congrArg (Value.int .u64) (u64_quo m hm64)) ?_
        refine RX.cons rfl rfl (op_w (yw_assign rfl rfl) rfl rfl ?_)
        refine RX.nil (XX.inBlock (V' := [(4, .int .u64 ((m / 128 : Nat) : Int)), (5, .slice A2 ((bs ++ [UInt8.ofBitVec (BitVec.ofInt 8 (IntKind.u64.wrap (((m : Nat) : Int) % 128 + 128)))]).length) c2)]) ⟨rfl, rfl, trivial⟩ ?_)
        refine XX.againP ([.row (some ⟨g9, 0, none⟩) 1 5 1 (List.map u8c ([UInt8.ofBitVec (BitVec.ofInt 8 (IntKind.u64.wrap (((m : Nat) : Int) % 128 + 128)))]))]) (f - 1, m / 128, (A2, c2), bs ++ [UInt8.ofBitVec (BitVec.ofInt 8 (IntKind.u64.wrap (((m : Nat) : Int) % 128 + 128)))]) (by dsimp only; omega) ⟨by dsimp only; rw [List.length_append]; simp only [List.length_singleton]; omega, by dsimp only; rw [hf1]; exact grp_lt hm, by dsimp only; omega, by dsimp only; rw [← hp, hf1, put_ref_more hm64 (by omega), List.append_assoc]; rfl⟩ ⟨rfl, rfl, trivial⟩ ((perm_pick 1 rfl).trans (List.Perm.cons _ (List.Perm.refl _)))
      · refine CX.exit ?_
        refine XX.then_exit ?_
        refine XX.then_exit ?_
        refine XX.block_exit ?_
        refine XX.next (V' := [(4, .int .u64 ((m : Nat) : Int)), (5, .slice A1 (List.length (bs : List UInt8)) c1)]) ⟨rfl, rfl, trivial⟩ ?_
        refine CX.seq ?_
        rw [put_ref_last (by omega)] at hp
        refine CX.region ?_
        refine RX.cons rfl rfl (op_w (yw_move rfl rfl) rfl rfl ?_)
        refine RX.cons rfl rfl (op_w (yw_move rfl rfl) rfl rfl ?_)
        refine RX.cons rfl rfl (op_w (yw_bvOf UK.u8 rfl rfl Tryd.underlying100 Tryd.underlying5) rfl rfl ?_)
        refine RX.cons rfl rfl (op_buildSlice rfl rfl rfl slb_60 rfl rfl (by intro v hv; simp only [List.mem_cons, List.not_mem_nil, or_false] at hv; subst hv; exact ⟨rfl, (plain_of rfl)⟩) (by decide) fun g9 => ?_)
        refine RX.cons rfl rfl (op_appendM u8c (i := 1) (j := 0) (xs := bs) ([UInt8.ofBitVec (BitVec.ofInt 8 ((m : Nat) : Int))]) rfl rfl rfl slb_60 rfl rfl rfl rfl rfl rfl (by simp only [List.length_singleton]; omega) (by simp only [List.length_singleton]; omega) fun A3 c3 => ?_)
        refine RX.cons rfl rfl (op_yld (y_bytesRow (i := 1) (l := (bs ++ [UInt8.ofBitVec (BitVec.ofInt 8 ((m : Nat) : Int))])) rfl rfl Tryd.underlying60 Tryd.underlying5 Tryd.underlying9 rfl (by simp)) rfl rfl ?_)
        refine RX.cons rfl rfl (op_w (yw_assign rfl rfl) rfl rfl ?_)
        refine RX.cons rfl rfl (op_w (yw_assign rfl rfl) rfl rfl ?_)
        refine RX.nil (XX.next (V' := [(2, .string (⟨List.toArray (bs ++ [UInt8.ofBitVec (BitVec.ofInt 8 ((m : Nat) : Int))])⟩)), (3, .int .i64 0)]) ⟨rfl, rfl, trivial⟩ ?_)
        refine CX.ret ?_
        exact ret_tmp2 rfl rfl rfl fun w1 hw => ⟨by rw [← hp], hw.sub (List.nil_sublist _)⟩

end Go.Proofs.YtnadipjlhlbfoaaDoor
namespace Go.Proofs.YtnadipjlhlbfoaaDoor
set_option linter.all false
open Go Go.RowKit
set_option maxRecDepth 100000
theorem ent_64 : ∀ args w, (callFunc 64 args).run Tryd.prog w = .ok (.enter 64 args) w := enters_of Tryd.func64 (by kernel_rfl) rfl
theorem okS_nums {s : Stm} (h : okS s = true) : ∀ n ∈ [s.h, s.c, ((s.ls.length : Nat) : Int)] ++ numsL s.ls, 0 ≤ n ∧ n ≤ 4611686018427387903 := by
  obtain ⟨h0, h1, h2, h3, h4, h5⟩ := okS_parts h
  have hlen := okS_len h
  intro n hn
  rcases List.mem_append.1 hn with hn | hn
  · simp only [List.mem_cons, List.not_mem_nil, or_false] at hn
    rcases hn with rfl | rfl | rfl <;> omega
  · obtain ⟨x, hx, hn⟩ := List.mem_flatMap.1 hn
    have := okL_all h0 x hx
    simp only [List.mem_cons, List.not_mem_nil, or_false] at hn
    rcases hn with rfl | rfl | rfl <;> omega
theorem cat_put {ns : List Int} {i : Nat} {n : Int} (h : ns[i]? = some n) : (⟨(putL (ns.take i)).toArray⟩ : ByteArray) ++ ⟨(encI n.toNat).toArray⟩ = ⟨(putL (ns.take (i + 1))).toArray⟩ := by
  apply ByteArray.ext
  rw [ByteArray.data_append, take_succ h, putL_snoc]
  simp
theorem encL_nums (s : Stm) : encL s = putL ([s.h, s.c, ((s.ls.length : Nat) : Int)] ++ numsL s.ls) := by rw [putL_append]; rfl
set_option maxRecDepth 100000 in
theorem w_money19 {w : World} (n : Int) :
    Calls Tryd.prog 64 #[.int .i64 n] w (fun e w' => e = .returned (.bool (okM n)) ∧ SL w [] w' []) := by
  refine calls_of_CX (O := []) (L := []) (args := [.int .i64 n]) Tryd.func64 rfl (by simp [Tryd.ntmps64]) (SL.refl w) ?_
  refine CX.sub (V' := [(0, .int .i64 n)]) ⟨rfl, trivial⟩ ?_
  refine CX.seq ?_
  refine CX.region ?_
  refine RX.cons rfl rfl (op_w (yw_assign rfl rfl) rfl rfl ?_)
  refine RX.nil (XX.next (V' := [(0, .int .i64 n)]) ⟨rfl, trivial⟩ ?_)
  refine CX.seq ?_
  refine CX.region ?_
  refine RX.cons rfl rfl (op_w (yw_move rfl rfl) rfl rfl ?_)
  refine RX.cons rfl rfl (op_w (yw_geq rfl rfl rfl) rfl rfl ?_)
  refine RX.cons rfl rfl (op_w (yw_move rfl rfl) rfl rfl ?_)
  refine RX.splitD (t := 5) (p := 0 ≤ n) rfl (fun d5 => ?_) (fun d5 => ?_)
  · refine RX.consG rfl rfl rfl rfl rfl (op_w (yw_move rfl rfl) rfl rfl ?_)
    refine RX.consG rfl rfl rfl rfl rfl (op_w (yw_leq rfl rfl rfl) rfl rfl ?_)
    refine RX.cons rfl rfl (op_w (yw_pickT rfl rfl rfl) rfl rfl ?_)
    refine RX.cons rfl rfl (op_w (yw_assign rfl rfl) rfl rfl ?_)
    refine RX.nil (XX.next (V' := [(2, .bool (decide (n ≤ 1000000000000000)))]) ⟨rfl, trivial⟩ ?_)
    refine CX.ret ?_
    exact ret_tmp rfl rfl fun w1 hw => ⟨by unfold okM; rw [decide_eq_decide.2 (show (0 ≤ n ∧ n ≤ 1000000000000000) ↔ n ≤ 1000000000000000 from ⟨fun h => h.2, fun h => ⟨by omega, h⟩⟩)], hw.sub (List.nil_sublist _)⟩
  · refine RX.skip rfl rfl rfl rfl rfl rfl rfl ?_
    refine RX.skip rfl rfl rfl rfl rfl rfl rfl ?_
    refine RX.cons rfl rfl (op_w (yw_pickF rfl rfl rfl) rfl rfl ?_)
    refine RX.cons rfl rfl (op_w (yw_assign rfl rfl) rfl rfl ?_)
    refine RX.nil (XX.next (V' := [(2, .bool false)]) ⟨rfl, trivial⟩ ?_)
    refine CX.ret ?_
    exact ret_tmp rfl rfl fun w1 hw => ⟨by rw [show okM n = false from decide_eq_false (fun h => d5 h.1)], hw.sub (List.nil_sublist _)⟩

set_option maxRecDepth 100000 in
theorem w_valid19 {w : World} {A : Option Addr} {cap : Nat} (s : Stm) (hr : Rd w A 3 (s.ls.map lnC)) (hl : s.ls.length ≤ 1000000) :
    Calls Tryd.prog 38 #[.agg (#[.int .i64 (Stm.h s), .int .i64 (Stm.c s), .slice A (List.length (Stm.ls s)) cap])] w (fun e w' => e = .returned (.bool (okS s)) ∧ SL w [] w' []) := by
  refine calls_of_CX (O := []) (L := []) (args := [.agg (#[.int .i64 (Stm.h s), .int .i64 (Stm.c s), .slice A (List.length (Stm.ls s)) cap])]) Tryd.func38 rfl (by simp [Tryd.ntmps38]) (SL.refl w) ?_
  refine CX.sub (V' := [(0, .agg (#[.int .i64 (Stm.h s), .int .i64 (Stm.c s), .slice A (List.length (Stm.ls s)) cap]))]) ⟨rfl, trivial⟩ ?_
  refine CX.seq ?_
  refine CX.region ?_
  refine RX.cons rfl rfl (op_box rfl rfl rfl rfl fun gs => ?_)
  refine RX.cons rfl rfl (op_w (yw_assign rfl rfl) rfl rfl ?_)
  refine RX.nil (XX.next (V' := [(1, .pointer (some ⟨gs, 0, none⟩))]) ⟨rfl, trivial⟩ ?_)
  refine CX.seq ?_
  refine CX.seq ?_
  refine CX.region ?_
  refine RX.cons rfl rfl (op_w (yw_field0 rfl fld_34_0 rfl) rfl rfl ?_)
  refine RX.cons rfl rfl (op_yld (y_load (i := 0) rfl rfl one_3 rfl rfl) rfl rfl ?_)
  refine RX.cons rfl rfl (op_w (yw_lss rfl rfl rfl) rfl rfl ?_)
  refine RX.cons rfl rfl (op_w (yw_move rfl rfl) rfl rfl ?_)
  refine RX.splitD (t := 8) (p := Stm.h s < 1) rfl (fun d8 => ?_) (fun d8 => ?_)
  · refine RX.skip rfl rfl rfl rfl rfl rfl rfl ?_
    refine RX.skip rfl rfl rfl rfl rfl rfl rfl ?_
    refine RX.skip rfl rfl rfl rfl rfl rfl rfl ?_
    refine RX.cons rfl rfl (op_w (yw_pickT rfl rfl rfl) rfl rfl ?_)
    refine RX.cons rfl rfl (op_w (yw_move rfl rfl) rfl rfl ?_)
    refine RX.skip rfl rfl rfl rfl rfl rfl rfl ?_
    refine RX.skip rfl rfl rfl rfl rfl rfl rfl ?_
    refine RX.skip rfl rfl rfl rfl rfl rfl rfl ?_
    refine RX.cons rfl rfl (op_w (yw_pickT rfl rfl rfl) rfl rfl ?_)
    refine RX.cons rfl rfl (op_w (yw_move rfl rfl) rfl rfl ?_)
    refine RX.skip rfl rfl rfl rfl rfl rfl rfl ?_
    refine RX.skip rfl rfl rfl rfl rfl rfl rfl ?_
    refine RX.skip rfl rfl rfl rfl rfl rfl rfl ?_
    refine RX.cons rfl rfl (op_w (yw_pickT rfl rfl rfl) rfl rfl ?_)
    refine RX.cons rfl rfl (op_w (yw_move rfl rfl) rfl rfl ?_)
    refine RX.skip rfl rfl rfl rfl rfl rfl rfl ?_
    refine RX.skip rfl rfl rfl rfl rfl rfl rfl ?_
    refine RX.skip rfl rfl rfl rfl rfl rfl rfl ?_
    refine RX.skip rfl rfl rfl rfl rfl rfl rfl ?_
    refine RX.cons rfl rfl (op_w (yw_pickT rfl rfl rfl) rfl rfl ?_)
    refine RX.cons rfl rfl (op_w (yw_move rfl rfl) rfl rfl ?_)
    refine RX.skip rfl rfl rfl rfl rfl rfl rfl ?_
    refine RX.skip rfl rfl rfl rfl rfl rfl rfl ?_
    refine RX.skip rfl rfl rfl rfl rfl rfl rfl ?_
    refine RX.skip rfl rfl rfl rfl rfl rfl rfl ?_
    refine RX.cons rfl rfl (op_w (yw_pickT rfl rfl rfl) rfl rfl ?_)
    refine RX.nil (XX.next (V' := [(1, .pointer (some ⟨gs, 0, none⟩)), (34, .bool true)]) ⟨rfl, rfl, trivial⟩ ?_)
    refine CX.condT rfl ?_
    refine CX.seq ?_
    refine CX.region ?_
    refine RX.cons rfl rfl (op_w (yw_assign rfl rfl) rfl rfl ?_)
    refine RX.nil (XX.next (V' := [(2, .bool false)]) ⟨rfl, trivial⟩ ?_)
    refine CX.ret ?_
    refine XX.then_ret ?_
    exact ret_tmp rfl rfl fun w1 hw => ⟨by rw [okS_odd (by omega)], hw.sub (List.nil_sublist _)⟩
  · refine RX.consG rfl rfl rfl rfl rfl (op_w (yw_field0 rfl fld_34_0 rfl) rfl rfl ?_)
    refine RX.consG rfl rfl rfl rfl rfl (op_yld (y_load (i := 0) rfl rfl one_3 rfl rfl) rfl rfl ?_)
    refine RX.consG rfl rfl rfl rfl rfl (op_w (yw_gtr rfl rfl rfl) rfl rfl ?_)
    refine RX.cons rfl rfl (op_w (yw_pickF rfl rfl rfl) rfl rfl ?_)
    refine RX.cons rfl rfl (op_w (yw_move rfl rfl) rfl rfl ?_)
    refine RX.splitD (t := 13) (p := 1000000 < Stm.h s) rfl (fun d13 => ?_) (fun d13 => ?_)
    · refine RX.skip rfl rfl rfl rfl rfl rfl rfl ?_
      refine RX.skip rfl rfl rfl rfl rfl rfl rfl ?_
      refine RX.skip rfl rfl rfl rfl rfl rfl rfl ?_
      refine RX.cons rfl rfl (op_w (yw_pickT rfl rfl rfl) rfl rfl ?_)
      refine RX.cons rfl rfl (op_w (yw_move rfl rfl) rfl rfl ?_)
      refine RX.skip rfl rfl rfl rfl rfl rfl rfl ?_
      refine RX.skip rfl rfl rfl rfl rfl rfl rfl ?_
      refine RX.skip rfl rfl rfl rfl rfl rfl rfl ?_
      refine RX.cons rfl rfl (op_w (yw_pickT rfl rfl rfl) rfl rfl ?_)
      refine RX.cons rfl rfl (op_w (yw_move rfl rfl) rfl rfl ?_)
      refine RX.skip rfl rfl rfl rfl rfl rfl rfl ?_
      refine RX.skip rfl rfl rfl rfl rfl rfl rfl ?_
      refine RX.skip rfl rfl rfl rfl rfl rfl rfl ?_
      refine RX.skip rfl rfl rfl rfl rfl rfl rfl ?_
      refine RX.cons rfl rfl (op_w (yw_pickT rfl rfl rfl) rfl rfl ?_)
      refine RX.cons rfl rfl (op_w (yw_move rfl rfl) rfl rfl ?_)
      refine RX.skip rfl rfl rfl rfl rfl rfl rfl ?_
      refine RX.skip rfl rfl rfl rfl rfl rfl rfl ?_
      refine RX.skip rfl rfl rfl rfl rfl rfl rfl ?_
      refine RX.skip rfl rfl rfl rfl rfl rfl rfl ?_
      refine RX.cons rfl rfl (op_w (yw_pickT rfl rfl rfl) rfl rfl ?_)
      refine RX.nil (XX.next (V' := [(1, .pointer (some ⟨gs, 0, none⟩)), (34, .bool true)]) ⟨rfl, rfl, trivial⟩ ?_)
      refine CX.condT rfl ?_
      refine CX.seq ?_
      refine CX.region ?_
      refine RX.cons rfl rfl (op_w (yw_assign rfl rfl) rfl rfl ?_)
      refine RX.nil (XX.next (V' := [(2, .bool false)]) ⟨rfl, trivial⟩ ?_)
      refine CX.ret ?_
      refine XX.then_ret ?_
      exact ret_tmp rfl rfl fun w1 hw => ⟨by rw [okS_odd (by omega)], hw.sub (List.nil_sublist _)⟩
    · refine RX.consG rfl rfl rfl rfl rfl (op_w (yw_fieldAddr rfl fld_34_1 rfl) rfl rfl ?_)
      refine RX.consG rfl rfl rfl rfl rfl (op_yld (y_load (i := 0) rfl rfl one_3 rfl rfl) rfl rfl ?_)
      refine RX.consG rfl rfl rfl rfl rfl (op_w (yw_lss rfl rfl rfl) rfl rfl ?_)
      refine RX.cons rfl rfl (op_w (yw_pickF rfl rfl rfl) rfl rfl ?_)
      refine RX.cons rfl rfl (op_w (yw_move rfl rfl) rfl rfl ?_)
      refine RX.splitD (t := 18) (p := Stm.c s < 0) rfl (fun d18 => ?_) (fun d18 => ?_)
      · refine RX.skip rfl rfl rfl rfl rfl rfl rfl ?_
        refine RX.skip rfl rfl rfl rfl rfl rfl rfl ?_
        refine RX.skip rfl rfl rfl rfl rfl rfl rfl ?_
        refine RX.cons rfl rfl (op_w (yw_pickT rfl rfl rfl) rfl rfl ?_)
        refine RX.cons rfl rfl (op_w (yw_move rfl rfl) rfl rfl ?_)
        refine RX.skip rfl rfl rfl rfl rfl rfl rfl ?_
        refine RX.skip rfl rfl rfl rfl rfl rfl rfl ?_
        refine RX.skip rfl rfl rfl rfl rfl rfl rfl ?_
        refine RX.skip rfl rfl rfl rfl rfl rfl rfl ?_
        refine RX.cons rfl rfl (op_w (yw_pickT rfl rfl rfl) rfl rfl ?_)
        refine RX.cons rfl rfl (op_w (yw_move rfl rfl) rfl rfl ?_)
        refine RX.skip rfl rfl rfl rfl rfl rfl rfl ?_
        refine RX.skip rfl rfl rfl rfl rfl rfl rfl ?_
        refine RX.skip rfl rfl rfl rfl rfl rfl rfl ?_
        refine RX.skip rfl rfl rfl rfl rfl rfl rfl ?_
        refine RX.cons rfl rfl (op_w (yw_pickT rfl rfl rfl) rfl rfl ?_)
        refine RX.nil (XX.next (V' := [(1, .pointer (some ⟨gs, 0, none⟩)), (34, .bool true)]) ⟨rfl, rfl, trivial⟩ ?_)
        refine CX.condT rfl ?_
        refine CX.seq ?_
        refine CX.region ?_
        refine RX.cons rfl rfl (op_w (yw_assign rfl rfl) rfl rfl ?_)
        refine RX.nil (XX.next (V' := [(2, .bool false)]) ⟨rfl, trivial⟩ ?_)
        refine CX.ret ?_
        refine XX.then_ret ?_
        exact ret_tmp rfl rfl fun w1 hw => ⟨by rw [okS_odd (by omega)], hw.sub (List.nil_sublist _)⟩
      · refine RX.consG rfl rfl rfl rfl rfl (op_w (yw_fieldAddr rfl fld_34_1 rfl) rfl rfl ?_)
        refine RX.consG rfl rfl rfl rfl rfl (op_yld (y_load (i := 0) rfl rfl one_3 rfl rfl) rfl rfl ?_)
        refine RX.consG rfl rfl rfl rfl rfl (op_w (yw_geq rfl rfl rfl) rfl rfl ?_)
        refine RX.cons rfl rfl (op_w (yw_pickF rfl rfl rfl) rfl rfl ?_)
        refine RX.cons rfl rfl (op_w (yw_move rfl rfl) rfl rfl ?_)
        refine RX.splitD (t := 23) (p := 1200 ≤ Stm.c s) rfl (fun d23 => ?_) (fun d23 => ?_)
        · refine RX.skip rfl rfl rfl rfl rfl rfl rfl ?_
          refine RX.skip rfl rfl rfl rfl rfl rfl rfl ?_
          refine RX.skip rfl rfl rfl rfl rfl rfl rfl ?_
          refine RX.skip rfl rfl rfl rfl rfl rfl rfl ?_
          refine RX.cons rfl rfl (op_w (yw_pickT rfl rfl rfl) rfl rfl ?_)
          refine RX.cons rfl rfl (op_w (yw_move rfl rfl) rfl rfl ?_)
          refine RX.skip rfl rfl rfl rfl rfl rfl rfl ?_
          refine RX.skip rfl rfl rfl rfl rfl rfl rfl ?_
          refine RX.skip rfl rfl rfl rfl rfl rfl rfl ?_
          refine RX.skip rfl rfl rfl rfl rfl rfl rfl ?_
          refine RX.cons rfl rfl (op_w (yw_pickT rfl rfl rfl) rfl rfl ?_)
          refine RX.nil (XX.next (V' := [(1, .pointer (some ⟨gs, 0, none⟩)), (34, .bool true)]) ⟨rfl, rfl, trivial⟩ ?_)
          refine CX.condT rfl ?_
          refine CX.seq ?_
          refine CX.region ?_
          refine RX.cons rfl rfl (op_w (yw_assign rfl rfl) rfl rfl ?_)
          refine RX.nil (XX.next (V' := [(2, .bool false)]) ⟨rfl, trivial⟩ ?_)
          refine CX.ret ?_
          refine XX.then_ret ?_
          exact ret_tmp rfl rfl fun w1 hw => ⟨by rw [okS_odd (by omega)], hw.sub (List.nil_sublist _)⟩
        · refine RX.consG rfl rfl rfl rfl rfl (op_w (yw_fieldAddr rfl fld_34_2 rfl) rfl rfl ?_)
          refine RX.consG rfl rfl rfl rfl rfl (op_yld (y_load (i := 0) rfl rfl one_32 rfl rfl) rfl rfl ?_)
          refine RX.consG rfl rfl rfl rfl rfl (op_w (yw_lenS rfl Tryd.underlying32 rfl) rfl rfl ?_)
          refine RX.consG rfl rfl rfl rfl rfl (op_w (yw_lss rfl rfl rfl) rfl rfl ?_)
          refine RX.cons rfl rfl (op_w (yw_pickF rfl rfl rfl) rfl rfl ?_)
          refine RX.cons rfl rfl (op_w (yw_move rfl rfl) rfl rfl ?_)
          refine RX.splitD (t := 29) (p := ((List.length (Stm.ls s) : Nat) : Int) < 1) rfl (fun d29 => ?_) (fun d29 => ?_)
          · refine RX.skip rfl rfl rfl rfl rfl rfl rfl ?_
            refine RX.skip rfl rfl rfl rfl rfl rfl rfl ?_
            refine RX.skip rfl rfl rfl rfl rfl rfl rfl ?_
            refine RX.skip rfl rfl rfl rfl rfl rfl rfl ?_
            refine RX.cons rfl rfl (op_w (yw_pickT rfl rfl rfl) rfl rfl ?_)
            refine RX.nil (XX.next (V' := [(1, .pointer (some ⟨gs, 0, none⟩)), (34, .bool true)]) ⟨rfl, rfl, trivial⟩ ?_)
            refine CX.condT rfl ?_
            refine CX.seq ?_
            refine CX.region ?_
            refine RX.cons rfl rfl (op_w (yw_assign rfl rfl) rfl rfl ?_)
            refine RX.nil (XX.next (V' := [(2, .bool false)]) ⟨rfl, trivial⟩ ?_)
            refine CX.ret ?_
            refine XX.then_ret ?_
            exact ret_tmp rfl rfl fun w1 hw => ⟨by rw [okS_odd (by omega)], hw.sub (List.nil_sublist _)⟩
          · refine RX.consG rfl rfl rfl rfl rfl (op_w (yw_fieldAddr rfl fld_34_2 rfl) rfl rfl ?_)
            refine RX.consG rfl rfl rfl rfl rfl (op_yld (y_load (i := 0) rfl rfl one_32 rfl rfl) rfl rfl ?_)
            refine RX.consG rfl rfl rfl rfl rfl (op_w (yw_lenS rfl Tryd.underlying32 rfl) rfl rfl ?_)
            refine RX.consG rfl rfl rfl rfl rfl (op_w (yw_gtr rfl rfl rfl) rfl rfl ?_)
            refine RX.cons rfl rfl (op_w (yw_pickF rfl rfl rfl) rfl rfl ?_)
            refine RX.nil (XX.next (V' := [(1, .pointer (some ⟨gs, 0, none⟩)), (34, .bool (decide (1200 < ((List.length (Stm.ls s) : Nat) : Int))))]) ⟨rfl, rfl, trivial⟩ ?_)
            refine CX.condD (p := 1200 < ((List.length (Stm.ls s) : Nat) : Int)) rfl (fun c34 => ?_) (fun c34 => ?_)
            · refine CX.seq ?_
              refine CX.region ?_
              refine RX.cons rfl rfl (op_w (yw_assign rfl rfl) rfl rfl ?_)
              refine RX.nil (XX.next (V' := [(2, .bool false)]) ⟨rfl, trivial⟩ ?_)
              refine CX.ret ?_
              refine XX.then_ret ?_
              exact ret_tmp rfl rfl fun w1 hw => ⟨by rw [okS_long (by omega)], hw.sub (List.nil_sublist _)⟩
            · refine CX.skip (XX.next (V' := [(1, .pointer (some ⟨gs, 0, none⟩))]) ⟨rfl, trivial⟩ ?_)
              refine CX.seq ?_
              refine CX.seq ?_
              refine CX.region ?_
              refine RX.cons rfl rfl (op_w (yw_assign rfl rfl) rfl rfl ?_)
              refine RX.nil (XX.next (V' := [(1, .pointer (some ⟨gs, 0, none⟩)), (3, .int .i64 0)]) ⟨rfl, rfl, trivial⟩ ?_)
              refine CX.block ?_
              refine CX.loop (σ := Nat × Int) (fun z => [(1, .pointer (some ⟨gs, 0, none⟩)), (3, .int .i64 ((z.1 : Nat) : Int))]) (fun z => [.blk gs (.cells (#[.int .i64 (Stm.h s), .int .i64 (Stm.c s), .slice A (List.length (Stm.ls s)) cap]) 34 (0, 0))]) (fun z => z.1 ≤ s.ls.length ∧ okLs (-1) s.ls = okLs z.2 (s.ls.drop z.1) ∧ -1 ≤ z.2 ∧ (z.1 = 0 → z.2 = -1) ∧ ∀ y, 0 < z.1 → s.ls[z.1 - 1]? = some y → y.p = z.2) (fun z => s.ls.length - z.1) (0, -1) ⟨Nat.zero_le _, rfl, Int.le_refl _, fun _ => rfl, fun y h => by omega⟩ ⟨rfl, rfl, trivial⟩ rfl (fun z hI => ?_)
              obtain ⟨i, last⟩ := z
              dsimp only at hI ⊢
              obtain ⟨hi, hok, hlast, hzero, hprev⟩ := hI
              refine CX.seq ?_
              refine CX.seq ?_
              refine CX.region ?_
              refine RX.cons rfl rfl (op_w (yw_move rfl rfl) rfl rfl ?_)
              refine RX.cons rfl rfl (op_w (yw_fieldAddr rfl fld_34_2 rfl) rfl rfl ?_)
              refine RX.cons rfl rfl (op_yld (y_load (i := 0) rfl rfl one_32 rfl rfl) rfl rfl ?_)
              refine RX.cons rfl rfl (op_w (yw_lenS rfl Tryd.underlying32 rfl) rfl rfl ?_)
              refine RX.cons rfl rfl (op_w (yw_lss rfl rfl rfl) rfl rfl ?_)
              refine RX.nil (XX.next (V' := [(1, .pointer (some ⟨gs, 0, none⟩)), (3, .int .i64 ((i : Nat) : Int)), (39, .bool (decide (((i : Nat) : Int) < ((List.length (Stm.ls s) : Nat) : Int))))]) ⟨rfl, rfl, rfl, trivial⟩ ?_)
              refine CX.condD (p := ((i : Nat) : Int) < ((List.length (Stm.ls s) : Nat) : Int)) rfl (fun c39 => ?_) (fun c39 => ?_)
              · obtain ⟨x0, hx0⟩ := get_some (l := s.ls) (k := i) (by omega)
                have hA : ∃ b j, A = some ⟨b, j, none⟩ := hr.some (k := 0) (by simp; omega)
                refine CX.skip (XX.next (V' := [(1, .pointer (some ⟨gs, 0, none⟩)), (3, .int .i64 ((i : Nat) : Int))]) ⟨rfl, rfl, trivial⟩ ?_)
                refine CX.seq ?_
                refine CX.block ?_
                refine CX.seq ?_
                refine CX.region ?_
                refine RX.cons rfl rfl (op_w (yw_fieldAddr rfl fld_34_2 rfl) rfl rfl ?_)
                refine RX.cons rfl rfl (op_yld (y_load (i := 0) rfl rfl one_32 rfl rfl) rfl rfl ?_)
                refine RX.cons rfl rfl (op_w (yw_move rfl rfl) rfl rfl ?_)
                refine RX.cons rfl rfl (op_w (yw_index (k := i) rfl slt_32 rfl rfl (by omega) (by omega) hA) rfl rfl ?_)
                refine RX.cons rfl rfl (op_yld (y_elem rfl rfl agg_57 hr (by simp) (map_get hx0)) rfl rfl ?_)
                refine RX.cons rfl rfl (op_alloc rfl rfl rfl zero_57 fun gl => ?_)
                refine RX.cons rfl rfl (op_storeAll (i := 0) rfl rfl rfl rfl szt_57 rfl (plain_of rfl) rfl rfl ?_)
                refine RX.nil (XX.next (V' := [(1, .pointer (some ⟨gs, 0, none⟩)), (3, .int .i64 ((i : Nat) : Int)), (4, .pointer (some ⟨gl, 0, none⟩))]) ⟨rfl, rfl, rfl, trivial⟩ ?_)
                refine CX.seq ?_
                refine CX.draw 43 [(0, 16, 140737488355328), (1, 140737488355328, 281474976710656), (2, 281474976710656, 562949953421312), (4, 562949953421312, 1125899906842624), (8, 1125899906842640, 2251799813685248), (24, 3377699720527872, 4503599627370496), (40, 5629499534213120, 9007199254740992), (72, 10133099161583616, 18014398509481984), (136, 18014398509481984, 36028797018963968), (256, 36028797018963984, 72057594037927936), (768, 108086391056891904, 144115188075855872), (1280, 180143985094819840, 288230376151711744), (2304, 324259173170675712, 576460752303423488), (4352, 612489549322387456, 1152921504606846976), (10240, 1152921504606846976, 2305843009213693952), (16384, 2305843009213693968, 4611686018427387904), (49152, 6917529027641081856, 9223372036854775808), (81920, 11529215046068469760, 18446744073709551616), (147456, 20752587082923245568, 36893488147419103232), (278528, 39199331156632797184, 73786976294838206464), (655360, 73786976294838206464, 147573952589676412928), (1048576, 147573952589676412944, 295147905179352825856), (3145728, 442721857769029238784, 590295810358705651712), (1048576, 147573952589676412944, 1180591620717411303424), (9437184, 1328165573307087716352, 2361183241434822606848), (22020096, 3099053004383204671488, 4722366482869645213696), (34603008, 4869940435459321626624, 9444732965739290427392), (68157440, 9444732965739290427392, 18889465931478580854784), (134217728, 18889465931478580854792, 37778931862957161709568), (402653184, 56668397794435742564352, 75557863725914323419136), (671088640, 94447329657392904273920, 151115727451828646838272), (1073741824, 151115727451828646838288, 302231454903657293676544), (3221225472, 453347182355485940514816, 604462909807314587353088), (1073741824, 151115727451828646838274, 1208925819614629174706176), (9663676416, 1360041547066457821544448, 2417851639229258349412352), (1073741824, 151115727451828646838280, 4835703278458516698824704), (35433480192, 4986819005910345345662976, 9671406556917033397649408), (86973087744, 12240373923598120393900032, 19342813113834066795298816), (138512695296, 19493928841285895442137088, 38685626227668133590597632), (275951648768, 38836741955119962237435904, 77371252455336267181195264), (555124523008, 78126831092595410415386624, 154742504910672534362390528), (1100719587328, 154912510104055841590083584, 309485009821345068724781056), (2199157473280, 309503899287276547305635840, 618970019642690137449562112)] (by kernel_rfl) (by kernel_rfl) (by kernel_rfl) ?_
                refine DX.takeW 0 1 (by kernel_rfl) rfl rfl rfl rfl rfl (yw_field0 rfl fld_57_0 rfl) ?_
                refine DX.take 1 3 (by kernel_rfl) rfl rfl rfl rfl rfl (List.Sublist.refl _) (y_load (i := 0) rfl rfl one_3 rfl rfl) ?_
                refine DX.takeW 2 7 (by kernel_rfl) rfl rfl rfl rfl rfl (yw_lss rfl rfl rfl) ?_
                refine DX.takeW 3 15 (by kernel_rfl) rfl rfl rfl rfl rfl (yw_move rfl rfl) ?_
                refine DX.splitD (t := 50) (p := Ln.p x0 < 0) rfl (fun d50 => ?_) (fun d50 => ?_)
                · refine DX.skip 4 31 (by kernel_rfl) rfl rfl rfl rfl rfl rfl rfl rfl ?_
                  refine DX.skip 5 63 (by kernel_rfl) rfl rfl rfl rfl rfl rfl rfl rfl ?_
                  refine DX.skip 6 127 (by kernel_rfl) rfl rfl rfl rfl rfl rfl rfl rfl ?_
                  refine DX.takeW 7 255 (by kernel_rfl) rfl rfl rfl rfl rfl (yw_pickT rfl rfl rfl) ?_
                  refine DX.takeW 8 511 (by kernel_rfl) rfl rfl rfl rfl rfl (yw_move rfl rfl) ?_
                  refine DX.skip 9 1023 (by kernel_rfl) rfl rfl rfl rfl rfl rfl rfl rfl ?_
                  refine DX.skip 10 2047 (by kernel_rfl) rfl rfl rfl rfl rfl rfl rfl rfl ?_
                  refine DX.skip 11 4095 (by kernel_rfl) rfl rfl rfl rfl rfl rfl rfl rfl ?_
                  refine DX.skip 12 8191 (by kernel_rfl) rfl rfl rfl rfl rfl rfl rfl rfl ?_
                  refine DX.takeW 13 16383 (by kernel_rfl) rfl rfl rfl rfl rfl (yw_pickT rfl rfl rfl) ?_
                  refine DX.takeW 14 32767 (by kernel_rfl) rfl rfl rfl rfl rfl (yw_move rfl rfl) ?_
                  refine DX.skip 15 65535 (by kernel_rfl) rfl rfl rfl rfl rfl rfl rfl rfl ?_
                  refine DX.skip 16 131071 (by kernel_rfl) rfl rfl rfl rfl rfl rfl rfl rfl ?_
                  refine DX.skip 17 262143 (by kernel_rfl) rfl rfl rfl rfl rfl rfl rfl rfl ?_
                  refine DX.skip 18 524287 (by kernel_rfl) rfl rfl rfl rfl rfl rfl rfl rfl ?_
                  refine DX.takeW 19 1048575 (by kernel_rfl) rfl rfl rfl rfl rfl (yw_pickT rfl rfl rfl) ?_
                  refine DX.takeW 20 2097151 (by kernel_rfl) rfl rfl rfl rfl rfl (yw_move rfl rfl) ?_
                  refine DX.skip 21 4194303 (by kernel_rfl) rfl rfl rfl rfl rfl rfl rfl rfl ?_
                  refine DX.skip 22 8388607 (by kernel_rfl) rfl rfl rfl rfl rfl rfl rfl rfl ?_
                  refine DX.skip 23 16777215 (by kernel_rfl) rfl rfl rfl rfl rfl rfl rfl rfl ?_
                  refine DX.skip 24 33554431 (by kernel_rfl) rfl rfl rfl rfl rfl rfl rfl rfl ?_
                  refine DX.skip 25 67108863 (by kernel_rfl) rfl rfl rfl rfl rfl rfl rfl rfl ?_
                  refine DX.takeW 26 134217727 (by kernel_rfl) rfl rfl rfl rfl rfl (yw_pickT rfl rfl rfl) ?_
                  refine DX.takeW 27 268435455 (by kernel_rfl) rfl rfl rfl rfl rfl (yw_move rfl rfl) ?_
                  refine DX.skip 28 536870911 (by kernel_rfl) rfl rfl rfl rfl rfl rfl rfl rfl ?_
                  refine DX.skip 29 1073741823 (by kernel_rfl) rfl rfl rfl rfl rfl rfl rfl rfl ?_
                  refine DX.skip 30 2147483647 (by kernel_rfl) rfl rfl rfl rfl rfl rfl rfl rfl ?_
                  refine DX.skip 31 4294967295 (by kernel_rfl) rfl rfl rfl rfl rfl rfl rfl rfl ?_
                  refine DX.skip 32 8589934591 (by kernel_rfl) rfl rfl rfl rfl rfl rfl rfl rfl ?_
                  refine DX.skip 33 17179869183 (by kernel_rfl) rfl rfl rfl rfl rfl rfl rfl rfl ?_
                  refine DX.skip 34 34359738367 (by kernel_rfl) rfl rfl rfl rfl rfl rfl rfl rfl ?_
                  refine DX.skip 35 68719476735 (by kernel_rfl) rfl rfl rfl rfl rfl rfl rfl rfl ?_
                  refine DX.skip 36 137438953471 (by kernel_rfl) rfl rfl rfl rfl rfl rfl rfl rfl ?_
                  refine DX.skip 37 274877906943 (by kernel_rfl) rfl rfl rfl rfl rfl rfl rfl rfl ?_
                  refine DX.skip 38 549755813887 (by kernel_rfl) rfl rfl rfl rfl rfl rfl rfl rfl ?_
                  refine DX.skip 39 1099511627775 (by kernel_rfl) rfl rfl rfl rfl rfl rfl rfl rfl ?_
                  refine DX.skip 40 2199023255551 (by kernel_rfl) rfl rfl rfl rfl rfl rfl rfl rfl ?_
                  refine DX.skip 41 4398046511103 (by kernel_rfl) rfl rfl rfl rfl rfl rfl rfl rfl ?_
                  refine DX.takeW 42 8796093022207 (by kernel_rfl) rfl rfl rfl rfl rfl (yw_pickT rfl rfl rfl) ?_
                  refine DX.done (by kernel_rfl) (XX.next (V' := [(1, .pointer (some ⟨gs, 0, none⟩)), (3, .int .i64 ((i : Nat) : Int)), (89, .bool true)]) ⟨rfl, rfl, rfl, trivial⟩ ?_)
                  refine CX.condT rfl ?_
                  refine CX.seq ?_
                  refine CX.region ?_
                  refine RX.cons rfl rfl (op_w (yw_assign rfl rfl) rfl rfl ?_)
                  refine RX.nil (XX.next (V' := [(2, .bool false)]) ⟨rfl, trivial⟩ ?_)
                  refine CX.ret ?_
                  refine XX.block_ret ?_
                  refine XX.then_ret ?_
                  refine XX.then_ret ?_
                  refine XX.block_ret ?_
                  refine XX.then_ret ?_
                  exact ret_tmp rfl rfl fun w1 hw => ⟨by rw [okS_bad (by rw [hok, drop_cons hx0, okLs_cons, okL_false6 (.inl (by omega))]; rfl)], hw.sub (List.nil_sublist _)⟩
                · refine DX.takeWG 4 31 (by kernel_rfl) rfl rfl rfl rfl rfl rfl rfl rfl (yw_field0 rfl fld_57_0 rfl) ?_
                  refine DX.takeG 5 63 (by kernel_rfl) rfl rfl rfl rfl rfl rfl rfl rfl (List.Sublist.refl _) (y_load (i := 0) rfl rfl one_3 rfl rfl) ?_
                  refine DX.takeWG 6 127 (by kernel_rfl) rfl rfl rfl rfl rfl rfl rfl rfl (yw_geq rfl rfl rfl) ?_
                  refine DX.takeW 7 255 (by kernel_rfl) rfl rfl rfl rfl rfl (yw_pickF rfl rfl rfl) ?_
                  refine DX.takeW 8 511 (by kernel_rfl) rfl rfl rfl rfl rfl (yw_move rfl rfl) ?_
                  refine DX.splitD (t := 55) (p := 1200 ≤ Ln.p x0) rfl (fun d55 => ?_) (fun d55 => ?_)
                  · refine DX.skip 9 1023 (by kernel_rfl) rfl rfl rfl rfl rfl rfl rfl rfl ?_
                    refine DX.skip 10 2047 (by kernel_rfl) rfl rfl rfl rfl rfl rfl rfl rfl ?_
                    refine DX.skip 11 4095 (by kernel_rfl) rfl rfl rfl rfl rfl rfl rfl rfl ?_
                    refine DX.skip 12 8191 (by kernel_rfl) rfl rfl rfl rfl rfl rfl rfl rfl ?_
                    refine DX.takeW 13 16383 (by kernel_rfl) rfl rfl rfl rfl rfl (yw_pickT rfl rfl rfl) ?_
                    refine DX.takeW 14 32767 (by kernel_rfl) rfl rfl rfl rfl rfl (yw_move rfl rfl) ?_
                    refine DX.skip 15 65535 (by kernel_rfl) rfl rfl rfl rfl rfl rfl rfl rfl ?_
                    refine DX.skip 16 131071 (by kernel_rfl) rfl rfl rfl rfl rfl rfl rfl rfl ?_
                    refine DX.skip 17 262143 (by kernel_rfl) rfl rfl rfl rfl rfl rfl rfl rfl ?_
                    refine DX.skip 18 524287 (by kernel_rfl) rfl rfl rfl rfl rfl rfl rfl rfl ?_
                    refine DX.takeW 19 1048575 (by kernel_rfl) rfl rfl rfl rfl rfl (yw_pickT rfl rfl rfl) ?_
                    refine DX.takeW 20 2097151 (by kernel_rfl) rfl rfl rfl rfl rfl (yw_move rfl rfl) ?_
                    refine DX.skip 21 4194303 (by kernel_rfl) rfl rfl rfl rfl rfl rfl rfl rfl ?_
                    refine DX.skip 22 8388607 (by kernel_rfl) rfl rfl rfl rfl rfl rfl rfl rfl ?_
                    refine DX.skip 23 16777215 (by kernel_rfl) rfl rfl rfl rfl rfl rfl rfl rfl ?_
                    refine DX.skip 24 33554431 (by kernel_rfl) rfl rfl rfl rfl rfl rfl rfl rfl ?_
                    refine DX.skip 25 67108863 (by kernel_rfl) rfl rfl rfl rfl rfl rfl rfl rfl ?_
                    refine DX.takeW 26 134217727 (by kernel_rfl) rfl rfl rfl rfl rfl (yw_pickT rfl rfl rfl) ?_
                    refine DX.takeW 27 268435455 (by kernel_rfl) rfl rfl rfl rfl rfl (yw_move rfl rfl) ?_
                    refine DX.skip 28 536870911 (by kernel_rfl) rfl rfl rfl rfl rfl rfl rfl rfl ?_
                    refine DX.skip 29 1073741823 (by kernel_rfl) rfl rfl rfl rfl rfl rfl rfl rfl ?_
                    refine DX.skip 30 2147483647 (by kernel_rfl) rfl rfl rfl rfl rfl rfl rfl rfl ?_
                    refine DX.skip 31 4294967295 (by kernel_rfl) rfl rfl rfl rfl rfl rfl rfl rfl ?_
                    refine DX.skip 32 8589934591 (by kernel_rfl) rfl rfl rfl rfl rfl rfl rfl rfl ?_
                    refine DX.skip 33 17179869183 (by kernel_rfl) rfl rfl rfl rfl rfl rfl rfl rfl ?_
                    refine DX.skip 34 34359738367 (by kernel_rfl) rfl rfl rfl rfl rfl rfl rfl rfl ?_
                    refine DX.skip 35 68719476735 (by kernel_rfl) rfl rfl rfl rfl rfl rfl rfl rfl ?_
                    refine DX.skip 36 137438953471 (by kernel_rfl) rfl rfl rfl rfl rfl rfl rfl rfl ?_
                    refine DX.skip 37 274877906943 (by kernel_rfl) rfl rfl rfl rfl rfl rfl rfl rfl ?_
                    refine DX.skip 38 549755813887 (by kernel_rfl) rfl rfl rfl rfl rfl rfl rfl rfl ?_
                    refine DX.skip 39 1099511627775 (by kernel_rfl) rfl rfl rfl rfl rfl rfl rfl rfl ?_
                    refine DX.skip 40 2199023255551 (by kernel_rfl) rfl rfl rfl rfl rfl rfl rfl rfl ?_
                    refine DX.skip 41 4398046511103 (by kernel_rfl) rfl rfl rfl rfl rfl rfl rfl rfl ?_
                    refine DX.takeW 42 8796093022207 (by kernel_rfl) rfl rfl rfl rfl rfl (yw_pickT rfl rfl rfl) ?_
                    refine DX.done (by kernel_rfl) (XX.next (V' := [(1, .pointer (some ⟨gs, 0, none⟩)), (3, .int .i64 ((i : Nat) : Int)), (89, .bool true)]) ⟨rfl, rfl, rfl, trivial⟩ ?_)
                    refine CX.condT rfl ?_
                    refine CX.seq ?_
                    refine CX.region ?_
                    refine RX.cons rfl rfl (op_w (yw_assign rfl rfl) rfl rfl ?_)
                    refine RX.nil (XX.next (V' := [(2, .bool false)]) ⟨rfl, trivial⟩ ?_)
                    refine CX.ret ?_
                    refine XX.block_ret ?_
                    refine XX.then_ret ?_
                    refine XX.then_ret ?_
                    refine XX.block_ret ?_
                    refine XX.then_ret ?_
                    exact ret_tmp rfl rfl fun w1 hw => ⟨by rw [okS_bad (by rw [hok, drop_cons hx0, okLs_cons, okL_false6 (.inr (.inl d55))]; rfl)], hw.sub (List.nil_sublist _)⟩
                  · refine DX.takeWG 9 1023 (by kernel_rfl) rfl rfl rfl rfl rfl rfl rfl rfl (yw_fieldAddr rfl fld_57_1 rfl) ?_
                    refine DX.takeG 10 2047 (by kernel_rfl) rfl rfl rfl rfl rfl rfl rfl rfl (List.Sublist.refl _) (y_load (i := 0) rfl rfl one_3 rfl rfl) ?_
                    refine DX.stepG 11 4095 (by kernel_rfl) rfl rfl rfl rfl rfl rfl (op_callV (v := .bool (okM (Ln.b x0))) rfl rfl rfl rfl rfl ent_64 (fun w hw => w_money19 (Ln.b x0)) (DXs.mk (List.Sublist.refl _) ?_))
                    refine DX.takeWG 12 8191 (by kernel_rfl) rfl rfl rfl rfl rfl rfl rfl rfl (yw_not rfl rfl) ?_
                    refine DX.takeW 13 16383 (by kernel_rfl) rfl rfl rfl rfl rfl (yw_pickF rfl rfl rfl) ?_
                    refine DX.takeW 14 32767 (by kernel_rfl) rfl rfl rfl rfl rfl (yw_move rfl rfl) ?_
                    refine DX.split (t := 61) (b := !(okM (Ln.b x0))) rfl (fun d61 => ?_) (fun d61 => ?_)
                    · refine DX.skip 15 65535 (by kernel_rfl) rfl rfl rfl rfl rfl rfl rfl rfl ?_
                      refine DX.skip 16 131071 (by kernel_rfl) rfl rfl rfl rfl rfl rfl rfl rfl ?_
                      refine DX.skip 17 262143 (by kernel_rfl) rfl rfl rfl rfl rfl rfl rfl rfl ?_
                      refine DX.skip 18 524287 (by kernel_rfl) rfl rfl rfl rfl rfl rfl rfl rfl ?_
                      refine DX.takeW 19 1048575 (by kernel_rfl) rfl rfl rfl rfl rfl (yw_pickT rfl rfl rfl) ?_
                      refine DX.takeW 20 2097151 (by kernel_rfl) rfl rfl rfl rfl rfl (yw_move rfl rfl) ?_
                      refine DX.skip 21 4194303 (by kernel_rfl) rfl rfl rfl rfl rfl rfl rfl rfl ?_
                      refine DX.skip 22 8388607 (by kernel_rfl) rfl rfl rfl rfl rfl rfl rfl rfl ?_
                      refine DX.skip 23 16777215 (by kernel_rfl) rfl rfl rfl rfl rfl rfl rfl rfl ?_
                      refine DX.skip 24 33554431 (by kernel_rfl) rfl rfl rfl rfl rfl rfl rfl rfl ?_
                      refine DX.skip 25 67108863 (by kernel_rfl) rfl rfl rfl rfl rfl rfl rfl rfl ?_
                      refine DX.takeW 26 134217727 (by kernel_rfl) rfl rfl rfl rfl rfl (yw_pickT rfl rfl rfl) ?_
                      refine DX.takeW 27 268435455 (by kernel_rfl) rfl rfl rfl rfl rfl (yw_move rfl rfl) ?_
                      refine DX.skip 28 536870911 (by kernel_rfl) rfl rfl rfl rfl rfl rfl rfl rfl ?_
                      refine DX.skip 29 1073741823 (by kernel_rfl) rfl rfl rfl rfl rfl rfl rfl rfl ?_
                      refine DX.skip 30 2147483647 (by kernel_rfl) rfl rfl rfl rfl rfl rfl rfl rfl ?_
                      refine DX.skip 31 4294967295 (by kernel_rfl) rfl rfl rfl rfl rfl rfl rfl rfl ?_
                      refine DX.skip 32 8589934591 (by kernel_rfl) rfl rfl rfl rfl rfl rfl rfl rfl ?_
                      refine DX.skip 33 17179869183 (by kernel_rfl) rfl rfl rfl rfl rfl rfl rfl rfl ?_
                      refine DX.skip 34 34359738367 (by kernel_rfl) rfl rfl rfl rfl rfl rfl rfl rfl ?_
                      refine DX.skip 35 68719476735 (by kernel_rfl) rfl rfl rfl rfl rfl rfl rfl rfl ?_
                      refine DX.skip 36 137438953471 (by kernel_rfl) rfl rfl rfl rfl rfl rfl rfl rfl ?_
                      refine DX.skip 37 274877906943 (by kernel_rfl) rfl rfl rfl rfl rfl rfl rfl rfl ?_
                      refine DX.skip 38 549755813887 (by kernel_rfl) rfl rfl rfl rfl rfl rfl rfl rfl ?_
                      refine DX.skip 39 1099511627775 (by kernel_rfl) rfl rfl rfl rfl rfl rfl rfl rfl ?_
                      refine DX.skip 40 2199023255551 (by kernel_rfl) rfl rfl rfl rfl rfl rfl rfl rfl ?_
                      refine DX.skip 41 4398046511103 (by kernel_rfl) rfl rfl rfl rfl rfl rfl rfl rfl ?_
                      refine DX.takeW 42 8796093022207 (by kernel_rfl) rfl rfl rfl rfl rfl (yw_pickT rfl rfl rfl) ?_
                      refine DX.done (by kernel_rfl) (XX.next (V' := [(1, .pointer (some ⟨gs, 0, none⟩)), (3, .int .i64 ((i : Nat) : Int)), (89, .bool true)]) ⟨rfl, rfl, rfl, trivial⟩ ?_)
                      refine CX.condT rfl ?_
                      refine CX.seq ?_
                      refine CX.region ?_
                      refine RX.cons rfl rfl (op_w (yw_assign rfl rfl) rfl rfl ?_)
                      refine RX.nil (XX.next (V' := [(2, .bool false)]) ⟨rfl, trivial⟩ ?_)
                      refine CX.ret ?_
                      refine XX.block_ret ?_
                      refine XX.then_ret ?_
                      refine XX.then_ret ?_
                      refine XX.block_ret ?_
                      refine XX.then_ret ?_
                      exact ret_tmp rfl rfl fun w1 hw => ⟨by rw [okS_bad (by rw [hok, drop_cons hx0, okLs_cons, okL_false6 (.inr (.inr (.inl (not_tt d61))))]; rfl)], hw.sub (List.nil_sublist _)⟩
                    · refine DX.takeWG 15 65535 (by kernel_rfl) rfl rfl rfl rfl rfl rfl rfl rfl (yw_fieldAddr rfl fld_57_2 rfl) ?_
                      refine DX.takeG 16 131071 (by kernel_rfl) rfl rfl rfl rfl rfl rfl rfl rfl (List.Sublist.refl _) (y_load (i := 0) rfl rfl one_3 rfl rfl) ?_
                      refine DX.stepG 17 262143 (by kernel_rfl) rfl rfl rfl rfl rfl rfl (op_callV (v := .bool (okM (Ln.a x0))) rfl rfl rfl rfl rfl ent_64 (fun w hw => w_money19 (Ln.a x0)) (DXs.mk (List.Sublist.refl _) ?_))
                      refine DX.takeWG 18 524287 (by kernel_rfl) rfl rfl rfl rfl rfl rfl rfl rfl (yw_not rfl rfl) ?_
                      refine DX.takeW 19 1048575 (by kernel_rfl) rfl rfl rfl rfl rfl (yw_pickF rfl rfl rfl) ?_
                      refine DX.takeW 20 2097151 (by kernel_rfl) rfl rfl rfl rfl rfl (yw_move rfl rfl) ?_
                      refine DX.split (t := 67) (b := !(okM (Ln.a x0))) rfl (fun d67 => ?_) (fun d67 => ?_)
                      · refine DX.skip 21 4194303 (by kernel_rfl) rfl rfl rfl rfl rfl rfl rfl rfl ?_
                        refine DX.skip 22 8388607 (by kernel_rfl) rfl rfl rfl rfl rfl rfl rfl rfl ?_
                        refine DX.skip 23 16777215 (by kernel_rfl) rfl rfl rfl rfl rfl rfl rfl rfl ?_
                        refine DX.skip 24 33554431 (by kernel_rfl) rfl rfl rfl rfl rfl rfl rfl rfl ?_
                        refine DX.skip 25 67108863 (by kernel_rfl) rfl rfl rfl rfl rfl rfl rfl rfl ?_
                        refine DX.takeW 26 134217727 (by kernel_rfl) rfl rfl rfl rfl rfl (yw_pickT rfl rfl rfl) ?_
                        refine DX.takeW 27 268435455 (by kernel_rfl) rfl rfl rfl rfl rfl (yw_move rfl rfl) ?_
                        refine DX.skip 28 536870911 (by kernel_rfl) rfl rfl rfl rfl rfl rfl rfl rfl ?_
                        refine DX.skip 29 1073741823 (by kernel_rfl) rfl rfl rfl rfl rfl rfl rfl rfl ?_
                        refine DX.skip 30 2147483647 (by kernel_rfl) rfl rfl rfl rfl rfl rfl rfl rfl ?_
                        refine DX.skip 31 4294967295 (by kernel_rfl) rfl rfl rfl rfl rfl rfl rfl rfl ?_
                        refine DX.skip 32 8589934591 (by kernel_rfl) rfl rfl rfl rfl rfl rfl rfl rfl ?_
                        refine DX.skip 33 17179869183 (by kernel_rfl) rfl rfl rfl rfl rfl rfl rfl rfl ?_
                        refine DX.skip 34 34359738367 (by kernel_rfl) rfl rfl rfl rfl rfl rfl rfl rfl ?_
                        refine DX.skip 35 68719476735 (by kernel_rfl) rfl rfl rfl rfl rfl rfl rfl rfl ?_
                        refine DX.skip 36 137438953471 (by kernel_rfl) rfl rfl rfl rfl rfl rfl rfl rfl ?_
                        refine DX.skip 37 274877906943 (by kernel_rfl) rfl rfl rfl rfl rfl rfl rfl rfl ?_
                        refine DX.skip 38 549755813887 (by kernel_rfl) rfl rfl rfl rfl rfl rfl rfl rfl ?_
                        refine DX.skip 39 1099511627775 (by kernel_rfl) rfl rfl rfl rfl rfl rfl rfl rfl ?_
                        refine DX.skip 40 2199023255551 (by kernel_rfl) rfl rfl rfl rfl rfl rfl rfl rfl ?_
                        refine DX.skip 41 4398046511103 (by kernel_rfl) rfl rfl rfl rfl rfl rfl rfl rfl ?_
                        refine DX.takeW 42 8796093022207 (by kernel_rfl) rfl rfl rfl rfl rfl (yw_pickT rfl rfl rfl) ?_
                        refine DX.done (by kernel_rfl) (XX.next (V' := [(1, .pointer (some ⟨gs, 0, none⟩)), (3, .int .i64 ((i : Nat) : Int)), (89, .bool true)]) ⟨rfl, rfl, rfl, trivial⟩ ?_)
                        refine CX.condT rfl ?_
                        refine CX.seq ?_
                        refine CX.region ?_
                        refine RX.cons rfl rfl (op_w (yw_assign rfl rfl) rfl rfl ?_)
                        refine RX.nil (XX.next (V' := [(2, .bool false)]) ⟨rfl, trivial⟩ ?_)
                        refine CX.ret ?_
                        refine XX.block_ret ?_
                        refine XX.then_ret ?_
                        refine XX.then_ret ?_
                        refine XX.block_ret ?_
                        refine XX.then_ret ?_
                        exact ret_tmp rfl rfl fun w1 hw => ⟨by rw [okS_bad (by rw [hok, drop_cons hx0, okLs_cons, okL_false6 (.inr (.inr (.inr (.inl (not_tt d67)))))]; rfl)], hw.sub (List.nil_sublist _)⟩
                      · refine DX.takeWG 21 4194303 (by kernel_rfl) rfl rfl rfl rfl rfl rfl rfl rfl (yw_fieldAddr rfl fld_57_1 rfl) ?_
                        refine DX.takeG 22 8388607 (by kernel_rfl) rfl rfl rfl rfl rfl rfl rfl rfl (List.Sublist.refl _) (y_load (i := 0) rfl rfl one_3 rfl rfl) ?_
                        refine DX.takeWG 23 16777215 (by kernel_rfl) rfl rfl rfl rfl rfl rfl rfl rfl (yw_fieldAddr rfl fld_57_2 rfl) ?_
                        refine DX.takeG 24 33554431 (by kernel_rfl) rfl rfl rfl rfl rfl rfl rfl rfl (List.Sublist.refl _) (y_load (i := 0) rfl rfl one_3 rfl rfl) ?_
                        refine DX.takeWG 25 67108863 (by kernel_rfl) rfl rfl rfl rfl rfl rfl rfl rfl (yw_eql rfl rfl rfl) ?_
                        refine DX.takeW 26 134217727 (by kernel_rfl) rfl rfl rfl rfl rfl (yw_pickF rfl rfl rfl) ?_
                        refine DX.takeW 27 268435455 (by kernel_rfl) rfl rfl rfl rfl rfl (yw_move rfl rfl) ?_
                        refine DX.splitD (t := 74) (p := Ln.b x0 = Ln.a x0) rfl (fun d74 => ?_) (fun d74 => ?_)
                        · refine DX.skip 28 536870911 (by kernel_rfl) rfl rfl rfl rfl rfl rfl rfl rfl ?_
                          refine DX.skip 29 1073741823 (by kernel_rfl) rfl rfl rfl rfl rfl rfl rfl rfl ?_
                          refine DX.skip 30 2147483647 (by kernel_rfl) rfl rfl rfl rfl rfl rfl rfl rfl ?_
                          refine DX.skip 31 4294967295 (by kernel_rfl) rfl rfl rfl rfl rfl rfl rfl rfl ?_
                          refine DX.skip 32 8589934591 (by kernel_rfl) rfl rfl rfl rfl rfl rfl rfl rfl ?_
                          refine DX.skip 33 17179869183 (by kernel_rfl) rfl rfl rfl rfl rfl rfl rfl rfl ?_
                          refine DX.skip 34 34359738367 (by kernel_rfl) rfl rfl rfl rfl rfl rfl rfl rfl ?_
                          refine DX.skip 35 68719476735 (by kernel_rfl) rfl rfl rfl rfl rfl rfl rfl rfl ?_
                          refine DX.skip 36 137438953471 (by kernel_rfl) rfl rfl rfl rfl rfl rfl rfl rfl ?_
                          refine DX.skip 37 274877906943 (by kernel_rfl) rfl rfl rfl rfl rfl rfl rfl rfl ?_
                          refine DX.skip 38 549755813887 (by kernel_rfl) rfl rfl rfl rfl rfl rfl rfl rfl ?_
                          refine DX.skip 39 1099511627775 (by kernel_rfl) rfl rfl rfl rfl rfl rfl rfl rfl ?_
                          refine DX.skip 40 2199023255551 (by kernel_rfl) rfl rfl rfl rfl rfl rfl rfl rfl ?_
                          refine DX.skip 41 4398046511103 (by kernel_rfl) rfl rfl rfl rfl rfl rfl rfl rfl ?_
                          refine DX.takeW 42 8796093022207 (by kernel_rfl) rfl rfl rfl rfl rfl (yw_pickT rfl rfl rfl) ?_
                          refine DX.done (by kernel_rfl) (XX.next (V' := [(1, .pointer (some ⟨gs, 0, none⟩)), (3, .int .i64 ((i : Nat) : Int)), (89, .bool true)]) ⟨rfl, rfl, rfl, trivial⟩ ?_)
                          refine CX.condT rfl ?_
                          refine CX.seq ?_
                          refine CX.region ?_
                          refine RX.cons rfl rfl (op_w (yw_assign rfl rfl) rfl rfl ?_)
                          refine RX.nil (XX.next (V' := [(2, .bool false)]) ⟨rfl, trivial⟩ ?_)
                          refine CX.ret ?_
                          refine XX.block_ret ?_
                          refine XX.then_ret ?_
                          refine XX.then_ret ?_
                          refine XX.block_ret ?_
                          refine XX.then_ret ?_
                          exact ret_tmp rfl rfl fun w1 hw => ⟨by rw [okS_bad (by rw [hok, drop_cons hx0, okLs_cons, okL_false6 (.inr (.inr (.inr (.inr d74))))]; rfl)], hw.sub (List.nil_sublist _)⟩
                        · refine DX.takeWG 28 536870911 (by kernel_rfl) rfl rfl rfl rfl rfl rfl rfl rfl (yw_move rfl rfl) ?_
                          refine DX.takeWG 29 1073741823 (by kernel_rfl) rfl rfl rfl rfl rfl rfl rfl rfl (yw_gtr rfl rfl rfl) ?_
                          refine DX.takeWG 30 2147483647 (by kernel_rfl) rfl rfl rfl rfl rfl rfl rfl rfl (yw_move rfl rfl) ?_
                          refine DX.splitD (t := 77) (p := 0 < ((i : Nat) : Int)) rfl (fun d77 => ?_) (fun d77 => ?_)
                          · obtain ⟨y0, hy0⟩ := get_some (l := s.ls) (k := i - 1) (by omega)
                            refine DX.takeWG 31 4294967295 (by kernel_rfl) rfl rfl rfl rfl rfl rfl rfl rfl (yw_field0 rfl fld_57_0 rfl) ?_
                            refine DX.takeG 32 8589934591 (by kernel_rfl) rfl rfl rfl rfl rfl rfl rfl rfl (List.Sublist.refl _) (y_load (i := 0) rfl rfl one_3 rfl rfl) ?_
                            refine DX.takeWG 33 17179869183 (by kernel_rfl) rfl rfl rfl rfl rfl rfl rfl rfl (yw_fieldAddr rfl fld_34_2 rfl) ?_
                            refine DX.takeG 34 34359738367 (by kernel_rfl) rfl rfl rfl rfl rfl rfl rfl rfl (List.Sublist.refl _) (y_load (i := 1) rfl rfl one_32 rfl rfl) ?_
                            refine DX.takeWG 35 68719476735 (by kernel_rfl) rfl rfl rfl rfl rfl rfl rfl rfl (yw_move rfl rfl) ?_
                            refine DX.takeWG 36 137438953471 (by kernel_rfl) rfl rfl rfl rfl rfl rfl rfl rfl (yw_sub rfl rfl rfl (by omega) (by omega)) ?_
                            refine DX.takeWG 37 274877906943 (by kernel_rfl) rfl rfl rfl rfl rfl rfl rfl rfl (yw_index (k := (i - 1)) rfl slt_32 rfl rfl (by omega) (by omega) hA) ?_
                            refine DX.takeWG 38 549755813887 (by kernel_rfl) rfl rfl rfl rfl rfl rfl rfl rfl (yw_field0 rfl fld_57_0 rfl) ?_
                            refine DX.takeG 39 1099511627775 (by kernel_rfl) rfl rfl rfl rfl rfl rfl rfl rfl (List.Sublist.refl _) (y_elemF (j := 0) rfl rfl one_3 hr (by simp) (map_get hy0) rfl) ?_
                            refine DX.takeWG 40 2199023255551 (by kernel_rfl) rfl rfl rfl rfl rfl rfl rfl rfl (yw_leq rfl rfl rfl) ?_
                            refine DX.takeWG 41 4398046511103 (by kernel_rfl) rfl rfl rfl rfl rfl rfl rfl rfl (yw_pickT rfl rfl rfl) ?_
                            refine DX.takeW 42 8796093022207 (by kernel_rfl) rfl rfl rfl rfl rfl (yw_pickF rfl rfl rfl) ?_
                            refine DX.done (by kernel_rfl) (XX.next (V' := [(1, .pointer (some ⟨gs, 0, none⟩)), (3, .int .i64 ((i : Nat) : Int)), (89, .bool (decide (Ln.p x0 ≤ Ln.p y0)))]) ⟨rfl, rfl, rfl, trivial⟩ ?_)
                            refine CX.condD (p := Ln.p x0 ≤ Ln.p y0) rfl (fun c89 => ?_) (fun c89 => ?_)
                            · refine CX.seq ?_
                              refine CX.region ?_
                              refine RX.cons rfl rfl (op_w (yw_assign rfl rfl) rfl rfl ?_)
                              refine RX.nil (XX.next (V' := [(2, .bool false)]) ⟨rfl, trivial⟩ ?_)
                              refine CX.ret ?_
                              refine XX.block_ret ?_
                              refine XX.then_ret ?_
                              refine XX.then_ret ?_
                              refine XX.block_ret ?_
                              refine XX.then_ret ?_
                              exact ret_tmp rfl rfl fun w1 hw => ⟨by rw [okS_bad (by rw [hok, drop_cons hx0, okLs_cons, okL_false6 (.inl (by have := hprev y0 (by omega) hy0; omega))]; rfl)], hw.sub (List.nil_sublist _)⟩
                            · refine CX.skip (XX.inBlock (V' := [(1, .pointer (some ⟨gs, 0, none⟩)), (3, .int .i64 ((i : Nat) : Int))]) ⟨rfl, rfl, trivial⟩ ?_)
                              refine XX.next (V' := [(1, .pointer (some ⟨gs, 0, none⟩)), (3, .int .i64 ((i : Nat) : Int))]) ⟨rfl, rfl, trivial⟩ ?_
                              refine CX.region ?_
                              refine RX.cons rfl rfl (op_w (yw_move rfl rfl) rfl rfl ?_)
                              refine RX.cons rfl rfl (op_w (yw_add rfl rfl rfl (by omega) (by omega)) rfl rfl ?_)
                              refine RX.cons rfl rfl (op_w (yw_assign rfl rfl) rfl rfl ?_)
                              refine RX.nil (XX.againP ([.blk gl (.cells (lnC x0) 57 (0, 0))]) (i + 1, Ln.p x0) (by dsimp only; omega) ⟨by dsimp only; omega, by rw [hok, drop_cons hx0, okLs_cons, okL_true6 (by have := hprev y0 (by omega) hy0; omega) (by omega) (by simpa using d61) (by simpa using d67) d74, Bool.true_and], by dsimp only; omega, by dsimp only; intro h; omega, by dsimp only; intro y _ hy; rw [Nat.add_sub_cancel, hx0] at hy; injection hy with hy; rw [hy]⟩ ⟨rfl, rfl, trivial⟩ ((perm_pick 1 rfl).trans (List.Perm.cons _ (List.Perm.refl _))))
                          · refine DX.skip 31 4294967295 (by kernel_rfl) rfl rfl rfl rfl rfl rfl rfl rfl ?_
                            refine DX.skip 32 8589934591 (by kernel_rfl) rfl rfl rfl rfl rfl rfl rfl rfl ?_
                            refine DX.skip 33 17179869183 (by kernel_rfl) rfl rfl rfl rfl rfl rfl rfl rfl ?_
                            refine DX.skip 34 34359738367 (by kernel_rfl) rfl rfl rfl rfl rfl rfl rfl rfl ?_
                            refine DX.skip 35 68719476735 (by kernel_rfl) rfl rfl rfl rfl rfl rfl rfl rfl ?_
                            refine DX.skip 36 137438953471 (by kernel_rfl) rfl rfl rfl rfl rfl rfl rfl rfl ?_
                            refine DX.skip 37 274877906943 (by kernel_rfl) rfl rfl rfl rfl rfl rfl rfl rfl ?_
                            refine DX.skip 38 549755813887 (by kernel_rfl) rfl rfl rfl rfl rfl rfl rfl rfl ?_
                            refine DX.skip 39 1099511627775 (by kernel_rfl) rfl rfl rfl rfl rfl rfl rfl rfl ?_
                            refine DX.skip 40 2199023255551 (by kernel_rfl) rfl rfl rfl rfl rfl rfl rfl rfl ?_
                            refine DX.takeWG 41 4398046511103 (by kernel_rfl) rfl rfl rfl rfl rfl rfl rfl rfl (yw_pickF rfl rfl rfl) ?_
                            refine DX.takeW 42 8796093022207 (by kernel_rfl) rfl rfl rfl rfl rfl (yw_pickF rfl rfl rfl) ?_
                            refine DX.done (by kernel_rfl) (XX.next (V' := [(1, .pointer (some ⟨gs, 0, none⟩)), (3, .int .i64 ((i : Nat) : Int)), (89, .bool false)]) ⟨rfl, rfl, rfl, trivial⟩ ?_)
                            refine CX.condF rfl ?_
                            refine CX.skip (XX.inBlock (V' := [(1, .pointer (some ⟨gs, 0, none⟩)), (3, .int .i64 ((i : Nat) : Int))]) ⟨rfl, rfl, trivial⟩ ?_)
                            refine XX.next (V' := [(1, .pointer (some ⟨gs, 0, none⟩)), (3, .int .i64 ((i : Nat) : Int))]) ⟨rfl, rfl, trivial⟩ ?_
                            refine CX.region ?_
                            refine RX.cons rfl rfl (op_w (yw_move rfl rfl) rfl rfl ?_)
                            refine RX.cons rfl rfl (op_w (yw_add rfl rfl rfl (by omega) (by omega)) rfl rfl ?_)
                            refine RX.cons rfl rfl (op_w (yw_assign rfl rfl) rfl rfl ?_)
                            refine RX.nil (XX.againP ([.blk gl (.cells (lnC x0) 57 (0, 0))]) (i + 1, Ln.p x0) (by dsimp only; omega) ⟨by dsimp only; omega, by rw [hok, drop_cons hx0, okLs_cons, okL_true6 (by have := hzero (by omega); omega) (by omega) (by simpa using d61) (by simpa using d67) d74, Bool.true_and], by dsimp only; omega, by dsimp only; intro h; omega, by dsimp only; intro y _ hy; rw [Nat.add_sub_cancel, hx0] at hy; injection hy with hy; rw [hy]⟩ ⟨rfl, rfl, trivial⟩ ((perm_pick 1 rfl).trans (List.Perm.cons _ (List.Perm.refl _))))
              · refine CX.exit ?_
                refine XX.then_exit ?_
                refine XX.then_exit ?_
                refine XX.block_exit ?_
                refine XX.next (V' := []) trivial ?_
                refine CX.seq ?_
                refine CX.region ?_
                refine RX.cons rfl rfl (op_w (yw_assign rfl rfl) rfl rfl ?_)
                refine RX.nil (XX.next (V' := [(2, .bool true)]) ⟨rfl, trivial⟩ ?_)
                refine CX.ret ?_
                exact ret_tmp rfl rfl fun w1 hw => ⟨by rw [okS_all (by rw [hok, List.drop_eq_nil_of_le (by omega)]; rfl) (by omega) (by omega) (by omega) (by omega) (by omega)], hw.sub (List.nil_sublist _)⟩

end Go.Proofs.YtnadipjlhlbfoaaDoor
namespace Go.Proofs.YtnadipjlhlbfoaaDoor
set_option linter.all false
open Go Go.RowKit
set_option maxRecDepth 100000
theorem ent_38 : ∀ args w, (callFunc 38 args).run Tryd.prog w = .ok (.enter 38 args) w := enters_of Tryd.func38 (by kernel_rfl) rfl
theorem ent_39 : ∀ args w, (callFunc 39 args).run Tryd.prog w = .ok (.enter 39 args) w := enters_of Tryd.func39 (by kernel_rfl) rfl
set_option maxRecDepth 100000 in
theorem w_encode19 {w : World} {A : Option Addr} {cap : Nat} (s : Stm) (hr : Rd w A 3 (s.ls.map lnC)) (hl : s.ls.length ≤ 1000000) :
    Calls Tryd.prog 22 #[.agg (#[.int .i64 (Stm.h s), .int .i64 (Stm.c s), .slice A (List.length (Stm.ls s)) cap])] w (fun e w' => e = .returned (encR s) ∧ SL w [] w' []) := by
  refine calls_of_CX (O := []) (L := []) (args := [.agg (#[.int .i64 (Stm.h s), .int .i64 (Stm.c s), .slice A (List.length (Stm.ls s)) cap])]) Tryd.func22 rfl (by simp [Tryd.ntmps22]) (SL.refl w) ?_
  refine CX.sub (V' := [(0, .agg (#[.int .i64 (Stm.h s), .int .i64 (Stm.c s), .slice A (List.length (Stm.ls s)) cap]))]) ⟨rfl, trivial⟩ ?_
  refine CX.seq ?_
  refine CX.region ?_
  refine RX.cons rfl rfl (op_box rfl rfl rfl rfl fun gs => ?_)
  refine RX.cons rfl rfl (op_w (yw_assign rfl rfl) rfl rfl ?_)
  refine RX.cons rfl rfl (op_w (yw_assign rfl rfl) rfl rfl ?_)
  refine RX.nil (XX.next (V' := [(1, .pointer (some ⟨gs, 0, none⟩))]) ⟨rfl, trivial⟩ ?_)
  refine CX.seq ?_
  refine CX.region ?_
  refine RX.cons rfl rfl (op_yld (y_loadA (i := 0) rfl rfl agg_34 rfl rfl) rfl rfl ?_)
  refine RX.cons rfl rfl (op_callV (v := .bool (okS s)) rfl rfl rfl rfl rfl ent_38 (fun w hw => w_valid19 s (hw.rd hr (by simp)) hl) ?_)
  refine RX.cons rfl rfl (op_w (yw_assign rfl rfl) rfl rfl ?_)
  refine RX.nil (XX.next (V' := [(1, .pointer (some ⟨gs, 0, none⟩)), (4, .bool (okS s))]) ⟨rfl, rfl, trivial⟩ ?_)
  refine CX.seq ?_
  refine CX.seq ?_
  refine CX.region ?_
  refine RX.cons rfl rfl (op_w (yw_move rfl rfl) rfl rfl ?_)
  refine RX.cons rfl rfl (op_w (yw_not rfl rfl) rfl rfl ?_)
  refine RX.nil (XX.next (V' := [(1, .pointer (some ⟨gs, 0, none⟩)), (14, .bool (!(okS s)))]) ⟨rfl, rfl, trivial⟩ ?_)
  refine CX.cond (b := !(okS s)) rfl (fun c14 => ?_) (fun c14 => ?_)
  · refine CX.seq ?_
    refine CX.region ?_
    refine RX.cons rfl rfl (op_w (yw_assign rfl rfl) rfl rfl ?_)
    refine RX.cons rfl rfl (op_w (yw_assign rfl rfl) rfl rfl ?_)
    refine RX.nil (XX.next (V' := [(2, .string .empty), (3, .int .i64 190)]) ⟨rfl, rfl, trivial⟩ ?_)
    refine CX.ret ?_
    refine XX.then_ret ?_
    exact ret_tmp2 rfl rfl rfl fun w1 hw => ⟨by rw [encR_bad (by simpa using c14)], hw.sub (List.nil_sublist _)⟩
  · refine CX.skip (XX.next (V' := [(1, .pointer (some ⟨gs, 0, none⟩))]) ⟨rfl, trivial⟩ ?_)
    refine CX.seq ?_
    have hok : okS s = true := by simpa using c14
    have hlen := okS_len hok
    have hnum := okS_nums hok
    refine CX.region ?_
    refine RX.cons rfl rfl (op_w (yw_field0 rfl fld_34_0 rfl) rfl rfl ?_)
    refine RX.cons rfl rfl (op_yld (y_load (i := 0) rfl rfl one_3 rfl rfl) rfl rfl ?_)
    refine RX.cons rfl rfl (op_w (yw_fieldAddr rfl fld_34_1 rfl) rfl rfl ?_)
    refine RX.cons rfl rfl (op_yld (y_load (i := 0) rfl rfl one_3 rfl rfl) rfl rfl ?_)
    refine RX.cons rfl rfl (op_w (yw_fieldAddr rfl fld_34_2 rfl) rfl rfl ?_)
    refine RX.cons rfl rfl (op_yld (y_load (i := 0) rfl rfl one_32 rfl rfl) rfl rfl ?_)
    refine RX.cons rfl rfl (op_w (yw_lenS rfl Tryd.underlying32 rfl) rfl rfl ?_)
    refine RX.cons rfl rfl (op_buildSlice rfl rfl rfl slb_71 rfl rfl (by intro v hv; simp only [List.mem_cons, List.not_mem_nil, or_false] at hv; rcases hv with rfl | rfl | rfl <;> exact ⟨rfl, (plain_of rfl)⟩) (by decide) fun g7 => ?_)
    refine RX.cons rfl rfl (op_w (yw_assign rfl rfl) rfl rfl ?_)
    refine RX.nil (XX.next (V' := [(1, .pointer (some ⟨gs, 0, none⟩)), (5, .slice (some ⟨g7, 0, none⟩) 3 3)]) ⟨rfl, rfl, trivial⟩ ?_)
    refine CX.seq ?_
    refine CX.seq ?_
    refine CX.region ?_
    refine RX.cons rfl rfl (op_w (yw_assign rfl rfl) rfl rfl ?_)
    refine RX.nil (XX.next (V' := [(1, .pointer (some ⟨gs, 0, none⟩)), (5, .slice (some ⟨g7, 0, none⟩) 3 3), (6, .int .i64 0)]) ⟨rfl, rfl, rfl, trivial⟩ ?_)
    refine CX.block ?_
    refine CX.loop (σ := Nat × (Option Addr × Nat) × List Int) (fun z => [(1, .pointer (some ⟨gs, 0, none⟩)), (5, .slice z.2.1.1 (List.length (z.2.2 : List Int)) z.2.1.2), (6, .int .i64 ((z.1 : Nat) : Int))]) (fun z => [.row z.2.1.1 z.2.1.2 3 1 (List.map iC z.2.2), .blk gs (.cells (#[.int .i64 (Stm.h s), .int .i64 (Stm.c s), .slice A (List.length (Stm.ls s)) cap]) 34 (0, 0))]) (fun z => z.1 ≤ s.ls.length ∧ z.2.2 = [Stm.h s, Stm.c s, ((List.length (Stm.ls s) : Nat) : Int)] ++ numsL (s.ls.take z.1)) (fun z => s.ls.length - z.1) (0, (some ⟨g7, 0, none⟩, 3), [Stm.h s, Stm.c s, ((List.length (Stm.ls s) : Nat) : Int)]) ⟨Nat.zero_le _, rfl⟩ ⟨rfl, rfl, rfl, trivial⟩ rfl (fun z hI => ?_)
    obtain ⟨i, ⟨A1, c1⟩, ns⟩ := z
    dsimp only at hI ⊢
    obtain ⟨hi, hns⟩ := hI
    have hnl : ns.length = 3 + 3 * i := by rw [hns, List.length_append, numsL_length, List.length_take]; simp; omega
    refine CX.seq ?_
    refine CX.seq ?_
    refine CX.region ?_
    refine RX.cons rfl rfl (op_w (yw_move rfl rfl) rfl rfl ?_)
    refine RX.cons rfl rfl (op_w (yw_fieldAddr rfl fld_34_2 rfl) rfl rfl ?_)
    refine RX.cons rfl rfl (op_yld (y_load (i := 1) rfl rfl one_32 rfl rfl) rfl rfl ?_)
    refine RX.cons rfl rfl (op_w (yw_lenS rfl Tryd.underlying32 rfl) rfl rfl ?_)
    refine RX.cons rfl rfl (op_w (yw_lss rfl rfl rfl) rfl rfl ?_)
    refine RX.nil (XX.next (V' := [(1, .pointer (some ⟨gs, 0, none⟩)), (5, .slice A1 (List.length (ns : List Int)) c1), (6, .int .i64 ((i : Nat) : Int)), (27, .bool (decide (((i : Nat) : Int) < ((List.length (Stm.ls s) : Nat) : Int))))]) ⟨rfl, rfl, rfl, rfl, trivial⟩ ?_)
    refine CX.condD (p := ((i : Nat) : Int) < ((List.length (Stm.ls s) : Nat) : Int)) rfl (fun c27 => ?_) (fun c27 => ?_)
    · obtain ⟨x0, hx0⟩ := get_some (l := s.ls) (k := i) (by omega)
      have hA : ∃ b j, A = some ⟨b, j, none⟩ := hr.some (k := 0) (by simp; omega)
      refine CX.skip (XX.next (V' := [(1, .pointer (some ⟨gs, 0, none⟩)), (5, .slice A1 (List.length (ns : List Int)) c1), (6, .int .i64 ((i : Nat) : Int))]) ⟨rfl, rfl, rfl, trivial⟩ ?_)
      refine CX.seq ?_
      refine CX.block ?_
      refine CX.draw 20 [(0, 32, 1073741824), (0, 2, 2147483648), (2, 2147483648, 4294967296), (0, 64, 8589934592), (12, 12884901888, 17179869184), (16, 17179869184, 34359738368), (32, 34359738368, 68719476736), (0, 2, 137438953472), (128, 137438953472, 274877906944), (0, 64, 549755813888), (768, 824633720832, 1099511627776), (1024, 1099511627776, 2199023255552), (2048, 2199023255552, 4398046511104), (0, 2, 8796093022208), (8192, 8796093022208, 17592186044416), (0, 64, 35184372088832), (49152, 52776558133248, 70368744177664), (65536, 70368744177664, 140737488355328), (131072, 140737488355328, 281474976710656), (266304, 285941742698496, 562949953421312), (524289, 562951027163136, 1125899906842624), (2097151, 1125899906842624, 32)] (by kernel_rfl) (by kernel_rfl) (by kernel_rfl) ?_
      refine DX.takeW 0 1 (by kernel_rfl) rfl rfl rfl rfl rfl (yw_move rfl rfl) ?_
      refine DX.takeW 1 3 (by kernel_rfl) rfl rfl rfl rfl rfl (yw_fieldAddr rfl fld_34_2 rfl) ?_
      refine DX.take 2 7 (by kernel_rfl) rfl rfl rfl rfl rfl (List.Sublist.refl _) (y_load (i := 1) rfl rfl one_32 rfl rfl) ?_
      refine DX.takeW 3 15 (by kernel_rfl) rfl rfl rfl rfl rfl (yw_move rfl rfl) ?_
      refine DX.takeW 4 31 (by kernel_rfl) rfl rfl rfl rfl rfl (yw_index (k := i) rfl slt_32 rfl rfl (by omega) (by omega) hA) ?_
      refine DX.takeW 5 63 (by kernel_rfl) rfl rfl rfl rfl rfl (yw_field0 rfl fld_57_0 rfl) ?_
      refine DX.take 6 127 (by kernel_rfl) rfl rfl rfl rfl rfl (List.Sublist.refl _) (y_elemF (j := 0) rfl rfl one_3 hr (by simp) (map_get hx0) rfl) ?_
      refine DX.takeW 7 255 (by kernel_rfl) rfl rfl rfl rfl rfl (yw_fieldAddr rfl fld_34_2 rfl) ?_
      refine DX.take 8 511 (by kernel_rfl) rfl rfl rfl rfl rfl (List.Sublist.refl _) (y_load (i := 1) rfl rfl one_32 rfl rfl) ?_
      refine DX.takeW 9 1023 (by kernel_rfl) rfl rfl rfl rfl rfl (yw_move rfl rfl) ?_
      refine DX.takeW 10 2047 (by kernel_rfl) rfl rfl rfl rfl rfl (yw_index (k := i) rfl slt_32 rfl rfl (by omega) (by omega) hA) ?_
      refine DX.takeW 11 4095 (by kernel_rfl) rfl rfl rfl rfl rfl (yw_fieldAddr rfl fld_57_1 rfl) ?_
      refine DX.take 12 8191 (by kernel_rfl) rfl rfl rfl rfl rfl (List.Sublist.refl _) (y_elemF rfl rfl one_3 hr (by simp) (map_get hx0) rfl) ?_
      refine DX.takeW 13 16383 (by kernel_rfl) rfl rfl rfl rfl rfl (yw_fieldAddr rfl fld_34_2 rfl) ?_
      refine DX.take 14 32767 (by kernel_rfl) rfl rfl rfl rfl rfl (List.Sublist.refl _) (y_load (i := 1) rfl rfl one_32 rfl rfl) ?_
      refine DX.takeW 15 65535 (by kernel_rfl) rfl rfl rfl rfl rfl (yw_move rfl rfl) ?_
      refine DX.takeW 16 131071 (by kernel_rfl) rfl rfl rfl rfl rfl (yw_index (k := i) rfl slt_32 rfl rfl (by omega) (by omega) hA) ?_
      refine DX.takeW 17 262143 (by kernel_rfl) rfl rfl rfl rfl rfl (yw_fieldAddr rfl fld_57_2 rfl) ?_
      refine DX.take 18 524287 (by kernel_rfl) rfl rfl rfl rfl rfl (List.Sublist.refl _) (y_elemF rfl rfl one_3 hr (by simp) (map_get hx0) rfl) ?_
      refine DX.step 19 1048575 (by kernel_rfl) rfl rfl rfl (op_buildSlice rfl rfl rfl slb_71 rfl rfl (by intro v hv; simp only [List.mem_cons, List.not_mem_nil, or_false] at hv; rcases hv with rfl | rfl | rfl <;> exact ⟨rfl, (plain_of rfl)⟩) (by decide) fun g9 => (DXs.mk (List.Sublist.cons _ (List.Sublist.refl _)) ?_))
      refine DX.stepT 20 2097151 (by kernel_rfl) rfl rfl rfl rfl (op_appendM iC (i := 1) (j := 0) (xs := ns) ([Ln.p x0, Ln.b x0, Ln.a x0]) rfl rfl rfl slb_71 rfl rfl rfl rfl rfl rfl (by simp only [List.length_cons, List.length_nil]; omega) (by simp only [List.length_cons, List.length_nil]; omega) fun A2 c2 => ?_)
      refine DX.takeW 21 4194303 (by kernel_rfl) rfl rfl rfl rfl rfl (yw_assign rfl rfl) ?_
      refine DX.done (by kernel_rfl) (XX.inBlock (V' := [(1, .pointer (some ⟨gs, 0, none⟩)), (5, .slice A2 ((ns ++ [Ln.p x0, Ln.b x0, Ln.a x0]).length) c2), (6, .int .i64 ((i : Nat) : Int))]) ⟨rfl, rfl, rfl, trivial⟩ ?_)
      refine XX.next (V' := [(1, .pointer (some ⟨gs, 0, none⟩)), (5, .slice A2 ((ns ++ [Ln.p x0, Ln.b x0, Ln.a x0]).length) c2), (6, .int .i64 ((i : Nat) : Int))]) ⟨rfl, rfl, rfl, trivial⟩ ?_
      refine CX.region ?_
      refine RX.cons rfl rfl (op_w (yw_move rfl rfl) rfl rfl ?_)
      refine RX.cons rfl rfl (op_w (yw_add rfl rfl rfl (by omega) (by omega)) rfl rfl ?_)
      refine RX.cons rfl rfl (op_w (yw_assign rfl rfl) rfl rfl ?_)
      refine RX.nil (XX.againP ([.row (some ⟨g9, 0, none⟩) 3 3 1 (List.map iC ([Ln.p x0, Ln.b x0, Ln.a x0]))]) (i + 1, (A2, c2), ns ++ [Ln.p x0, Ln.b x0, Ln.a x0]) (by dsimp only; omega) ⟨by dsimp only; omega, by dsimp only; rw [hns, numsL_succ hx0, List.append_assoc]⟩ ⟨rfl, rfl, rfl, trivial⟩ ((perm_pick 1 rfl).trans (List.Perm.cons _ ((perm_pick 1 rfl).trans (List.Perm.cons _ (List.Perm.refl _))))))
    · have hns' : ns = ([Stm.h s, Stm.c s, ((List.length (Stm.ls s) : Nat) : Int)] ++ numsL s.ls) := by rw [hns, List.take_of_length_le (by omega)]
      refine CX.exit ?_
      refine XX.then_exit ?_
      refine XX.then_exit ?_
      refine XX.block_exit ?_
      refine XX.next (V' := [(5, .slice A1 (List.length (ns : List Int)) c1)]) ⟨rfl, trivial⟩ ?_
      refine CX.seq ?_
      refine CX.region ?_
      refine RX.cons rfl rfl (op_w (yw_assign rfl rfl) rfl rfl ?_)
      refine RX.nil (XX.next (V' := [(5, .slice A1 (List.length (ns : List Int)) c1), (7, .string .empty)]) ⟨rfl, rfl, trivial⟩ ?_)
      refine CX.seq ?_
      refine CX.seq ?_
      refine CX.region ?_
      refine RX.cons rfl rfl (op_w (yw_assign rfl rfl) rfl rfl ?_)
      refine RX.nil (XX.next (V' := [(5, .slice A1 (List.length (ns : List Int)) c1), (7, .string .empty), (8, .int .i64 0)]) ⟨rfl, rfl, rfl, trivial⟩ ?_)
      refine CX.block ?_
      refine CX.loop (σ := Nat) (fun j => [(5, .slice A1 (List.length (ns : List Int)) c1), (7, .string (⟨(putL (ns.take j)).toArray⟩)), (8, .int .i64 ((j : Nat) : Int))]) (fun j => [.row A1 c1 3 1 (List.map iC ns), .blk gs (.cells (#[.int .i64 (Stm.h s), .int .i64 (Stm.c s), .slice A (List.length (Stm.ls s)) cap]) 34 (0, 0))]) (fun j => j ≤ ns.length) (fun j => ns.length - j) 0 (Nat.zero_le _) ⟨rfl, rfl, rfl, trivial⟩ rfl (fun j hI => ?_)
      refine CX.seq ?_
      refine CX.seq ?_
      refine CX.region ?_
      refine RX.cons rfl rfl (op_w (yw_move rfl rfl) rfl rfl ?_)
      refine RX.cons rfl rfl (op_w (yw_move rfl rfl) rfl rfl ?_)
      refine RX.cons rfl rfl (op_w (yw_lenS rfl Tryd.underlying71 rfl) rfl rfl ?_)
      refine RX.cons rfl rfl (op_w (yw_lss rfl rfl rfl) rfl rfl ?_)
      refine RX.nil (XX.next (V' := [(5, .slice A1 (List.length (ns : List Int)) c1), (7, .string (⟨(putL (ns.take j)).toArray⟩)), (8, .int .i64 ((j : Nat) : Int)), (54, .bool (decide (((j : Nat) : Int) < ((List.length (ns : List Int) : Nat) : Int))))]) ⟨rfl, rfl, rfl, rfl, trivial⟩ ?_)
      refine CX.condD (p := ((j : Nat) : Int) < ((List.length (ns : List Int) : Nat) : Int)) rfl (fun c54 => ?_) (fun c54 => ?_)
      · obtain ⟨n0, hn0⟩ := get_some (l := ns) (k := j) (by omega)
        obtain ⟨hn1, hn2⟩ := hnum n0 (by rw [← hns']; exact List.mem_of_getElem? hn0)
        refine CX.rowSome 0 rfl (by simp; omega) (fun hAn => ?_)
        have hpl := putL_le (ns.take j)
        rw [List.length_take] at hpl
        have hel := encI_le n0.toNat
        refine CX.skip (XX.next (V' := [(5, .slice A1 (List.length (ns : List Int)) c1), (7, .string (⟨(putL (ns.take j)).toArray⟩)), (8, .int .i64 ((j : Nat) : Int))]) ⟨rfl, rfl, rfl, trivial⟩ ?_)
        refine CX.seq ?_
        refine CX.block ?_
        refine CX.seq ?_
        refine CX.region ?_
        refine RX.cons rfl rfl (op_w (yw_move rfl rfl) rfl rfl ?_)
        refine RX.cons rfl rfl (op_w (yw_move rfl rfl) rfl rfl ?_)
        refine RX.cons rfl rfl (op_w (yw_index (k := j) rfl slt_71 rfl rfl (by omega) (by omega) hAn) rfl rfl ?_)
        refine RX.cons rfl rfl (op_yld (y_rowElem1 (i := 0) rfl rfl one_3 rfl (map_get hn0)) rfl rfl ?_)
        refine RX.know (t := 61) (u := .int .i64 ((n0.toNat : Nat) : Int)) rfl (congrArg (Value.int .i64) (by omega)) ?_
        refine RX.cons rfl rfl (op_callV (v := .tuple #[.string (⟨List.toArray (encI n0.toNat)⟩), .int .i64 0]) rfl rfl rfl rfl rfl ent_39 (fun w hw => w_putInt01 n0.toNat (by omega)) ?_)
        refine RX.cons rfl rfl (op_w (yw_move rfl rfl) rfl rfl ?_)
        refine RX.cons rfl rfl (op_w (yw_extract rfl rfl rfl) rfl rfl ?_)
        refine RX.cons rfl rfl (op_w (yw_extract rfl rfl rfl) rfl rfl ?_)
        refine RX.cons rfl rfl (op_w (yw_assign rfl rfl) rfl rfl ?_)
        refine RX.cons rfl rfl (op_w (yw_assign rfl rfl) rfl rfl ?_)
        refine RX.nil (XX.next (V' := [(5, .slice A1 (List.length (ns : List Int)) c1), (7, .string (⟨(putL (ns.take j)).toArray⟩)), (8, .int .i64 ((j : Nat) : Int)), (9, .string (⟨List.toArray (encI n0.toNat)⟩))]) ⟨rfl, rfl, rfl, rfl, trivial⟩ ?_)
        refine CX.region ?_
        refine RX.cons rfl rfl (op_w (yw_move rfl rfl) rfl rfl ?_)
        refine RX.cons rfl rfl (op_w (yw_move rfl rfl) rfl rfl ?_)
        refine RX.cons rfl rfl (op_w (yw_stradd rfl rfl rfl (by simp only [ByteArray.size, List.size_toArray]; omega)) rfl rfl ?_)
        refine RX.know (t := 67) (u := .string (⟨(putL (ns.take (j + 1))).toArray⟩)) rfl (congrArg Value.string (cat_put hn0)) ?_
        refine RX.cons rfl rfl (op_w (yw_assign rfl rfl) rfl rfl ?_)
        refine RX.nil (XX.inBlock (V' := [(5, .slice A1 (List.length (ns : List Int)) c1), (7, .string (⟨(putL (ns.take (j + 1))).toArray⟩)), (8, .int .i64 ((j : Nat) : Int))]) ⟨rfl, rfl, rfl, trivial⟩ ?_)
        refine XX.next (V' := [(5, .slice A1 (List.length (ns : List Int)) c1), (7, .string (⟨(putL (ns.take (j + 1))).toArray⟩)), (8, .int .i64 ((j : Nat) : Int))]) ⟨rfl, rfl, rfl, trivial⟩ ?_
        refine CX.region ?_
        refine RX.cons rfl rfl (op_w (yw_move rfl rfl) rfl rfl ?_)
        refine RX.cons rfl rfl (op_w (yw_add rfl rfl rfl (by omega) (by omega)) rfl rfl ?_)
        refine RX.cons rfl rfl (op_w (yw_assign rfl rfl) rfl rfl ?_)
        refine RX.nil (XX.againP ([]) (j + 1) (by omega) (by omega) ⟨rfl, rfl, rfl, trivial⟩ ((perm_pick 0 rfl).trans (List.Perm.cons _ ((perm_pick 0 rfl).trans (List.Perm.cons _ (List.Perm.refl _))))))
      · refine CX.exit ?_
        refine XX.then_exit ?_
        refine XX.then_exit ?_
        refine XX.block_exit ?_
        refine XX.next (V' := [(7, .string (⟨(putL (ns.take j)).toArray⟩))]) ⟨rfl, trivial⟩ ?_
        refine CX.seq ?_
        refine CX.region ?_
        refine RX.cons rfl rfl (op_w (yw_move rfl rfl) rfl rfl ?_)
        refine RX.cons rfl rfl (op_w (yw_assign rfl rfl) rfl rfl ?_)
        refine RX.cons rfl rfl (op_w (yw_assign rfl rfl) rfl rfl ?_)
        refine RX.nil (XX.next (V' := [(2, .string (⟨(putL (ns.take j)).toArray⟩)), (3, .int .i64 0)]) ⟨rfl, rfl, trivial⟩ ?_)
        refine CX.ret ?_
        exact ret_tmp2 rfl rfl rfl fun w1 hw => ⟨by rw [encR_ok hok, encL_nums, ← hns', List.take_of_length_le (by omega)], hw.sub (List.nil_sublist _)⟩

end Go.Proofs.YtnadipjlhlbfoaaDoor
namespace Go.Proofs.YtnadipjlhlbfoaaDoor
set_option linter.all false
open Go Go.RowKit
set_option maxRecDepth 100000
theorem logE_blocks (g : Nat) (z : LZ) (X : List SX) : [logE g z X].flatMap Ent.blocks = (logTop g z X ++ lns X).flatMap Ent.blocks := by
  rw [List.flatMap_cons, List.flatMap_nil, List.append_nil]; rfl
theorem SL.logOpen {w0 w : World} {O : List Nat} {L : List Ent} {g : Nat} {z : LZ} {X : List SX} (h : SL w0 O w (logE g z X :: L)) : SL w0 O w (logTop g z X ++ (lns X ++ L)) := by
  have := SL.unpack (es := logTop g z X ++ lns X) h
  rwa [List.append_assoc] at this
theorem SL.logShut {w0 w : World} {O : List Nat} {L : List Ent} {g : Nat} {z : LZ} {X : List SX} (h : SL w0 O w (logTop g z X ++ (lns X ++ L))) : SL w0 O w (logE g z X :: L) :=
  SL.pack (es := logTop g z X ++ lns X) (by rwa [List.append_assoc])
theorem lns_append (X Y : List SX) : lns (X ++ Y) = lns X ++ lns Y := by simp [lns]
/-- What a log's Append leaves. -/
theorem logGrown {w0 w : World} {O : List Nat} {g : Nat} {z : LZ} {X0 X : List SX} {Y : List SX} {es : List ByteArray} {h : ByteArray} (hY : Y.map (·.2) = X.map (·.2)) (e1 : es = entsX X0 ++ entsF (headX X0) (X.map (fun x : SX => encS x.2))) (e2 : h = headF (headX X0) (X.map (fun x : SX => encS x.2)))
    (hw : SL w0 O w ([.blk g (.cells #[.slice z.1.1 (X0 ++ Y).length z.1.2, .slice z.2.1 es.length z.2.2, .string h] 64 (0, 0)), .row z.1.1 z.1.2 34 3 (List.map stC (X0 ++ Y)), .row z.2.1 z.2.2 9 1 (List.map strC es), pack (lns Y)] ++ lns X0)) : SL w0 O w [logE g z (X0 ++ Y)] := by
  have ey : encsX Y = X.map (fun x : SX => encS x.2) := by
    have := encsX_of hY
    rw [this]; rfl
  have e1' : es = entsX (X0 ++ Y) := by rw [e1, entsX_append, ey]
  have e2' : h = headX (X0 ++ Y) := by rw [e2, headX_append, ey]
  rw [e1', e2'] at hw
  have h1 : SL w0 O w (pack (lns Y) :: (logTop g z (X0 ++ Y) ++ lns X0)) := hw.perm (perm_pick 3 rfl)
  have h2 := h1.unpack
  have h3 : SL w0 O w (logTop g z (X0 ++ Y) ++ (lns (X0 ++ Y) ++ [])) := h2.perm (by
    rw [List.append_nil, lns_append]
    refine List.perm_append_comm.trans ?_
    rw [List.append_assoc])
  exact h3.logShut
theorem w_newE {w : World} : Calls Tryd.prog 11 #[] w (fun e w' => ∃ g : Nat, True ∧ e = .returned (.pointer (some ⟨g, 0, none⟩)) ∧ SL w [] w' [logE g ((none, 0), (none, 0)) []]) := by
  refine w_new.mono ?_
  rintro e w' ⟨g, _, he, hw⟩
  refine ⟨g, trivial, he, ?_⟩
  have h1 := (hw.rowNil 9 1).rowNil 34 3
  have h2 : SL w [] w' (logTop g ((none, 0), (none, 0)) [] ++ (lns [] ++ [])) := h1.perm (perm_pick 2 rfl)
  exact h2.logShut
theorem w_appendE {w : World} {A : Option Addr} {cap g : Nat} {z : LZ} (X0 X : List SX) (hr : Rd w A 3 (X.map stC)) (hX : ∀ x ∈ X, Rd w x.1.1 3 (x.2.ls.map lnC)) (hAO : X ≠ [] → ab A ∉ [logE g z X0].flatMap Ent.blocks) (hXO : ∀ x ∈ X, x.2.ls ≠ [] → ab x.1.1 ∉ [logE g z X0].flatMap Ent.blocks) (hXl : ∀ x ∈ X, x.2.ls.length ≤ 1000000) (hl : X.length ≤ 1000000) (hs : SL w ([logE g z X0].flatMap Ent.blocks) w [logE g z X0]) (hG : Rounds w) (hg0 : 0 ∉ [logE g z X0].flatMap Ent.blocks) (hok : ∀ x ∈ X, okS x.2 = true) (hlen : X0.length + X.length ≤ 1000000) :
    Calls Tryd.prog 12 #[.pointer (some ⟨g, 0, none⟩), .slice A X.length cap] w (fun e w' => ∃ y : LZ × List SX, y.2.map (·.2) = X.map (·.2) ∧ e = .returned (.int .i64 0) ∧ SL w ([logE g z X0].flatMap Ent.blocks) w' [logE g y.1 (X0 ++ y.2)]) := by
  have h1 : SL w ([logE g z X0].flatMap Ent.blocks) w (logTop g z X0 ++ lns X0) := by have := SL.logOpen (L := []) hs; rwa [List.append_nil] at this
  have hsub : ∀ b, b ∉ [logE g z X0].flatMap Ent.blocks → b ∉ (logTop g z X0).flatMap Ent.blocks := fun b hb h => hb (by rw [logE_blocks, List.flatMap_append]; exact List.mem_append_left _ h)
  refine (w_append X0 (entsX X0) (headX X0) X hr hX (fun h => hsub _ (hAO h)) (fun x hx h => hsub _ (hXO x hx h)) hXl hl (h1.restart (List.Perm.refl _)) hG (hsub _ hg0) hok hlen (entsX_length X0) (by rw [headX_size]; decide)).mono ?_
  rintro e w' ⟨⟨y, Y⟩, hY, he, hw⟩
  refine ⟨(y, Y), hY, he, ?_⟩
  have h2 := SL.call (M := logTop g z X0) (R := lns X0) h1 rfl hw
  exact logGrown hY rfl rfl h2
theorem w_appendBadE {w : World} {A : Option Addr} {cap g : Nat} {z : LZ} (X0 X : List SX) (hr : Rd w A 3 (X.map stC)) (hX : ∀ x ∈ X, Rd w x.1.1 3 (x.2.ls.map lnC)) (hAO : X ≠ [] → ab A ∉ [logE g z X0].flatMap Ent.blocks) (hXO : ∀ x ∈ X, x.2.ls ≠ [] → ab x.1.1 ∉ [logE g z X0].flatMap Ent.blocks) (hXl : ∀ x ∈ X, x.2.ls.length ≤ 1000000) (hl : X.length ≤ 1000000) (hs : SL w ([logE g z X0].flatMap Ent.blocks) w [logE g z X0]) (hbad : ¬ ∀ x ∈ X, okS x.2 = true) :
    Calls Tryd.prog 12 #[.pointer (some ⟨g, 0, none⟩), .slice A X.length cap] w (fun e w' => e = .returned (.int .i64 240) ∧ SL w ([logE g z X0].flatMap Ent.blocks) w' [logE g z X0]) := by
  have h1 : SL w ([logE g z X0].flatMap Ent.blocks) w (logTop g z X0 ++ lns X0) := by have := SL.logOpen (L := []) hs; rwa [List.append_nil] at this
  have hsub : ∀ b, b ∉ [logE g z X0].flatMap Ent.blocks → b ∉ (logTop g z X0).flatMap Ent.blocks := fun b hb h => hb (by rw [logE_blocks, List.flatMap_append]; exact List.mem_append_left _ h)
  refine (w_appendBad X0 (entsX X0) (headX X0) X hr hX (fun h => hsub _ (hAO h)) (fun x hx h => hsub _ (hXO x hx h)) hXl hl (h1.restart (List.Perm.refl _)) hbad).mono ?_
  rintro e w' ⟨he, hw⟩
  refine ⟨he, ?_⟩
  have h2 := SL.call (M := logTop g z X0) (R := lns X0) h1 rfl hw
  rw [← List.append_nil (lns X0)] at h2
  exact h2.logShut
/-- A list of statements that lies apart from the entries M. -/
theorem apartL {w0 w : World} {O : List Nat} {M R : List Ent} (h : SL w0 O w (M ++ R)) (h0 : 0 ∉ M.flatMap Ent.blocks) (i : Nat) {X : List SX} (hq : R[i]? = some (pack (lns X))) : ∀ x ∈ X, ab x.1.1 ∉ M.flatMap Ent.blocks := by
  intro x hx
  cases hA : x.1.1 with
  | none => exact h0
  | some a =>
    refine h.apart i hq (b := a.block) ?_
    rw [pack_blocks]
    exact List.mem_flatMap.2 ⟨_, List.mem_map.2 ⟨x, hx, rfl⟩, by simp [Ent.blocks, hA]⟩
theorem lnsRd {w0 w : World} {O : List Nat} {L : List Ent} (hw : SL w0 O w L) {i : Nat} {X : List SX} (hL : L[i]? = some (pack (lns X))) : ∀ x ∈ X, Rd w x.1.1 3 (x.2.ls.map lnC) :=
  fun x hx => hw.packRd hL (List.mem_map.2 ⟨x, hx, rfl⟩)
end Go.Proofs.YtnadipjlhlbfoaaDoor
