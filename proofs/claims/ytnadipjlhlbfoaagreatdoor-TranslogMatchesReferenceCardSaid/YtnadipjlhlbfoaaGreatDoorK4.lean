/- Walks, printed by a program. Blocks of the call's own and others; rounds. Padding; the blocks of a string: aids for the walk of Sum. Walks, printed by a program. A builder's buffer: a row of bytes to which strings are appended; its bytes as a string; pointers told apart; functions of the table. Walks, printed by a program. Strings joined: the plain side. Walks, printed by a program. Walks, printed by a program. The bits of a number. -/
import Derived.Test.YtnadipjlhlbfoaaGreatDoorK3
import Derived.Test.YtnadipjlhlbfoaaGreatDoorK2
import Derived.Lib.Builder
import Derived.Lib.MakeNoZero
import Derived.Lib.UnsafeStr
import Derived.Laws.Externs
import Derived.LaidEqlPtr
namespace Go.Proofs.YtnadipjlhlbfoaaGreatDoor
set_option linter.all false
open Go Go.RowKit
set_option maxRecDepth 100000
theorem one_54 : One Tryz.prog 54 := ⟨_, Tryz.underlying54, rfl⟩
/-- A piece of 64 bytes. -/
def chunkV (g k : Nat) : List Value := [.slice (some ⟨g, 64 * k, none⟩) 64 64]
theorem chunk_inj {g k j : Nat} (h : chunkV g k = chunkV g j) : k = j := by
  simp [chunkV] at h
  omega
set_option maxRecDepth 100000 in
theorem w_chunk1 {w : World} {l Dk : Nat} {rec : Loop} {σ : Type} {St : σ → List Ent} {Rl : σ → List Value → σ → Prop} {ok : List Value → Prop} (s0 : σ) (hy : YieldG Tryz.prog w ((RB l Dk rec ++ St s0).flatMap Ent.blocks) l Dk rec St Rl ok) {g cap g1 g2 N : Nat} (h1 : w.cell? ⟨g1, 0, none⟩ = some (.slice (some ⟨g, 0, none⟩) (64 * N) cap)) (h2 : w.cell? ⟨g2, 0, none⟩ = some (.int .i64 64)) (hO1 : g1 ∉ ((RB l Dk rec ++ St s0).flatMap Ent.blocks)) (hO2 : g2 ∉ ((RB l Dk rec ++ St s0).flatMap Ent.blocks)) (hcap : 64 * N ≤ cap) (hN : 64 * N ≤ 281474976710656) (hok : ∀ k, k < N → ok (chunkV g k)) (hs : SL w ((RB l Dk rec ++ St s0).flatMap Ent.blocks) w (RB l Dk rec ++ St s0)) :
    Calls Tryz.prog 87 #[.func (.yield l) #[] #[], .pointer (some ⟨g1, 0, none⟩), .pointer (some ⟨g2, 0, none⟩)] w (fun e w' => ∃ s', Steps Rl s0 ((List.range N).map (chunkV g)) s' ∧ e = .returned (.tuple #[]) ∧ SL w ((RB l Dk rec ++ St s0).flatMap Ent.blocks) w' (RB l Dk rec ++ St s')) := by
 refine calls_of_CX (O := ((RB l Dk rec ++ St s0).flatMap Ent.blocks)) (L := ([.blk l (.loop rec), .blk Dk (.deferred (some []))] ++ (St s0))) (args := [.func (.yield l) #[] #[], .pointer (some ⟨g1, 0, none⟩), .pointer (some ⟨g2, 0, none⟩)]) Tryz.func87 rfl (by simp [Tryz.ntmps87]) hs ?_
 refine CX.sub (V' := [(0, .func (.yield l) #[] #[]), (1, .pointer (some ⟨g1, 0, none⟩)), (2, .pointer (some ⟨g2, 0, none⟩))]) ⟨rfl, rfl, rfl, trivial⟩ ?_
 refine CX.seq ?_
 refine CX.region ?_
 refine RX.cons rfl rfl (op_w (yw_assign rfl rfl) rfl rfl ?_)
 refine RX.nil (XX.next (V' := [(0, _), (1, _), (2, _), (4, _)]) ⟨rfl, rfl, rfl, rfl, trivial⟩ ?_)
 refine CX.block ?_
 refine CX.loop (σ := Nat × σ) (fun z => [(0, .func (.yield l) #[] #[]), (1, .pointer (some ⟨g1, 0, none⟩)), (2, .pointer (some ⟨g2, 0, none⟩)), (4, .int .i64 ((64 * z.1 : Nat) : Int))]) (fun z => ([.blk l (.loop rec), .blk Dk (.deferred (some []))] ++ (St z.2))) (fun z => z.1 ≤ N ∧ Steps Rl s0 ((List.range z.1).map (chunkV g)) z.2) (fun z => N - z.1) (0, s0) ⟨Nat.zero_le _, .nil s0⟩ ⟨rfl, rfl, rfl, rfl, trivial⟩ rfl (fun z hI => ?_)
 obtain ⟨k, s⟩ := z
 dsimp only at hI ⊢
 obtain ⟨hk, hst⟩ := hI
 refine CX.seq ?_
 refine CX.seq ?_
 refine CX.region ?_
 refine RX.cons rfl rfl (op_w (yw_move rfl rfl) rfl rfl ?_)
 refine RX.cons rfl rfl (op_yld (y_loadG (v := .slice (some ⟨g, 0, none⟩) (64 * N) cap) rfl rfl one_54 h1 hO1) rfl rfl ?_)
 refine RX.cons rfl rfl (op_w (yw_lenS rfl Tryz.underlying54 rfl) rfl rfl ?_)
 refine RX.cons rfl rfl (op_w (yw_lss rfl rfl rfl) rfl rfl ?_)
 refine RX.nil (XX.next (V' := [(0, _), (1, _), (2, _), (4, _), (9, _)]) ⟨rfl, rfl, rfl, rfl, rfl, trivial⟩ ?_)
 refine CX.condD (p := ((64 * k : Nat) : Int) < (((64 * N) : Nat) : Int)) rfl (fun c9 => ?_) (fun c9 => ?_)
 ·refine CX.skip (XX.next (V' := [(0, _), (1, _), (2, _), (4, _)]) ⟨rfl, rfl, rfl, rfl, trivial⟩ ?_)
  refine CX.seq ?_
  refine CX.block ?_
  refine CX.seq ?_
  refine CX.draw 7 [(0, 4, 8192), (0, 2, 16384), (0, 16, 32768), (6, 49152, 65536), (8, 65536, 131072), (17, 139264, 262144), (63, 262144, 32)] (by kernel_rfl) (by kernel_rfl) (by kernel_rfl) ?_
  refine DX.take 0 1 (by kernel_rfl) rfl rfl rfl rfl rfl (List.Sublist.refl _) (y_loadG (v := .int .i64 64) rfl rfl one_3 h2 hO2) ?_
  refine DX.take 1 3 (by kernel_rfl) rfl rfl rfl rfl rfl (List.Sublist.refl _) (y_loadG (v := .slice (some ⟨g, 0, none⟩) (64 * N) cap) rfl rfl one_54 h1 hO1) ?_
  refine DX.takeW 2 7 (by kernel_rfl) rfl rfl rfl rfl rfl (yw_move rfl rfl) ?_
  refine DX.takeW 3 15 (by kernel_rfl) rfl rfl rfl rfl rfl (yw_sliceFrom (k := (64 * k)) rfl slt_54 rfl rfl (by omega) (by omega)) ?_
  refine DX.takeW 4 31 (by kernel_rfl) rfl rfl rfl rfl rfl (yw_lenS rfl Tryz.underlying54 rfl) ?_
  refine DX.takeW 5 63 (by kernel_rfl) rfl rfl rfl rfl rfl (yw_min rfl rfl rfl) ?_
  refine DX.takeW 6 127 (by kernel_rfl) rfl rfl rfl rfl rfl (yw_assign rfl rfl) ?_
  refine DX.know (t := 5) (u := .int .i64 ((64 : Nat) : Int)) rfl (congrArg (Value.int .i64) (by omega)) ?_
  refine DX.done (by kernel_rfl) (XX.next (V' := [(0, _), (1, _), (2, _), (4, _), (5, _)]) ⟨rfl, rfl, rfl, rfl, rfl, trivial⟩ ?_)
  refine CX.seq ?_
  refine CX.region ?_
  refine RX.cons rfl rfl (op_w (yw_move rfl rfl) rfl rfl ?_)
  refine RX.cons rfl rfl (op_yld (y_loadG (v := .slice (some ⟨g, 0, none⟩) (64 * N) cap) rfl rfl one_54 h1 hO1) rfl rfl ?_)
  refine RX.cons rfl rfl (op_w (yw_move rfl rfl) rfl rfl ?_)
  refine RX.cons rfl rfl (op_w (yw_move rfl rfl) rfl rfl ?_)
  refine RX.cons rfl rfl (op_w (yw_move rfl rfl) rfl rfl ?_)
  refine RX.cons rfl rfl (op_w (yw_add rfl rfl rfl (by omega) (by omega)) rfl rfl ?_)
  refine RX.cons rfl rfl (op_w (yw_move rfl rfl) rfl rfl ?_)
  refine RX.cons rfl rfl (op_w (yw_move rfl rfl) rfl rfl ?_)
  refine RX.cons rfl rfl (op_w (yw_add rfl rfl rfl (by omega) (by omega)) rfl rfl ?_)
  refine RX.cons rfl rfl (op_w (yw_slice3n (i := (64 * k)) (j := (64 * k + 64)) (k := (64 * k + 64)) rfl slt_54 rfl rfl rfl rfl (by omega) (by omega) (by omega) (by omega) (by omega) (by omega) (by omega) (mm := 64) (by omega) (cc := 64) (by omega)) rfl rfl ?_)
  refine RX.cons rfl rfl (op_yieldG s hy rfl rfl rfl rfl rfl (by have := hok k (by omega); rw [Nat.zero_add, Nat.mul_one]; exact this) rfl (fun s' hs' => ?_))
  refine RX.cons rfl rfl (op_w (yw_not rfl rfl) rfl rfl ?_)
  refine RX.nil (XX.next (V' := [(0, _), (1, _), (2, _), (4, _), (30, _)]) ⟨rfl, rfl, rfl, rfl, rfl, trivial⟩ ?_)
  refine CX.condF rfl ?_
  refine CX.skip (XX.inBlock (V' := [(0, _), (1, _), (2, _), (4, _)]) ⟨rfl, rfl, rfl, rfl, trivial⟩ ?_)
  refine XX.next (V' := [(0, _), (1, _), (2, _), (4, _)]) ⟨rfl, rfl, rfl, rfl, trivial⟩ ?_
  refine CX.region ?_
  refine RX.cons rfl rfl (op_w (yw_move rfl rfl) rfl rfl ?_)
  refine RX.cons rfl rfl (op_yld (y_loadG (v := .int .i64 64) rfl rfl one_3 h2 hO2) rfl rfl ?_)
  refine RX.cons rfl rfl (op_w (yw_add rfl rfl rfl (by omega) (by omega)) rfl rfl ?_)
  refine RX.cons rfl rfl (op_w (yw_assign rfl rfl) rfl rfl ?_)
  refine RX.know (t := 4) (u := .int .i64 ((64 * (k + 1) : Nat) : Int)) rfl (congrArg (Value.int .i64) (by omega)) ?_
  refine RX.nil (XX.againP ([]) (k + 1, s') (by dsimp only; omega) ⟨by dsimp only; omega, by dsimp only; rw [List.range_succ, List.map_append]; refine .snoc hst ?_; rw [Nat.zero_add, Nat.mul_one] at hs'; exact hs'⟩ ⟨rfl, rfl, rfl, rfl, trivial⟩ (perm_nil _))
 ·refine CX.exit ?_
  refine XX.then_exit ?_
  refine XX.then_exit ?_
  refine XX.block_exit ?_
  exact end_none rfl fun w1 hw => ⟨s, by rw [show N = k from by omega]; exact hst, rfl, hw⟩

end Go.Proofs.YtnadipjlhlbfoaaGreatDoor
namespace Go.Proofs.YtnadipjlhlbfoaaGreatDoor
set_option linter.all false
open Go Go.RowKit
section
variable {w0 w : World} {O : List Nat} {M R : List Ent}
/-- Blocks that the call has made. -/
theorem SL.fresh {L : List Ent} (h : SL w0 [] w L) {M : List Ent} (hM : M ⊆ L) {b : Nat} (hb : b < w0.heap.size) : b ∉ M.flatMap Ent.blocks := by
  intro hm
  obtain ⟨p, hp, hbp⟩ := List.mem_flatMap.1 hm
  rcases h.own p (hM hp) b hbp with h1 | h1
  · simp at h1
  · omega
theorem SL.apart (h : SL w0 O w (M ++ R)) (i : Nat) {q : Ent} (hq : R[i]? = some q) {b : Nat} (hb : b ∈ q.blocks) : b ∉ M.flatMap Ent.blocks := by
  intro hm
  have hn := h.nodup
  rw [List.flatMap_append, List.nodup_append] at hn
  exact hn.2.2 b hm b (List.mem_flatMap.2 ⟨q, List.mem_of_getElem? hq, hb⟩) rfl
theorem SL.apartA (h : SL w0 O w (M ++ R)) (h0 : 0 ∉ M.flatMap Ent.blocks) (i : Nat) {A : Option Addr} {cap : Nat} {e : TypeId} {sz : Nat} {xs : List (Array Value)} (hq : R[i]? = some (.row A cap e sz xs)) : ab A ∉ M.flatMap Ent.blocks := by
  cases A with
  | none => exact h0
  | some a => exact h.apart i hq (b := a.block) (by simp [Ent.blocks])
end
theorem Holds.round {n : Nat} {D : List Deferred} {a : Act} {V : List (Nat × Value)} (h : Holds n D a V) (p : Nat) (hp : Nat.blt p n = true) (v : Value) : Holds n [] { tmps := a.tmps.setIfInBounds p v, defers := [] } ((p, v) :: V) := by
  have := h.put hp v
  exact ⟨rfl, this.size, this.at_⟩
theorem SL.keepC {w0 w : World} {O : List Nat} {L : List Ent} (h : SL w0 O w L) {a : Addr} {v : Value} (hc : w0.cell? a = some v) (hO : a.block ∉ O) : w.cell? a = some v := by
  rw [h.cell0 (World.block_lt_of_cell? w0 _ hc) hO]; exact hc
theorem Ent.capLe {w : World} {A : Option Addr} {cap : Nat} {e : TypeId} {sz : Nat} {xs : List (Array Value)} (h : (Ent.row A cap e sz xs).sat w) : xs.length ≤ cap := by
  obtain ⟨⟨_, h2⟩, _⟩ := h
  rcases h2 with ⟨hv, hn⟩ | ⟨g, c, _, hv, _, _, hn, _⟩
  · omega
  · injection hv with _ _ hc
    omega

theorem CX.rowCap {P : Program} {w0 : World} {O : List Nat} {n : Nat} {D : List Deferred} {V : List (Nat × Value)} {L : List Ent} {r : Option Nat} {Q : Exit → Act → World → Prop} {c : Code} {α : Type} {enc : α → Array Value} (i : Nat) {A : Option Addr} {cap : Nat} {e : TypeId} {sz : Nat} {xs : List α} (hL : L[i]? = Option.some (.row A cap e sz (xs.map enc)))
    (h : xs.length ≤ cap → CX P r Q w0 O n D c V L) : CX P r Q w0 O n D c V L :=
  fun a w ha hw => h (by have := Ent.capLe (hw.ents _ (List.mem_of_getElem? hL)); rwa [List.length_map] at this) a w ha hw
/-! ### A shorter row -/
theorem Ent.takeRow {w : World} {A : Option Addr} {cap : Nat} {e : TypeId} {sz : Nat} {xs : List (Array Value)} (h : (Ent.row A cap e sz xs).sat w) (k : Nat) : (Ent.row A cap e sz (xs.take k)).sat w := by
  obtain ⟨⟨h1, h2⟩, h3⟩ := h
  have h3' : ∀ c ∈ xs.take k, c.size = sz ∧ ∀ u ∈ c.toList, u.oneCell' = true := fun c hc => h3 c (List.mem_of_mem_take hc)
  have hf : flat (xs.take k) = (flat xs).take ((xs.take k).length * sz) := by
    have e1 : flat xs = flat (xs.take k) ++ flat (xs.drop k) := by rw [← flat_append, List.take_append_drop]
    have e2 := flat_length (fun c hc => (h3' c hc).1)
    rw [e1, ← e2, List.take_left]
  have hle : (xs.take k).length ≤ xs.length := by simp; omega
  refine ⟨⟨flat_length (fun c hc => (h3' c hc).1), ?_⟩, h3'⟩
  rcases h2 with ⟨hv, h0⟩ | ⟨g, cp, cur, hv, hbg, hg, hnc, hcm, hcs, htake⟩
  · injection hv with hA hl hc
    left
    refine ⟨?_, by omega⟩
    rw [hA, hc, show (xs.take k).length = 0 from by omega]
  · injection hv with hA hl hc
    right
    refine ⟨g, cap, cur, by rw [hA], hbg, hg, by omega, by omega, by rw [hc]; exact hcs, ?_⟩
    rw [hf, ← htake, List.take_take, Nat.min_eq_left (Nat.mul_le_mul_right _ hle)]
section
variable {P : Program} {w0 : World} {O : List Nat} {n : Nat} {D : List Deferred} {o : Oper} {V : List (Nat × Value)} {L : List Ent} {T : List (Nat × Value) → List Ent → Prop}
theorem SL.takeRow {w : World} (h : SL w0 O w L) {i : Nat} {A : Option Addr} {cap : Nat} {e : TypeId} {sz : Nat} {xs : List (Array Value)} (hL : L[i]? = some (.row A cap e sz xs)) (k : Nat) : SL w0 O w (L.set i (.row A cap e sz (xs.take k))) :=
  h.setI hL rfl rfl rfl (Nat.le_refl _) (Ent.takeRow (h.ents _ (List.mem_of_getElem? hL)) k) row_blocks_nodup (fun b hb => .inl hb) (fun _ _ _ => rfl)
/-- append to the head of a slice of one's own. -/
theorem op_appendMT {α : Type} (enc : α → Array Value) {x y : Operand} {t e : TypeId} {d sz bytes i j m k : Nat} {z : Value} {A B : Option Addr} {cap c capy : Nat} {ey : TypeId} {xs : List α} (ys : List α) {yc : List (Array Value)}
    (ho : o.op = .call { callee := .builtin .append, args := #[x, y], argTypes := #[t, t] }) (hd : o.dst = some d) (hdn : Nat.blt d n = true) (ht : SlB P t e sz bytes z) (hx : ev V x = some (.slice A k cap)) (hL : L[i]? = some (.row A cap e sz (xs.map enc))) (hk : k ≤ xs.length) (hij : i ≠ j)
    (hy : ev V y = some (.slice B m c)) (hm : ys.length = m) (hLy : L[j]? = some (.row B capy ey sz yc)) (hyc : ys.map enc = yc) (h63 : k + ys.length ≤ 9223372036854775807) (hby : (k + ys.length) * bytes ≤ 140737488355328)
    (hT : ∀ A' cap', T ((d, .slice A' (xs.take k ++ ys).length cap') :: V) (L.set i (.row A' cap' e sz ((xs.take k ++ ys).map enc)))) : OpS P w0 O n D o V L T := by
  intro a w ha hw
  have hkl : (xs.take k).length = k := by simp; omega
  have hi : i < L.length := (List.getElem?_eq_some_iff.1 hL).1
  have hw' := hw.takeRow hL k
  rw [← List.map_take] at hw'
  refine op_appendM enc (i := i) (j := j) (xs := xs.take k) ys ho hd hdn ht (by rw [hkl]; exact hx) (by rw [List.getElem?_set_self hi]) hy hm (by rw [List.getElem?_set_ne hij]; exact hLy) hyc (by rw [hkl]; exact h63) (by rw [hkl]; exact hby) (fun A' cap' => ?_) a w ha hw'
  rw [List.set_set]
  exact hT A' cap'
end
end Go.Proofs.YtnadipjlhlbfoaaGreatDoor
namespace Go.Proofs.YtnadipjlhlbfoaaGreatDoor
set_option linter.all false
open Go Go.RowKit
theorem zeros_step {j : Nat} {b : List UInt8} (hj : j < 64) (hb : ¬ b.length % 64 = 56) : zerosTo (64 - j) b = zerosTo (64 - (j + 1)) (b ++ [0]) := by
  rw [show 64 - j = (64 - (j + 1)) + 1 from by omega, zerosTo, if_neg hb]
theorem zeros_done {j : Nat} {b : List UInt8} (hj : j < 64) (hb : b.length % 64 = 56) : zerosTo (64 - j) b = b := by
  rw [show 64 - j = (64 - (j + 1)) + 1 from by omega, zerosTo, if_pos hb]
theorem Rd.drop1 {w : World} {g o : Nat} {xs : List (Array Value)} (h : Rd w (Option.some ⟨g, o, none⟩) 1 xs) (k : Nat) : Rd w (Option.some ⟨g, o + k, none⟩) 1 (xs.drop k) := by
  refine ⟨fun i c hc => ?_⟩
  rw [List.getElem?_drop] at hc
  obtain ⟨h1, _, h3, h4, h5⟩ := h.at_ (k + i) c hc
  refine ⟨h1, ⟨g, o + k, rfl⟩, h3, h4, fun j hj => ?_⟩
  have := h5 j hj
  have e : (⟨ab (Option.some ⟨g, o + k, none⟩), ao (Option.some ⟨g, o + k, none⟩) + i * 1 + j, none⟩ : Addr) = ⟨ab (Option.some ⟨g, o, none⟩), ao (Option.some ⟨g, o, none⟩) + (k + i) * 1 + j, none⟩ := by
    simp [ab, ao]; omega
  rw [e]; exact this
theorem Rd.take' {w : World} {A : Option Addr} {sz : Nat} {xs : List (Array Value)} (h : Rd w A sz xs) (k : Nat) : Rd w A sz (xs.take k) :=
  ⟨fun j c hc => by
    rw [List.getElem?_take] at hc
    split at hc
    · exact h.at_ j c hc
    · cases hc⟩
theorem chunk_rd {w : World} {g : Nat} {xs : List UInt8} (h : Rd w (some ⟨g, 0, none⟩) 1 (xs.map u8c)) (k : Nat) : Rd w (some ⟨g, 64 * k, none⟩) 1 ((chunkL xs k).map u8c) := by
  have := (h.drop1 (64 * k)).take' 64
  rw [Nat.zero_add, ← List.map_drop, ← List.map_take] at this
  exact this
theorem chunk_len {xs : List UInt8} {k N : Nat} (h : xs.length = 64 * N) (hk : k < N) : (chunkL xs k).length = 64 := by
  simp [chunkL, h]; omega
theorem Steps.fold {σ : Type} {Rl : σ → List Value → σ → Prop} {f : Nat → List Value} {step : σ → Nat → σ} (h : ∀ s k s', Rl s (f k) s' → s' = step s k) {s0 : σ} : ∀ (N : Nat) (s' : σ), Steps Rl s0 ((List.range N).map f) s' → s' = (List.range N).foldl step s0
  | 0, s', hs => by
    generalize hx : (List.range 0).map f = X at hs
    cases hs with
    | nil => rfl
    | snoc h1 h2 => simp at hx
  | N + 1, s', hs => by
    generalize hx : (List.range (N + 1)).map f = X at hs
    cases hs with
    | nil => simp at hx
    | snoc h1 h2 =>
      rw [List.range_succ, List.map_append] at hx
      have := List.append_inj' hx rfl
      obtain ⟨e1, e2⟩ := this
      subst e1
      simp at e2
      subst e2
      rw [List.range_succ, List.foldl_append, ← Steps.fold h N _ h1]
      exact h _ _ _ h2
end Go.Proofs.YtnadipjlhlbfoaaGreatDoor
namespace Go.Proofs.YtnadipjlhlbfoaaGreatDoor
set_option linter.all false
open Go Go.RowKit
set_option maxRecDepth 100000
theorem slb_54 : SlB Tryz.prog 54 5 1 1 (.int .u8 0) := ⟨Tryz.underlying54, ⟨(Tryz.prog.info? 5).get!, by kernel_rfl, by kernel_rfl, by kernel_rfl, by kernel_rfl⟩, by decide, by decide⟩
theorem ent_70 : ∀ args w, (callFunc 70 args).run Tryz.prog w = .ok (.enter 70 args) w := enters_of Tryz.func70 (by kernel_rfl) rfl
theorem ent_87 : ∀ args w, (callFunc 87 args).run Tryz.prog w = .ok (.enter 87 args) w := enters_of Tryz.func87 (by kernel_rfl) rfl
theorem ent_71 : ∀ args w, (callFunc 71 args).run Tryz.prog w = .ok (.enter 71 args) w := enters_of Tryz.func71 (by kernel_rfl) rfl
theorem ent_72 : ∀ args w, (callFunc 72 args).run Tryz.prog w = .ok (.enter 72 args) w := enters_of Tryz.func72 (by kernel_rfl) rfl
set_option maxRecDepth 100000 in
theorem w_chunk {w : World} (A : Option Addr) (n c : Nat) :
    Calls Tryz.prog 70 #[.slice A n c, .int .i64 64] w (fun e w' => ∃ z : Nat × Nat, True ∧ e = .returned (.func (.func 87) #[] #[.pointer (some ⟨z.1, 0, none⟩), .pointer (some ⟨z.2, 0, none⟩)]) ∧ SL w [] w' [.blk z.2 (.cells #[.int .i64 64] 3 (0, 0)), .blk z.1 (.cells #[.slice A n c] 54 (0, 0))]) := by
 refine calls_of_CX (O := []) (L := []) (args := [.slice A n c, .int .i64 64]) Tryz.func70 rfl (by simp [Tryz.ntmps70]) (SL.refl w) ?_
 refine CX.sub (V' := [(0, .slice A n c), (1, .int .i64 64)]) ⟨rfl, rfl, trivial⟩ ?_
 refine CX.seq ?_
 refine CX.region ?_
 refine RX.cons rfl rfl (op_box rfl rfl rfl rfl fun ga => ?_)
 refine RX.cons rfl rfl (op_box rfl rfl rfl rfl fun gb => ?_)
 refine RX.cons rfl rfl (op_w (yw_assign rfl rfl) rfl rfl ?_)
 refine RX.nil (XX.next (V' := [(2, _), (3, _)]) ⟨rfl, rfl, trivial⟩ ?_)
 refine CX.seq ?_
 refine CX.seq ?_
 refine CX.region ?_
 refine RX.cons rfl rfl (op_yld (y_load (i := 0) rfl rfl one_3 rfl rfl) rfl rfl ?_)
 refine RX.cons rfl rfl (op_w (yw_lss rfl rfl rfl) rfl rfl ?_)
 refine RX.know (t := 6) (u := .bool false) rfl (congrArg Value.bool (by decide)) ?_
 refine RX.nil (XX.next (V' := [(2, _), (3, _), (6, _)]) ⟨rfl, rfl, rfl, trivial⟩ ?_)
 refine CX.condF rfl ?_
 refine CX.skip (XX.next (V' := [(2, _), (3, _)]) ⟨rfl, rfl, trivial⟩ ?_)
 refine CX.seq ?_
 refine CX.region ?_
 refine RX.cons rfl rfl (op_w (yw_makeFunc rfl rfl rfl) rfl rfl ?_)
 refine RX.cons rfl rfl (op_w (yw_assign rfl rfl) rfl rfl ?_)
 refine RX.nil (XX.next (V' := [(4, .func (.func 87) #[] #[.pointer (some ⟨ga, 0, none⟩), .pointer (some ⟨gb, 0, none⟩)])]) ⟨rfl, trivial⟩ ?_)
 refine CX.ret ?_
 exact ret_tmp rfl rfl fun w1 hw => ⟨(ga, gb), trivial, rfl, hw⟩

set_option maxRecDepth 100000 in
theorem w_sum {w : World} (s : ByteArray) (hG : Rounds w) (hn : s.size ≤ 70368744177664) :
    Calls Tryz.prog 43 #[.string s] w (fun e w' => e = .returned (.string (sum s)) ∧ SL w [] w' []) := by
 have hsl : s.data.toList.length = s.size := by rw [Array.length_toList]; rfl
 refine calls_of_CXM (O := []) (L := []) (args := [.string s]) Tryz.func43 rfl (by simp [Tryz.ntmps43]) (SL.refl w) ?_
 refine CX.sub (V' := [(0, .string s)]) ⟨rfl, trivial⟩ ?_
 refine CX.seq ?_
 refine CX.region ?_
 refine RX.cons rfl rfl (op_w (yw_assign rfl rfl) rfl rfl ?_)
 refine RX.nil (XX.next (V' := [(0, _), (2, .string .empty)]) ⟨rfl, rfl, trivial⟩ ?_)
 refine CX.seq ?_
 refine CX.region ?_
 refine RX.cons rfl rfl (op_w (yw_build (v := .agg (#[.int .u32 1779033703, .int .u32 3144134277, .int .u32 1013904242, .int .u32 2773480762, .int .u32 1359893119, .int .u32 2600822924, .int .u32 528734635, .int .u32 1541459225])) rfl rfl (fun _ => by kernel_rfl)) rfl rfl ?_)
 refine RX.cons rfl rfl (op_alloc rfl rfl rfl zero_108 fun gh => ?_)
 refine RX.cons rfl rfl (op_storeAll (i := 0) rfl rfl rfl rfl szt_108 rfl (plain_of rfl) rfl rfl ?_)
 refine RX.know1 0 (q := .blk gh (.cells (arrW (Oct.list Oct.start)) 108 (0, 0))) rfl rfl ?_
 refine RX.nil (XX.next (V' := [(0, _), (2, .string .empty), (3, _), (7, _)]) ⟨rfl, rfl, rfl, rfl, trivial⟩ ?_)
 refine CX.seq ?_
 refine CX.region ?_
 refine RX.cons rfl rfl (op_w (yw_move rfl rfl) rfl rfl ?_)
 refine RX.cons rfl rfl (op_strBytes rfl rfl rfl Tryz.underlying9 Tryz.underlying54 Tryz.underlying5 rfl (by omega) fun g0 c0 => ?_)
 refine RX.cons rfl rfl (op_buildSlice rfl rfl rfl slb_54 rfl rfl (by intro v hv; simp only [List.mem_cons, List.not_mem_nil, or_false] at hv; subst hv; exact ⟨rfl, (plain_of rfl)⟩) (by decide) fun g1 => ?_)
 refine RX.cons rfl rfl (op_appendM1 (i := 1) (j := 0) (xs := (s.data.toList)) ([128]) rfl rfl rfl slb_54 rfl rfl rfl rfl rfl rfl (by simp; omega) fun ga ca => ?_)
 refine RX.cons rfl rfl (op_w (yw_assign rfl rfl) rfl rfl ?_)
 refine RX.nil (XX.next (V' := [(0, _), (2, .string .empty), (3, _), (4, _), (7, _), (8, _), (9, _), (10, _), (11, _)]) ⟨rfl, rfl, rfl, rfl, rfl, rfl, rfl, rfl, rfl, trivial⟩ ?_)
 refine CX.seq ?_
 refine CX.block ?_
 refine CX.drop (L' := [mrow ga ca 5 (s.data.toList ++ [128]), .blk gh (.cells (arrW (Oct.list Oct.start)) 108 (0, 0))]) (List.Sublist.cons _ (List.Sublist.refl _)) ?_
 refine CX.loop (σ := Nat × Nat × Nat × List UInt8) (fun z => [(0, .string s), (2, .string .empty), (3, .pointer (some ⟨gh, 0, none⟩)), (4, .slice (some ⟨z.2.1, 0, none⟩) z.2.2.2.length z.2.2.1), (7, .agg (#[.int .u32 1779033703, .int .u32 3144134277, .int .u32 1013904242, .int .u32 2773480762, .int .u32 1359893119, .int .u32 2600822924, .int .u32 528734635, .int .u32 1541459225])), (8, .string s), (9, .slice (some ⟨g0, 0, none⟩) ((s.data.toList).length) c0), (10, .slice (some ⟨g1, 0, none⟩) 1 1), (11, .slice (some ⟨ga, 0, none⟩) (((s.data.toList) ++ [128]).length) ca)]) (fun z => [mrow z.2.1 z.2.2.1 5 z.2.2.2, .blk gh (.cells (arrW (Oct.list Oct.start)) 108 (0, 0))]) (fun z => z.1 + (120 - z.2.2.2.length % 64) % 64 ≤ 63 ∧ z.2.2.2.length = s.size + 1 + z.1 ∧ zerosTo (64 - z.1) z.2.2.2 = zerosTo 64 (s.data.toList ++ [128])) (fun z => 64 - z.1) (0, ga, ca, s.data.toList ++ [128]) ⟨by dsimp only; omega, by simp [hsl], rfl⟩ ⟨rfl, rfl, rfl, rfl, rfl, rfl, rfl, rfl, rfl, trivial⟩ rfl (fun z hI => ?_)
 obtain ⟨j, gb, cb, b⟩ := z
 dsimp only at hI ⊢
 obtain ⟨hj, hbl, hz⟩ := hI
 refine CX.seq ?_
 refine CX.seq ?_
 refine CX.region ?_
 refine RX.cons rfl rfl (op_w (yw_move rfl rfl) rfl rfl ?_)
 refine RX.cons rfl rfl (op_w (yw_lenS rfl Tryz.underlying54 rfl) rfl rfl ?_)
 refine RX.cons rfl rfl (op_w (yw_rem rfl rfl rfl (by omega) (by omega)) rfl rfl ?_)
 refine RX.cons rfl rfl (op_w (yw_neq rfl rfl rfl) rfl rfl ?_)
 refine RX.nil (XX.next (V' := [(0, _), (2, .string .empty), (3, _), (4, _), (7, _), (8, _), (9, _), (10, _), (11, _), (12, _), (13, _), (14, _), (15, _)]) ⟨rfl, rfl, rfl, rfl, rfl, rfl, rfl, rfl, rfl, rfl, rfl, rfl, rfl, trivial⟩ ?_)
 refine CX.condD (p := ((b.length : Nat) : Int) % 64 ≠ 56) rfl (fun c15 => ?_) (fun c15 => ?_)
 ·have hl0 : (b ++ [(0 : UInt8)]).length = b.length + 1 := by simp
  refine CX.skip (XX.next (V' := [(0, _), (2, .string .empty), (3, _), (4, _), (7, _), (8, _), (9, _), (10, _), (11, _)]) ⟨rfl, rfl, rfl, rfl, rfl, rfl, rfl, rfl, rfl, trivial⟩ ?_)
  refine CX.block ?_
  refine CX.region ?_
  refine RX.cons rfl rfl (op_w (yw_move rfl rfl) rfl rfl ?_)
  refine RX.cons rfl rfl (op_buildSlice rfl rfl rfl slb_54 rfl rfl (by intro v hv; simp only [List.mem_cons, List.not_mem_nil, or_false] at hv; subst hv; exact ⟨rfl, (plain_of rfl)⟩) (by decide) fun g2 => ?_)
  refine RX.cons rfl rfl (op_appendM1 (i := 1) (j := 0) (xs := b) ([0]) rfl rfl rfl slb_54 rfl rfl rfl rfl rfl rfl (by simp; omega) fun gc cc => ?_)
  refine RX.cons rfl rfl (op_w (yw_assign rfl rfl) rfl rfl ?_)
  refine RX.nil (XX.inBlock (V' := [(0, _), (2, .string .empty), (3, _), (4, _), (7, _), (8, _), (9, _), (10, _), (11, _), (16, _), (17, _), (18, _)]) ⟨rfl, rfl, rfl, rfl, rfl, rfl, rfl, rfl, rfl, rfl, rfl, rfl, trivial⟩ ?_)
  refine XX.againP ([.row (some ⟨g2, 0, none⟩) 1 5 1 (List.map Value.cells [.int .u8 0])]) (j + 1, gc, cc, b ++ [0]) (by dsimp only; omega) ⟨by dsimp only; omega, by dsimp only; omega, (zeros_step (j := j) (b := b) (by omega) (by omega)).symm.trans hz⟩ ⟨rfl, rfl, rfl, rfl, rfl, rfl, rfl, rfl, rfl, trivial⟩ ((perm_pick 1 rfl).trans (List.Perm.cons _ ((perm_pick 1 rfl).trans (List.Perm.cons _ (List.Perm.refl _)))))
 ·have hz' : b = zerosTo 64 (s.data.toList ++ [128]) := by rw [← hz, zeros_done (by omega) (by omega)]
  refine CX.exit ?_
  refine XX.then_exit ?_
  refine XX.then_exit ?_
  refine XX.block_exit ?_
  refine XX.next (V' := [(0, _), (2, .string .empty), (3, _), (4, _), (7, _), (8, _), (9, _), (10, _), (11, _), (12, _), (13, _), (14, _), (15, _)]) ⟨rfl, rfl, rfl, rfl, rfl, rfl, rfl, rfl, rfl, rfl, rfl, rfl, rfl, trivial⟩ ?_
  refine CX.seq ?_
  refine CX.seq ?_
  refine CX.region ?_
  refine RX.cons rfl rfl (op_w (yw_assign rfl rfl) rfl rfl ?_)
  refine RX.nil (XX.next (V' := [(0, _), (2, .string .empty), (3, _), (4, _), (5, _), (7, _), (8, _), (9, _), (10, _), (11, _), (12, _), (13, _), (14, _), (15, _)]) ⟨rfl, rfl, rfl, rfl, rfl, rfl, rfl, rfl, rfl, rfl, rfl, rfl, rfl, rfl, trivial⟩ ?_)
  refine CX.block ?_
  refine CX.loop (σ := Nat × Nat × Nat × List UInt8) (fun z => [(0, .string s), (2, .string .empty), (3, .pointer (some ⟨gh, 0, none⟩)), (4, .slice (some ⟨z.2.1, 0, none⟩) z.2.2.2.length z.2.2.1), (5, .int .i64 (7 - ((z.1 : Nat) : Int))), (7, .agg (#[.int .u32 1779033703, .int .u32 3144134277, .int .u32 1013904242, .int .u32 2773480762, .int .u32 1359893119, .int .u32 2600822924, .int .u32 528734635, .int .u32 1541459225])), (8, .string s), (9, .slice (some ⟨g0, 0, none⟩) ((s.data.toList).length) c0), (10, .slice (some ⟨g1, 0, none⟩) 1 1), (11, .slice (some ⟨ga, 0, none⟩) (((s.data.toList) ++ [128]).length) ca), (12, .slice (some ⟨gb, 0, none⟩) b.length cb), (13, .int .i64 ((b.length : Nat) : Int)), (14, .int .i64 (((b.length : Nat) : Int) % 64)), (15, .bool (decide (((b.length : Nat) : Int) % 64 ≠ 56)))]) (fun z => [mrow z.2.1 z.2.2.1 5 z.2.2.2, .blk gh (.cells (arrW (Oct.list Oct.start)) 108 (0, 0))]) (fun z => z.1 ≤ 8 ∧ z.2.2.2 = zerosTo 64 (s.data.toList ++ [128]) ++ (List.range z.1).map (lenByte s.data.toList.length)) (fun z => 8 - z.1) (0, gb, cb, b) ⟨Nat.zero_le _, by rw [← hz']; simp⟩ ⟨rfl, rfl, rfl, rfl, rfl, rfl, rfl, rfl, rfl, rfl, rfl, rfl, rfl, rfl, trivial⟩ rfl (fun z hI => ?_)
  obtain ⟨k, gd, cd, d⟩ := z
  dsimp only at hI ⊢
  obtain ⟨hk, hd⟩ := hI
  have hdl : d.length = b.length + k := by rw [hd, ← hz']; simp
  refine CX.seq ?_
  refine CX.seq ?_
  refine CX.region ?_
  refine RX.cons rfl rfl (op_w (yw_move rfl rfl) rfl rfl ?_)
  refine RX.cons rfl rfl (op_w (yw_geq rfl rfl rfl) rfl rfl ?_)
  refine RX.nil (XX.next (V' := [(0, _), (2, .string .empty), (3, _), (4, _), (5, _), (7, _), (8, _), (9, _), (10, _), (11, _), (12, _), (13, _), (14, _), (15, _), (19, _), (20, _)]) ⟨rfl, rfl, rfl, rfl, rfl, rfl, rfl, rfl, rfl, rfl, rfl, rfl, rfl, rfl, rfl, rfl, trivial⟩ ?_)
  refine CX.condD (p := 0 ≤ 7 - ((k : Nat) : Int)) rfl (fun c20 => ?_) (fun c20 => ?_)
  ·refine CX.skip (XX.next (V' := [(0, _), (2, .string .empty), (3, _), (4, _), (5, _), (7, _), (8, _), (9, _), (10, _), (11, _), (12, _), (13, _), (14, _), (15, _)]) ⟨rfl, rfl, rfl, rfl, rfl, rfl, rfl, rfl, rfl, rfl, rfl, rfl, rfl, rfl, trivial⟩ ?_)
   refine CX.seq ?_
   refine CX.block ?_
   refine CX.region ?_
   refine RX.cons rfl rfl (op_w (yw_move rfl rfl) rfl rfl ?_)
   refine RX.cons rfl rfl (op_w (yw_move rfl rfl) rfl rfl ?_)
   refine RX.cons rfl rfl (op_w (yw_lenStr rfl Tryz.underlying9 rfl) rfl rfl ?_)
   refine RX.cons rfl rfl (op_w (yw_mul rfl rfl rfl (by omega) (by omega)) rfl rfl ?_)
   refine RX.cons rfl rfl (op_w (yw_move rfl rfl) rfl rfl ?_)
   refine RX.cons rfl rfl (op_w (yw_mul rfl rfl rfl (by omega) (by omega)) rfl rfl ?_)
   refine RX.cons rfl rfl (op_w (yw_shr_i (8 * (7 - k)) rfl rfl rfl (by omega) (by omega)) rfl rfl ?_)
   refine RX.cons rfl rfl (op_w (yw_bvOf UK.u8 rfl rfl Tryz.underlying3 Tryz.underlying5) rfl rfl ?_)
   refine RX.cons rfl rfl (op_buildSlice rfl rfl rfl slb_54 rfl rfl (by intro v hv; simp only [List.mem_cons, List.not_mem_nil, or_false] at hv; subst hv; exact ⟨rfl, (plain_of rfl)⟩) (by decide) fun g3 => ?_)
   refine RX.cons rfl rfl (op_appendM1 (i := 1) (j := 0) (xs := d) ([lenByte s.data.toList.length k]) rfl rfl rfl slb_54 rfl rfl rfl rfl rfl rfl (by simp; omega) fun ge ce => ?_)
   refine RX.cons rfl rfl (op_w (yw_assign rfl rfl) rfl rfl ?_)
   refine RX.nil (XX.inBlock (V' := [(0, _), (2, .string .empty), (3, _), (4, _), (5, _), (7, _), (8, _), (9, _), (10, _), (11, _), (12, _), (13, _), (14, _), (15, _), (23, _), (24, _), (25, _), (26, _), (27, _), (28, _), (29, _), (30, _), (31, _), (32, _)]) ⟨rfl, rfl, rfl, rfl, rfl, rfl, rfl, rfl, rfl, rfl, rfl, rfl, rfl, rfl, rfl, rfl, rfl, rfl, rfl, rfl, rfl, rfl, rfl, rfl, trivial⟩ ?_)
   refine XX.next (V' := [(0, _), (2, .string .empty), (3, _), (4, _), (5, _), (7, _), (8, _), (9, _), (10, _), (11, _), (12, _), (13, _), (14, _), (15, _), (23, _), (24, _), (25, _), (26, _), (27, _), (28, _), (29, _), (30, _), (31, _), (32, _)]) ⟨rfl, rfl, rfl, rfl, rfl, rfl, rfl, rfl, rfl, rfl, rfl, rfl, rfl, rfl, rfl, rfl, rfl, rfl, rfl, rfl, rfl, rfl, rfl, rfl, trivial⟩ ?_
   refine CX.region ?_
   refine RX.cons rfl rfl (op_w (yw_move rfl rfl) rfl rfl ?_)
   refine RX.cons rfl rfl (op_w (yw_sub rfl rfl rfl (by omega) (by omega)) rfl rfl ?_)
   refine RX.know (t := 22) (u := .int .i64 (7 - (((k + 1 : Nat)) : Int))) rfl (congrArg (Value.int .i64) (by omega)) ?_
   refine RX.cons rfl rfl (op_w (yw_assign rfl rfl) rfl rfl ?_)
   refine RX.nil (XX.againP ([.row (some ⟨g3, 0, none⟩) 1 5 1 (List.map Value.cells [.int .u8 (wi (BitVec.ofInt 8 ((8 * ((ByteArray.size s : Nat) : Int)) / 2 ^ (8 * (7 - k)))))])]) (k + 1, ge, ce, d ++ [lenByte s.data.toList.length k]) (by dsimp only; omega) ⟨by dsimp only; omega, by dsimp only; rw [List.range_succ, List.map_append, ← List.append_assoc, ← hd]; rfl⟩ ⟨rfl, rfl, rfl, rfl, rfl, rfl, rfl, rfl, rfl, rfl, rfl, rfl, rfl, rfl, trivial⟩ ((perm_pick 1 rfl).trans (List.Perm.cons _ ((perm_pick 1 rfl).trans (List.Perm.cons _ (List.Perm.refl _))))))
  ·have hd' : d = paddedL s.data.toList := by rw [hd, show k = 8 from by omega]; rfl
   obtain ⟨N, hN⟩ : ∃ N, d.length = 64 * N := ⟨d.length / 64, by omega⟩
   refine CX.exit ?_
   refine XX.then_exit ?_
   refine XX.then_exit ?_
   refine XX.block_exit ?_
   refine XX.next (V' := [(0, _), (2, .string .empty), (3, _), (4, _), (5, _), (7, _), (8, _), (9, _), (10, _), (11, _), (12, _), (13, _), (14, _), (15, _), (19, _), (20, _)]) ⟨rfl, rfl, rfl, rfl, rfl, rfl, rfl, rfl, rfl, rfl, rfl, rfl, rfl, rfl, rfl, rfl, trivial⟩ ?_
   refine CX.seq ?_
   refine CX.seq ?_
   refine CX.region ?_
   refine RX.cons rfl rfl (op_w (yw_move rfl rfl) rfl rfl ?_)
   refine RX.cons rfl rfl (op_callE rfl rfl rfl rfl rfl ent_70 (fun w _ => w_chunk (some ⟨gd, 0, none⟩) d.length cd) (fun z70 _ => ?_))
   refine RX.nil (XX.next (V' := [(0, _), (2, .string .empty), (3, _), (4, _), (5, _), (7, _), (8, _), (9, _), (10, _), (11, _), (12, _), (13, _), (14, _), (15, _), (19, _), (20, _), (33, _), (34, _)]) ⟨rfl, rfl, rfl, rfl, rfl, rfl, rfl, rfl, rfl, rfl, rfl, rfl, rfl, rfl, rfl, rfl, rfl, rfl, trivial⟩ ?_)
   refine CX.block ?_
   refine CX.rangeFunc (σ := Oct) (LL := fun h => [.blk gh (.cells (arrW (Oct.list h)) 108 (0, 0)), mrow gd cd 5 d]) (post := fun h => h = blocksL d N) [.blk gh (.cells (arrW (Oct.list Oct.start)) 108 (0, 0)), mrow gd cd 5 d] [.blk z70.2 (.cells (#[.int .i64 64]) 3 (0, 0)), .blk z70.1 (.cells (#[.slice (some ⟨gd, 0, none⟩) d.length cd]) 54 (0, 0))] ((perm_pick 3 rfl).trans (List.Perm.cons _ ((perm_pick 2 rfl).trans (List.Perm.cons _ (List.Perm.refl _))))) rfl ent_87 ?_ ?_
   ·intro l Dk fn a w1 ha hw hs
    have hM : SL w [] w1 ((RB l Dk (mkRec fn a.tmps _ _ _ Dk) ++ (fun h : Oct => [.blk gh (.cells (arrW (Oct.list h)) 108 (0, 0)), mrow gd cd 5 d]) Oct.start) ++ [.blk z70.2 (.cells (#[.int .i64 64]) 3 (0, 0)), .blk z70.1 (.cells (#[.slice (some ⟨gd, 0, none⟩) d.length cd]) 54 (0, 0))]) := hw
    have hcap : d.length ≤ cd := hM.mcap (i := 3) rfl
    have hO0 := hM.fresh (List.subset_append_left _ _) (World.block_lt_of_cell? w _ (hG 0 _ rfl))
    have hGw : Rounds w1 := hG.keep hw (by simp)
    refine (w_chunk1 (l := l) (Dk := Dk) (St := (fun h : Oct => [.blk gh (.cells (arrW (Oct.list h)) 108 (0, 0)), mrow gd cd 5 d])) (Rl := (fun (h : Oct) (x : List Value) (h' : Oct) => ∀ k, x = chunkV gd k → h' = h.block (chunkL d k))) (ok := fun x => ∃ k, k < N ∧ x = chunkV gd k) Oct.start ?_ (N := N) (hM.cellOf (i := 5) rfl (by rw [hN]; rfl)) (hM.cellOf (i := 4) rfl rfl) (hM.apart 1 rfl (by simp [Ent.blocks])) (hM.apart 0 rfl (by simp [Ent.blocks])) (by omega) (by omega) (fun k hk => ⟨k, hk, rfl⟩) hs).mono ?_
    ·rintro h x w2 ⟨k, hk, rfl⟩ hag hs2
     have hO3 := hO0
     simp [Ent.blocks, mrow] at hO3
     have hnd := hs2.nodup
     simp [Ent.blocks, mrow] at hnd
     have hG2 : Rounds w2 := fun q y hq => by
            have h0 := hGw q y hq
            rw [← h0]
            exact World.cell?_of_block (hag 0 (World.block_lt_of_cell? w1 _ h0) hO0)
     refine round_of_CX (n := Tryz.f43.ntmps) (V0 := [(35, .slice (some ⟨gd, 64 * k, none⟩) 64 64), (3, .pointer (some ⟨gh, 0, none⟩))]) (σ := Unit) (τ := Oct) (M := [.blk gh (.cells (arrW (Oct.list h)) 108 (0, 0)), mrow gd cd 5 d]) (fun _ => [(3, .pointer (some ⟨gh, 0, none⟩)), (6, .slice (some ⟨gd, 64 * k, none⟩) 64 64)]) (fun _ => [.blk gh (.cells (arrW (Oct.list h)) 108 (0, 0)), mrow gd cd 5 d]) (fun _ => True) (LL := (fun h : Oct => [.blk gh (.cells (arrW (Oct.list h)) 108 (0, 0)), mrow gd cd 5 d])) (post := fun h' => ∀ j, chunkV gd k = chunkV gd j → h' = h.block (chunkL d j)) rfl rfl rfl ?_ ?_ ?_ hs2
     ·exact (ha.sub (V' := [(3, _)]) ⟨rfl, trivial⟩).round 35 rfl _
     ·refine CX.region ?_
      refine RX.cons rfl rfl (op_w (yw_assign rfl rfl) rfl rfl ?_)
      refine RX.nil (XX.meetP ([]) () trivial ⟨rfl, rfl, trivial⟩ ((perm_pick 0 rfl).trans (List.Perm.cons _ ((perm_pick 0 rfl).trans (List.Perm.cons _ ((perm_pick 0 rfl).trans (List.Perm.cons _ ((perm_pick 0 rfl).trans (List.Perm.cons _ (List.Perm.refl _))))))))))
     ·intro _ _
      refine CX.block ?_
      refine CX.region ?_
      refine RX.cons rfl rfl (op_w (yw_move rfl rfl) rfl rfl ?_)
      refine RX.cons rfl rfl (op_callP [.blk gh (.cells (arrW (Oct.list h)) 108 (0, 0))] [.blk l (.loop _), .blk Dk (.deferred (some [])), mrow gd cd 5 d] rfl rfl rfl rfl rfl ent_71 ((perm_pick 2 rfl).trans (List.Perm.cons _ (List.Perm.refl _))) (σ := Unit) (val := fun _ => .tuple #[]) (LL := fun _ => [.blk gh (.cells (arrW (Oct.list (h.block (chunkL d k)))) 108 (0, 0))]) (post := fun _ => True) (fun w hw hs => (w_add h (chunkL d k) (hG2.keep hw hO0) (by simp only [List.mem_singleton]; omega) (chunk_rd (hw.mrd (i := 3) rfl) k) (chunk_len hN hk) (by simp only [ab, Option.getD_some, List.mem_singleton]; omega) hs).mono fun e w' h => ⟨(), trivial, h⟩) (fun _ _ => ?_))
      refine RX.nil (XX.inBlock (V' := []) trivial ?_)
      refine XX.meetP ([]) (h.block (chunkL d k)) (fun j hj => by rw [chunk_inj hj]) trivial ((perm_pick 1 rfl).trans (List.Perm.cons _ ((perm_pick 1 rfl).trans (List.Perm.cons _ ((perm_pick 0 rfl).trans (List.Perm.cons _ ((perm_pick 0 rfl).trans (List.Perm.cons _ (List.Perm.refl _)))))))))
    ·exact fun e w' ⟨h, hst, he, hz⟩ => ⟨h, Steps.fold (f := chunkV gd) (step := fun (h : Oct) (k : Nat) => Oct.block h (chunkL d k)) (fun s k s' hr => hr k rfl) N h hst, ⟨_, he⟩, hz⟩
   ·intro h l Dk ob hh
    refine XX.inBlock (V' := [(3, _)]) ⟨rfl, trivial⟩ ?_
    refine XX.next (V' := [(3, _)]) ⟨rfl, trivial⟩ ?_
    refine CX.seq ?_
    refine CX.region ?_
    refine RX.cons rfl rfl (op_yld (y_loadA (i := 2) rfl rfl agg_108 rfl rfl) rfl rfl ?_)
    refine RX.cons rfl rfl (op_callV (v := .string (⟨(Oct.bytes h).toArray⟩)) rfl rfl rfl rfl rfl ent_72 (fun w _ => w_digest h) ?_)
    refine RX.cons rfl rfl (op_w (yw_assign rfl rfl) rfl rfl ?_)
    refine RX.nil (XX.next (V' := [(2, .string (⟨(Oct.bytes h).toArray⟩))]) ⟨rfl, trivial⟩ ?_)
    refine CX.ret ?_
    exact ret_tmpM (k := 1) rfl rfl rfl fun w1 hw => ⟨by rw [hh, hd', show N = (paddedL s.data.toList).length / 64 by rw [← hd', hN]; omega]; rfl, hw.sub (List.nil_sublist _)⟩

end Go.Proofs.YtnadipjlhlbfoaaGreatDoor
namespace Go.Proofs.YtnadipjlhlbfoaaGreatDoor
set_option linter.all false
open Go Go.RowKit
theorem flat_u8 (xs : List UInt8) : flat (xs.map u8c) = xs.map u8v := by
  induction xs with
  | nil => rfl
  | cons x xs ih => simp [flat] at ih ⊢; exact ih
theorem strCells_u8 (s : ByteArray) : Lib.strCells s = s.data.toList.map u8v := rfl
theorem size_list (s : ByteArray) : s.data.toList.length = s.size := by rw [Array.length_toList]; rfl
section
variable {P : Program} {w0 : World} {O : List Nat} {n : Nat} {D : List Deferred} {o : Oper} {V : List (Nat × Value)} {L : List Ent} {T : List (Nat × Value) → List Ent → Prop}

theorem row_u8 {w : World} {A : Option Addr} {cap : Nat} {e : TypeId} {xs : List UInt8} : (Ent.row A cap e 1 (xs.map u8c)).sat w ↔ w.ownsRow 0 e 1 (.slice A xs.length cap) xs.length (xs.map u8v) := by
  constructor
  · rintro ⟨h, _⟩
    rw [flat_u8] at h
    simpa using h
  · intro h
    refine ⟨by rw [flat_u8]; simpa using h, ?_⟩
    intro c hc
    obtain ⟨b, _, rfl⟩ := List.mem_map.1 hc
    exact ⟨rfl, by intro u hu; simp at hu; subst hu; rfl⟩

theorem run_append_str {w : World} {t u ty e : TypeId} (ht : SlB P t e 1 1 (.int .u8 0)) (hu : P.underlying u = some .string) {A : Option Addr} {cap : Nat} {xs : List UInt8} (hrow : (Ent.row A cap e 1 (xs.map u8c)).sat w) (s : ByteArray) (hby : xs.length + s.size ≤ 140737488355328) :
    ∃ A' cap' w', (Builtin.append_ #[t, u] ty #[.slice A xs.length cap, .string s]).run P w = .ok (.slice A' (xs ++ s.data.toList).length cap') w' ∧ (Ent.row A' cap' e 1 ((xs ++ s.data.toList).map u8c)).sat w' ∧ w.grownBy w' (Value.slice A xs.length cap).ownBlock ∧
      (A'.map Addr.block = A.map Addr.block ∨ A'.map Addr.block = some w.heap.size) ∧ (A = none → s.size = 0 → A' = none) := by
  obtain ⟨i, hi, hz, hsz, hbb⟩ := ht.info
  have hown := row_u8.1 hrow
  have hsl := size_list s
  obtain ⟨v', w', h1, h2, h3, h4⟩ := Lib.run_append_own_string (P := P) w 0 t u ty e i ht.under hu hi hz hsz hbb _ _ _ hown s (by unfold maxLen; omega) hby (Nat.zero_le _)
  rw [strCells_u8, ← List.map_append] at h2
  have hn : xs.length + s.size = (xs ++ s.data.toList).length := by simp [hsl]
  rw [hn] at h2
  obtain ⟨A', cap', rfl⟩ : ∃ A' cap', v' = .slice A' (xs ++ s.data.toList).length cap' := by
    rcases h2.2 with ⟨hv, hn⟩ | ⟨g, cp, cur, hv, _⟩
    · exact ⟨none, 0, by rw [hv, hn]⟩
    · exact ⟨_, _, hv⟩
  have hnn : A = none → s.size = 0 → A' = none := by
    intro hA hs
    rcases hown.2 with ⟨hv, h0⟩ | ⟨g, cap, cur, hv, _⟩
    · have := h4.2 ⟨hv, hs⟩
      injection this
    · rw [hA] at hv; cases hv
  refine ⟨A', cap', w', h1, row_u8.2 h2, h3, ?_, hnn⟩
  rcases hown.2 with ⟨hv, h0⟩ | ⟨g, cap, cur, hv, hbg, hg, hnc, hcm, hcs, htake⟩
  · injection hv with hA hl hc
    subst hA; subst hc
    by_cases hs : s.size = 0
    · have : A' = none := by
        have := (h4.2 ⟨by rw [h0], hs⟩)
        injection this
      left; rw [this]
    · have hr := run_append_nil_string (P := P) w t u ty e i (.int .u8 0) ht.under hu hi hz s (by omega) (by omega) (by rw [hbb]; omega)
      rw [h0] at h1
      rw [h1] at hr
      injection hr with hr1 hr2
      injection hr1 with hr3
      right; rw [hr3]; rfl
  · injection hv with hA hl hc
    subst hA; subst hc
    by_cases hroom : xs.length + s.size ≤ cap
    · have hcs' : cur.size = cap := by simpa using hcs
      have hr := Lib.run_append_room_string (P := P) w t u ty e i ht.under hu hi hsz g xs.length cap cur hg s hroom (by omega)
      rw [h1] at hr
      injection hr with hr1 hr2
      injection hr1 with hr3
      left; rw [hr3]
    · have holds : ∀ j u, (xs.map u8v)[j]? = some u → w.cell? ((⟨g, 0, none⟩ : Addr).add j) = some u := hown.cells (g := g) rfl
      have hr := Lib.run_append_grow_string (P := P) w t u ty e i (.int .u8 0) ht.under hu hi hz ⟨g, 0, none⟩ xs.length cap (xs.map u8v) (by rw [hsz]; simp) holds s (by omega) (by omega) (by rw [hbb]; exact growslice_fits (by omega) (by omega))
      rw [h1] at hr
      injection hr with hr1 hr2
      injection hr1 with hr3
      right; rw [hr3]; rfl

/-- append(buf, s...), s a string. -/
theorem op_appendStr {x y : Operand} {t u e : TypeId} {d i cap : Nat} {A : Option Addr} {xs : List UInt8} {s : ByteArray}
    (ho : o.op = .call { callee := .builtin .append, args := #[x, y], argTypes := #[t, u] }) (hd : o.dst = some d) (hdn : Nat.blt d n = true) (ht : SlB P t e 1 1 (.int .u8 0)) (hu : P.underlying u = some .string) (hx : ev V x = some (.slice A xs.length cap)) (hL : L[i]? = some (.row A cap e 1 (xs.map u8c)))
    (hy : ev V y = some (.string s)) (hby : xs.length + s.size ≤ 140737488355328)
    (hT : ∀ A' cap', (A = none → s.size = 0 → A' = none) → T ((d, .slice A' (xs ++ s.data.toList).length cap') :: V) (L.set i (.row A' cap' e 1 ((xs ++ s.data.toList).map u8c)))) : OpS P w0 O n D o V L T := by
  intro a w ha hw
  obtain ⟨A', cap', w', hrun, hsat, hgr, hbl, hnn⟩ := run_append_str (P := P) (w := w) (ty := o.type) ht hu (hw.ents _ (List.mem_of_getElem? hL)) s hby
  have hr : (execOp a.eval o).run P w = .ok (.value (.slice A' (xs ++ s.data.toList).length cap')) w' := by
    simp only [execOp, ho, resolve, invoke, builtin, Sem.run_bind, Sem.run_pure, Result.andThen_ok, List.map_toArray, List.map_cons, List.map_nil, ha.eval hx, ha.eval hy, hrun]
  unfold Does
  rw [hr, hd]
  refine ⟨_, _, hT A' cap' hnn, ha.put hdn _, hw.setI hL hgr.os hgr.tape hgr.output hgr.size hsat row_blocks_nodup ?_ ?_⟩
  · intro b hb
    have hb' : A'.map Addr.block = some b := by simpa [Ent.blocks] using hb
    rcases hbl with h | h
    · left; rw [h] at hb'; simpa [Ent.blocks] using hb'
    · right; rw [h] at hb'; simp at hb'; omega
  · intro k hk hkb
    refine hgr.block k hk ?_
    intro hkk
    apply hkb
    cases A with
    | none => simp [Value.ownBlock] at hkk
    | some a => simp [Value.ownBlock] at hkk; simp [Ent.blocks, hkk]

/-- The rest of a slice, of which something is left. -/
theorem yw_sliceFromS {t e : TypeId} {x l : Operand} {A : Option Addr} {b q0 len cap sz k : Nat} {q : Int} (hA : A = some ⟨b, q0, none⟩) (ho : o.op = .slice t x (some l) none none) (ht : SlT P t e sz) (hx : ev V x = some (.slice A len cap)) (hl : ev V l = some (.int .i64 q)) (hq : q = (k : Int)) (hk : k ≤ len) (hc : len ≤ cap) (hkc : k < cap) :
    YldW P n D o V (.slice (some ⟨b, q0 + k * sz, none⟩) (len - k) (cap - k)) := by
  subst hA
  have := yw_sliceFrom (P := P) (n := n) (D := D) (k := k) ho ht hx hl hq (by first | exact hk | exact ⟨hk, hc⟩)
  rw [if_neg (by omega), Option.map_some, add_none] at this
  exact this
theorem Rd.dropM {α : Type} {f : α → Array Value} {w : World} {A : Option Addr} {b q0 sz : Nat} {xs : List α} (h : Rd w A sz (xs.map f)) (hA : A = Option.some ⟨b, q0, none⟩) (k : Nat) : Rd w (Option.some ⟨b, q0 + k * sz, none⟩) sz ((xs.drop k).map f) := by
  subst hA
  refine ⟨fun i c hc => ?_⟩
  rw [List.getElem?_map, List.getElem?_drop, ← List.getElem?_map] at hc
  obtain ⟨h1, _, h3, h4, h5⟩ := h.at_ (k + i) c hc
  refine ⟨h1, ⟨b, q0 + k * sz, rfl⟩, h3, h4, fun j hj => ?_⟩
  have := h5 j hj
  have e : (⟨ab (Option.some ⟨b, q0 + k * sz, none⟩), ao (Option.some ⟨b, q0 + k * sz, none⟩) + i * sz + j, none⟩ : Addr) = ⟨ab (Option.some ⟨b, q0, none⟩), ao (Option.some ⟨b, q0, none⟩) + (k + i) * sz + j, none⟩ := by
    simp [ab, ao, Nat.add_mul]; omega
  rw [e]; exact this
theorem Rd.takeM {α : Type} {f : α → Array Value} {w : World} {A : Option Addr} {sz : Nat} {xs : List α} (h : Rd w A sz (xs.map f)) (k : Nat) : Rd w A sz ((xs.take k).map f) := by
  rw [List.map_take]
  exact ⟨fun j c hc => by
    rw [List.getElem?_take] at hc
    split at hc
    · exact h.at_ j c hc
    · cases hc⟩

/-- The bytes of a row as a string. -/
theorem y_bytesRow {s d e ey : TypeId} {x : Operand} {A : Option Addr} {i cap c : Nat} {l : List UInt8} (ho : o.op = .convert s d x) (hx : ev V x = some (.slice A l.length c)) (hs : P.underlying s = some (.slice e)) (he : P.underlying e = some (.int .u8)) (hd : P.underlying d = some .string)
    (hL : L[i]? = some (.row A cap ey 1 (l.map u8c))) (hl : 0 < l.length) : Yld P w0 O n D o V L (.string ⟨l.toArray⟩) := by
  intro a w ha hw
  have hr := Ent.rd (hw.ents _ (List.mem_of_getElem? hL))
  obtain ⟨b, j, hA⟩ := hr.some (k := 0) (by simpa using hl)
  subst hA
  exact y_bytesRd (P := P) (O := O) (L := L) (w0 := w0) l ho hx hs he hd (fun w hw => Ent.rd (hw.ents _ (List.mem_of_getElem? hL))) rfl a w ha hw
/-- The rest of a map of a row whose place is known. -/
theorem u8c_bv (b : BitVec 8) : u8c (UInt8.ofBitVec b) = #[.int .u8 (wi b)] := rfl

/-! ### Functions of the model's table -/
theorem op_ext1 {x fo : Operand} {t : TypeId} {f d : Nat} {fn : Func} {e : Array Value → Sem Value} {v : Value} (ho : o.op = .call { callee := .value fo, args := #[x], argTypes := #[t] }) (hd : o.dst = some d) (hdn : Nat.blt d n = true) (hfo : ev V fo = some (.func (.func f) #[] #[])) (hx : ev V x = some v)
    (hf : P.funcs[f]? = some fn) (hname : (fn.name == "runtime.NumGoroutine") = false) (hb : fn.body.isNone = true) (hn : Extern.findNext fn = none) (he : Extern.find fn = some e) (hE : e = Extern.AbiNoEscape.same)
    (hT : T ((d, v) :: V) L) : OpS P w0 O n D o V L T := by
  intro a w ha hw
  subst hE
  have hr : (execOp a.eval o).run P w = .ok (.value v) w := by
    have h1 := run_callFunc_extern (P := P) hf hname hb hn he #[v] w
    rw [Lib.run_noEscape] at h1
    simp [execOp, ho, resolve, invoke, ha.eval hfo, ha.eval hx, Deferred.ofValue, h1]
  unfold Does
  rw [hr, hd]
  exact ⟨_, _, hT, ha.put hdn _, hw⟩
/-- New bytes for a buffer. -/
theorem op_makeNoZero {x fo : Operand} {t ts e : TypeId} {f d : Nat} {fn : Func} {ex : Array Value → Sem Value} {q : Int} {m : Nat} {ps : Array TypeId} (ho : o.op = .call { callee := .value fo, args := #[x], argTypes := #[t] }) (hd : o.dst = some d) (hdn : Nat.blt d n = true) (hfo : ev V fo = some (.func (.func f) #[] #[])) (hx : ev V x = some (.int .i64 q)) (hq : q = (m : Int))
    (hf : P.funcs[f]? = some fn) (hname : (fn.name == "runtime.NumGoroutine") = false) (hb : fn.body.isNone = true) (hn : Extern.findNext fn = none) (he : Extern.find fn = some ex) (hE : ex = Extern.BytealgMakeNoZero.makeNoZero ps #[ts]) (ht : P.underlying ts = some (.slice e)) (hm : m ≤ 281474976710656) (h0 : 0 < m)
    (hT : ∀ g cap, T ((d, .slice (some ⟨g, 0, none⟩) m cap) :: V) (.row (some ⟨g, 0, none⟩) cap e 1 (([] : List UInt8).map u8c) :: L)) : OpS P w0 O n D o V L T := by
  intro a w ha hw
  subst hE
  subst hq
  obtain ⟨cs, hrun, hle, hmax⟩ := Lib.run_makeNoZero (P := P) w ps ts e ht m hm
  have hr : (execOp a.eval o).run P w = .ok (.value (.slice (some ⟨w.heap.size, 0, none⟩) m cs.size)) (w.drew.drew.alloc (.cells cs e)) := by
    have h1 := run_callFunc_extern (P := P) hf hname hb hn he #[.int .i64 m] w
    rw [hrun] at h1
    simp [execOp, ho, resolve, invoke, ha.eval hfo, ha.eval hx, Deferred.ofValue, h1]
  unfold Does
  rw [hr, hd]
  refine ⟨_, _, hT w.heap.size cs.size, ha.put hdn _, ?_⟩
  have hw2 : SL w0 O w.drew.drew L := ⟨hw.os, hw.tape, hw.output, hw.size, hw.same, fun p hp => Ent.keep (hw.ents p hp) (fun _ _ => rfl), hw.nodup, hw.own⟩
  have hall := hw2.alloc (.cells cs e)
  have := hall.set (A := []) (R := L) (w' := w.drew.drew.alloc (.cells cs e)) (p := .blk w.heap.size (.cells cs e)) (p' := .row (some ⟨w.heap.size, 0, none⟩) cs.size e 1 (([] : List UInt8).map u8c)) rfl rfl rfl rfl (Nat.le_refl _)
    (row_u8.2 ⟨by simp, .inr ⟨w.heap.size, cs.size, cs, rfl, Nat.zero_le _, heap_alloc_new w.drew.drew _, by simp, hmax (by unfold maxLen; omega), by simp, by simp⟩⟩) (by simp [Ent.blocks]) (fun b hb => .inl (by simpa [Ent.blocks] using hb)) (fun _ _ _ => rfl)
  simpa using this
theorem yw_copyNone {x y : Operand} {t u e : TypeId} {A B : Option Addr} {m c m2 c2 : Nat} (ho : o.op = .call { callee := .builtin .copy, args := #[x, y], argTypes := #[t, u] }) (ht : SlT P t e 1) (hx : ev V x = some (.slice A m c)) (hy : ev V y = some (.slice B m2 c2)) (h0 : Nat.min m2 m = 0) : YldW P n D o V (.int .i64 0) := by
  intro a w ha
  obtain ⟨f, g1, g2, g3⟩ := ht
  have := run_copy_none (P := P) w t u o.type e A B m c m2 c2 g1 (by rw [g2]; simp [g3]) h0
  simp only [execOp, ho, resolve, invoke, builtin, Sem.run_bind, Sem.run_pure, Result.andThen_ok, List.map_toArray, List.map_cons, List.map_nil, ha.eval hx, ha.eval hy, this]
  rfl

theorem yw_capS {x : Operand} {t e : TypeId} {A : Option Addr} {m c : Nat} (ho : o.op = .call { callee := .builtin .cap, args := #[x], argTypes := #[t] }) (ht : P.underlying t = some (.slice e)) (hx : ev V x = some (.slice A m c)) : YldW P n D o V (.int .i64 c) := by
  intro a w ha
  simp [execOp, ho, resolve, invoke, builtin, ha.eval hx, Builtin.cap_, run_underlying ht, goInt]

/-! ### Pointers -/
/-- A pointer's type, whose element has a size. -/
def PtrT (P : Program) (t e : TypeId) : Prop := ∃ i, P.underlying t = some (.pointer e) ∧ P.info? e = some i ∧ i.size ≠ 0
theorem yw_ptrNil {t e u : TypeId} {x y : Operand} (ho : o.op = .binOp .eql t x y u) (ht : PtrT P t e) (hx : ev V x = some (.pointer none)) (hy : ev V y = some (.pointer none)) : YldW P n D o V (.bool true) := by
  intro a w ha
  obtain ⟨i, h1, h2, h3⟩ := ht
  have h : ∀ d : Nat, (Op.equalIn (d + 1) t (.pointer none) (.pointer none)).run P w = .ok true w := fun d => by
    simp [Op.equalIn, run_underlying h1, sizeOf, typeInfo, h2]
  simp [execOp, ho, ha.eval hx, ha.eval hy, eqGuard, binOp, Op.equal, Op.maxDepth, h 9999]
theorem yw_ptrSome {t e u : TypeId} {x y : Operand} {p : Addr} (ho : o.op = .binOp .eql t x y u) (ht : PtrT P t e) (hx : ev V x = some (.pointer (some p))) (hy : ev V y = some (.pointer none)) : YldW P n D o V (.bool false) := by
  intro a w ha
  obtain ⟨i, h1, h2, h3⟩ := ht
  have h : ∀ d : Nat, (Op.equalIn (d + 1) t (.pointer (some p)) (.pointer none)).run P w = .ok false w := fun d => by
    simp [Op.equalIn, run_underlying h1, sizeOf, typeInfo, h2]
  simp [execOp, ho, ha.eval hx, ha.eval hy, eqGuard, binOp, Op.equal, Op.maxDepth, h 9999]
theorem yw_ptrNe {t e u : TypeId} {x y : Operand} {p : Addr} (ho : o.op = .binOp .neq t x y u) (ht : PtrT P t e) (hx : ev V x = some (.pointer (some p))) (hy : ev V y = some (.pointer (some p))) : YldW P n D o V (.bool false) := by
  intro a w ha
  obtain ⟨i, h1, h2, h3⟩ := ht
  have := Lib.run_neq_ptr_same (P := P) w p h1 h2
  simp only [execOp, ho, ha.eval hx, ha.eval hy, Sem.run_bind]
  rw [show (eqGuard .neq t x y (.pointer (some p)) (.pointer (some p))) = pure () from by simp [eqGuard]]
  simp [this]
theorem y_toUnsafe {s d t e : TypeId} {x : Operand} {g i : Nat} {cs : Array Value} (ho : o.op = .convert s d x) (hs : PtrT P s t) (hd : P.underlying d = some .unsafePointer) (hx : ev V x = some (.pointer (some ⟨g, 0, none⟩))) (hL : L[i]? = some (.blk g (.cells cs e (0, 0)))) (h0 : 0 < cs.size) : Yld P w0 O n D o V L (.pointer (some ⟨g, 0, none⟩)) := by
  intro a w ha hw
  obtain ⟨j, h1, h2, h3⟩ := hs
  have hg : w.heap[g]? = some (.cells cs e (0, 0)) := hw.ents _ (List.mem_of_getElem? hL)
  have := Lib.run_to_unsafe (P := P) w ⟨g, 0, none⟩ h1 hd h2 h3 (e := e) (cells := cs.size) (by simp [World.shape?, hg]) h0
  simp only [execOp, ho, ha.eval hx, Sem.run_bind, this, Result.andThen_ok, Sem.run_pure]
theorem y_fromUnsafe {s d t e : TypeId} {x : Operand} {g i : Nat} {cs : Array Value} (ho : o.op = .convert s d x) (hs : P.underlying s = some .unsafePointer) (hd : PtrT P d t) (hx : ev V x = some (.pointer (some ⟨g, 0, none⟩))) (hL : L[i]? = some (.blk g (.cells cs e (0, 0)))) (hlies : liesAt P P.depth e (cs.size / P.cellsOf e) 0 t 1 = true) : Yld P w0 O n D o V L (.pointer (some ⟨g, 0, none⟩)) := by
  intro a w ha hw
  obtain ⟨j, h1, h2, h3⟩ := hd
  have hg : w.heap[g]? = some (.cells cs e (0, 0)) := hw.ents _ (List.mem_of_getElem? hL)
  have := Lib.run_from_unsafe (P := P) w ⟨g, 0, none⟩ hs h1 h2 (e := e) (cells := cs.size) (by simp [World.shape?, hg]) hlies
  simp only [execOp, ho, ha.eval hx, Sem.run_bind, this, Result.andThen_ok, Sem.run_pure]

/-! ### The bytes of a buffer as a string -/
theorem yw_sliceData0 {x : Operand} {ts : Array TypeId} {m c : Nat} (ho : o.op = .call { callee := .builtin .unsafeSliceData, args := #[x], argTypes := ts }) (hx : ev V x = some (.slice none m c)) : YldW P n D o V (.pointer none) := by
  intro a w ha
  have := Lib.run_unsafeSliceData_nil (P := P) w ts o.type m c
  simp only [execOp, ho, resolve, invoke, builtin, Sem.run_bind, Sem.run_pure, Result.andThen_ok, List.map_toArray, List.map_cons, List.map_nil, ha.eval hx, this]
theorem yw_sliceData {x : Operand} {ts : Array TypeId} {p : Addr} {m c : Nat} (ho : o.op = .call { callee := .builtin .unsafeSliceData, args := #[x], argTypes := ts }) (hx : ev V x = some (.slice (some p) m c)) (hc : c ≠ 0) : YldW P n D o V (.pointer (some p)) := by
  intro a w ha
  have := Lib.run_unsafeSliceData_row (P := P) w ts o.type p m c hc
  simp only [execOp, ho, resolve, invoke, builtin, Sem.run_bind, Sem.run_pure, Result.andThen_ok, List.map_toArray, List.map_cons, List.map_nil, ha.eval hx, this]
theorem yw_unsafeString0 {x y : Operand} {t u : TypeId} {p : Option Addr} (ho : o.op = .call { callee := .builtin .unsafeString, args := #[x, y], argTypes := #[t, u] }) (hx : ev V x = some (.pointer p)) (hy : ev V y = some (.int .i64 0)) : YldW P n D o V (.string .empty) := by
  intro a w ha
  have := Lib.run_unsafeString_none (P := P) w t u o.type p
  simp only [execOp, ho, resolve, invoke, builtin, Sem.run_bind, Sem.run_pure, Result.andThen_ok, List.map_toArray, List.map_cons, List.map_nil, ha.eval hx, ha.eval hy, this]
/-- The row is given up: its bytes are frozen. -/
theorem op_unsafeString {x y : Operand} {t u e : TypeId} {d g cap : Nat} {xs : List UInt8} {q : Int} (L' : List Ent) (ho : o.op = .call { callee := .builtin .unsafeString, args := #[x, y], argTypes := #[t, u] }) (hd : o.dst = some d) (hdn : Nat.blt d n = true) (hx : ev V x = some (.pointer (some ⟨g, 0, none⟩))) (hy : ev V y = some (.int .i64 q)) (hq : q = ((xs.length : Nat) : Int))
    (hp : P.underlying t = some (.pointer e)) (hc : P.cellsOf e = 1) (hL : L.Perm (.row (some ⟨g, 0, none⟩) cap e 1 (xs.map u8c) :: L')) (h0 : xs ≠ [])
    (hT : T ((d, .string ⟨xs.toArray⟩) :: V) L') : OpS P w0 O n D o V L T := by
  intro a w ha hw
  subst hq
  have hw1 := hw.perm hL
  have hown := row_u8.1 (hw1.ents _ List.mem_cons_self)
  obtain ⟨g', cp, cur, hv, _, hg, hnc, hcm, hcs, htk⟩ : ∃ g' cp cur, Value.slice (some ⟨g, 0, none⟩) xs.length cap = .slice (some ⟨g', 0, none⟩) xs.length cp ∧ 0 ≤ g' ∧ w.heap[g']? = some (.cells cur e (0, 0)) ∧ xs.length ≤ cp ∧ cp ≤ maxLen ∧ cur.size = cp * 1 ∧ cur.toList.take (xs.length * 1) = xs.map u8v := by
    rcases hown.2 with ⟨hv, _⟩ | h
    · cases hv
    · exact h
  obtain rfl : g = g' := by injection hv with h1; injection h1 with h1; injection h1
  have hrun := Lib.run_unsafeString_row (P := P) w t u o.type e hp hc g cur.size (by simp [World.shape?, hg]) xs h0 (by omega) (by unfold maxLen at hcm; omega) (fun j x hx => by
    have hjl := (List.getElem?_eq_some_iff.1 hx).1
    have h1 : (cur.toList.take (xs.length * 1))[j]? = some (u8v x) := by rw [htk, List.getElem?_map, hx]; rfl
    rw [List.getElem?_take_of_lt (by omega), Array.getElem?_toList] at h1
    rw [add_none, cell_of_row w _ _ cur e _ hg]
    simpa using h1)
  have hr : (execOp a.eval o).run P w = .ok (.value (.string ⟨xs.toArray⟩)) (w.freeze ⟨g, 0, none⟩ xs.length) := by
    simp only [execOp, ho, resolve, invoke, builtin, Sem.run_bind, Sem.run_pure, Result.andThen_ok, List.map_toArray, List.map_cons, List.map_nil, ha.eval hx, ha.eval hy, hrun]
  unfold Does
  rw [hr, hd]
  refine ⟨_, _, hT, ha.put hdn _, ?_⟩
  have hne : xs.length ≠ 0 := by simpa using h0
  have hsame : ∀ k, k ≠ g → (w.freeze ⟨g, 0, none⟩ xs.length).heap[k]? = w.heap[k]? := fun k hk => by
    simp only [World.freeze, hne, if_false, Array.getElem?_modify]
    rw [if_neg (fun h => hk h.symm)]
  have hsz : (w.freeze ⟨g, 0, none⟩ xs.length).heap.size = w.heap.size := by simp [World.freeze, hne]
  have := hw1.set (A := []) (R := L') (w' := w.freeze ⟨g, 0, none⟩ xs.length) (p := .row (some ⟨g, 0, none⟩) cap e 1 (xs.map u8c)) (p' := .row none 0 e 1 []) rfl (by simp [World.freeze, hne]) (by simp [World.freeze, hne]) (by simp [World.freeze, hne]) (Nat.le_of_eq hsz.symm) (sat_nil _ e 1) (by simp [Ent.blocks]) (by simp [Ent.blocks]) (fun k _ hkb => hsame k (by simpa [Ent.blocks] using hkb))
  exact this.sub (List.sublist_cons_self _ _)
end
end Go.Proofs.YtnadipjlhlbfoaaGreatDoor
namespace Go.Proofs.YtnadipjlhlbfoaaGreatDoor
set_option linter.all false
open Go Go.RowKit
set_option maxRecDepth 100000
theorem fld_92_0 : Fld Tryz.prog 92 0 0 := ⟨_, _, (Tryz.prog.info? 90).get!, Tryz.underlying92, rfl, rfl, by kernel_rfl, by decide +kernel⟩
theorem one_90 : One Tryz.prog 90 := ⟨_, Tryz.underlying90, rfl⟩
theorem ptrt_90 : PtrT Tryz.prog 90 92 := ⟨(Tryz.prog.info? 92).get!, Tryz.underlying90, by kernel_rfl, by decide +kernel⟩
theorem szt_90 : SzT Tryz.prog 90 1 := ⟨(Tryz.prog.info? 90).get!, by kernel_rfl, by kernel_rfl⟩
theorem fld_92_1 : Fld Tryz.prog 92 1 1 := ⟨_, _, (Tryz.prog.info? 54).get!, Tryz.underlying92, rfl, rfl, by kernel_rfl, by decide +kernel⟩
theorem szt_54 : SzT Tryz.prog 54 1 := ⟨(Tryz.prog.info? 54).get!, by kernel_rfl, by kernel_rfl⟩
theorem ent_80 : ∀ args w, (callFunc 80 args).run Tryz.prog w = .ok (.enter 80 args) w := enters_of Tryz.func80 (by kernel_rfl) rfl
theorem ent_102 : ∀ args w, (callFunc 102 args).run Tryz.prog w = .ok (.enter 102 args) w := enters_of Tryz.func102 (by kernel_rfl) rfl
/-- A builder's blocks. -/
abbrev brO (A : Option Addr) (gb : Nat) : List Nat := (A.map Addr.block).toList ++ [gb]
set_option maxRecDepth 100000 in
theorem w_copyFresh {w : World} {gb : Nat} (sv : Value) (h1 : sv.oneCell' = true) (hs : SL w [gb] w [.blk gb (.cells #[.pointer none, sv] 92 (0, 0))]) :
    Calls Tryz.prog 80 #[.pointer (some ⟨gb, 0, none⟩)] w (fun e w' => e = .returned (.tuple #[]) ∧ SL w [gb] w' [.blk gb (.cells #[.pointer (some ⟨gb, 0, none⟩), sv] 92 (0, 0))]) := by
 refine calls_of_CX (O := [gb]) (L := [.blk gb (.cells (#[.pointer none, sv]) 92 (0, 0))]) (args := [.pointer (some ⟨gb, 0, none⟩)]) Tryz.func80 rfl (by simp [Tryz.ntmps80]) hs ?_
 refine CX.sub (V' := [(0, .pointer (some ⟨gb, 0, none⟩))]) ⟨rfl, trivial⟩ ?_
 refine CX.seq ?_
 refine CX.region ?_
 refine RX.cons rfl rfl (op_w (yw_move rfl rfl) rfl rfl ?_)
 refine RX.cons rfl rfl (op_w (yw_nilCheck rfl rfl) rfl rfl ?_)
 refine RX.cons rfl rfl (op_w (yw_field0 rfl fld_92_0 rfl) rfl rfl ?_)
 refine RX.cons rfl rfl (op_yld (y_load (i := 0) rfl rfl one_90 rfl rfl) rfl rfl ?_)
 refine RX.cons rfl rfl (op_w (yw_ptrNil rfl ptrt_90 rfl rfl) rfl rfl ?_)
 refine RX.nil (XX.next (V' := [(0, _), (6, _)]) ⟨rfl, rfl, trivial⟩ ?_)
 refine CX.condT rfl ?_
 refine CX.region ?_
 refine RX.cons rfl rfl (op_w (yw_move rfl rfl) rfl rfl ?_)
 refine RX.cons rfl rfl (op_w (yw_move rfl rfl) rfl rfl ?_)
 refine RX.cons rfl rfl (op_yld (y_toUnsafe (i := 0) rfl ptrt_90 Tryz.underlying140 rfl rfl (by simp)) rfl rfl ?_)
 refine RX.cons rfl rfl (op_ext1 rfl rfl rfl rfl rfl Tryz.func96 (by kernel_rfl) (by kernel_rfl) (by kernel_rfl) (by kernel_rfl) rfl ?_)
 refine RX.cons rfl rfl (op_yld (y_fromUnsafe (i := 0) rfl Tryz.underlying140 ptrt_90 rfl rfl (by kernel_rfl)) rfl rfl ?_)
 refine RX.cons rfl rfl (op_w (yw_nilCheck rfl rfl) rfl rfl ?_)
 refine RX.cons rfl rfl (op_w (yw_field0 rfl fld_92_0 rfl) rfl rfl ?_)
 refine RX.cons rfl rfl (op_store1 (i := 0) (cs' := #[.pointer (some ⟨gb, 0, none⟩), sv]) rfl rfl rfl rfl szt_90 rfl rfl rfl rfl ?_)
 refine RX.nil ?_
 exact end_none rfl fun w1 hw => ⟨rfl, hw⟩

set_option maxRecDepth 100000 in
theorem w_copyUsed {w : World} {gb : Nat} (sv : Value) (h1 : sv.oneCell' = true) (hs : SL w [gb] w [.blk gb (.cells #[.pointer (some ⟨gb, 0, none⟩), sv] 92 (0, 0))]) :
    Calls Tryz.prog 80 #[.pointer (some ⟨gb, 0, none⟩)] w (fun e w' => e = .returned (.tuple #[]) ∧ SL w [gb] w' [.blk gb (.cells #[.pointer (some ⟨gb, 0, none⟩), sv] 92 (0, 0))]) := by
 refine calls_of_CX (O := [gb]) (L := [.blk gb (.cells (#[.pointer (some ⟨gb, 0, none⟩), sv]) 92 (0, 0))]) (args := [.pointer (some ⟨gb, 0, none⟩)]) Tryz.func80 rfl (by simp [Tryz.ntmps80]) hs ?_
 refine CX.sub (V' := [(0, .pointer (some ⟨gb, 0, none⟩))]) ⟨rfl, trivial⟩ ?_
 refine CX.seq ?_
 refine CX.region ?_
 refine RX.cons rfl rfl (op_w (yw_move rfl rfl) rfl rfl ?_)
 refine RX.cons rfl rfl (op_w (yw_nilCheck rfl rfl) rfl rfl ?_)
 refine RX.cons rfl rfl (op_w (yw_field0 rfl fld_92_0 rfl) rfl rfl ?_)
 refine RX.cons rfl rfl (op_yld (y_load (i := 0) rfl rfl one_90 rfl rfl) rfl rfl ?_)
 refine RX.cons rfl rfl (op_w (yw_ptrSome rfl ptrt_90 rfl rfl) rfl rfl ?_)
 refine RX.nil (XX.next (V' := [(0, _), (6, _)]) ⟨rfl, rfl, trivial⟩ ?_)
 refine CX.condF rfl ?_
 refine CX.seq ?_
 refine CX.region ?_
 refine RX.cons rfl rfl (op_w (yw_move rfl rfl) rfl rfl ?_)
 refine RX.cons rfl rfl (op_w (yw_nilCheck rfl rfl) rfl rfl ?_)
 refine RX.cons rfl rfl (op_w (yw_field0 rfl fld_92_0 rfl) rfl rfl ?_)
 refine RX.cons rfl rfl (op_yld (y_load (i := 0) rfl rfl one_90 rfl rfl) rfl rfl ?_)
 refine RX.cons rfl rfl (op_w (yw_move rfl rfl) rfl rfl ?_)
 refine RX.cons rfl rfl (op_w (yw_ptrNe rfl ptrt_90 rfl rfl) rfl rfl ?_)
 refine RX.nil (XX.next (V' := [(19, _)]) ⟨rfl, trivial⟩ ?_)
 refine CX.condF rfl ?_
 refine CX.skip ?_
 exact end_none rfl fun w1 hw => ⟨rfl, hw⟩

theorem w_copy {w : World} {gb : Nat} (sv p : Value) (h1 : sv.oneCell' = true) (hp : p = .pointer none ∨ p = .pointer (some ⟨gb, 0, none⟩)) (hs : SL w [gb] w [.blk gb (.cells #[p, sv] 92 (0, 0))]) :
    Calls Tryz.prog 80 #[.pointer (some ⟨gb, 0, none⟩)] w (fun e w' => e = .returned (.tuple #[]) ∧ SL w [gb] w' [.blk gb (.cells #[.pointer (some ⟨gb, 0, none⟩), sv] 92 (0, 0))]) := by
  rcases hp with rfl | rfl
  · exact w_copyFresh sv h1 hs
  · exact w_copyUsed sv h1 hs
set_option maxRecDepth 100000 in
theorem w_growb {w : World} {gb n : Nat} (h0 : 0 < n) (hn : n ≤ 70368744177664) (hs : SL w [gb] w [.blk gb (.cells #[.pointer (some ⟨gb, 0, none⟩), .slice none 0 0] 92 (0, 0))]) :
    Calls Tryz.prog 102 #[.pointer (some ⟨gb, 0, none⟩), .int .i64 ((n : Nat) : Int)] w (fun e w' => ∃ z : Option Addr × Nat, (n = 0 → z.1 = none) ∧ e = .returned (.tuple #[]) ∧ SL w [gb] w' [.row z.1 z.2 5 1 (List.map u8c ([])), .blk gb (.cells #[.pointer (some ⟨gb, 0, none⟩), .slice z.1 0 z.2] 92 (0, 0))]) := by
 refine calls_of_CX (O := [gb]) (L := [.blk gb (.cells (#[.pointer (some ⟨gb, 0, none⟩), .slice none 0 0]) 92 (0, 0))]) (args := [.pointer (some ⟨gb, 0, none⟩), .int .i64 ((n : Nat) : Int)]) Tryz.func102 rfl (by simp [Tryz.ntmps102]) hs ?_
 refine CX.sub (V' := [(0, .pointer (some ⟨gb, 0, none⟩)), (1, .int .i64 ((n : Nat) : Int))]) ⟨rfl, rfl, trivial⟩ ?_
 refine CX.seq ?_
 refine CX.draw 16 [(0, 1, 32), (1, 32, 64), (2, 64, 128), (4, 128, 256), (8, 256, 512), (16, 512, 1024), (0, 2, 2048), (96, 3072, 4096), (128, 4096, 8192), (0, 1, 16384), (512, 16384, 32768), (1024, 32768, 65536), (2048, 65536, 131072), (4096, 131072, 262144), (8448, 270336, 524288), (32767, 524288, 16)] (by kernel_rfl) (by kernel_rfl) (by kernel_rfl) ?_
 refine DX.takeW 0 1 (by kernel_rfl) rfl rfl rfl rfl rfl (yw_move rfl rfl) ?_
 refine DX.takeW 1 3 (by kernel_rfl) rfl rfl rfl rfl rfl (yw_nilCheck rfl rfl) ?_
 refine DX.takeW 2 7 (by kernel_rfl) rfl rfl rfl rfl rfl (yw_fieldAddr rfl fld_92_1 rfl) ?_
 refine DX.take 3 15 (by kernel_rfl) rfl rfl rfl rfl rfl (List.Sublist.refl _) (y_load (i := 0) rfl rfl one_54 rfl rfl) ?_
 refine DX.takeW 4 31 (by kernel_rfl) rfl rfl rfl rfl rfl (yw_capS rfl Tryz.underlying54 rfl) ?_
 refine DX.takeW 5 63 (by kernel_rfl) rfl rfl rfl rfl rfl (yw_mul rfl rfl rfl (by omega) (by omega)) ?_
 refine DX.takeW 6 127 (by kernel_rfl) rfl rfl rfl rfl rfl (yw_move rfl rfl) ?_
 refine DX.takeW 7 255 (by kernel_rfl) rfl rfl rfl rfl rfl (yw_add rfl rfl rfl (by omega) (by omega)) ?_
 refine DX.takeW 9 767 (by kernel_rfl) rfl rfl rfl rfl rfl (yw_move rfl rfl) ?_
 refine DX.takeW 10 1791 (by kernel_rfl) rfl rfl rfl rfl rfl (yw_nilCheck rfl rfl) ?_
 refine DX.takeW 11 3839 (by kernel_rfl) rfl rfl rfl rfl rfl (yw_fieldAddr rfl fld_92_1 rfl) ?_
 refine DX.take 12 7935 (by kernel_rfl) rfl rfl rfl rfl rfl (List.Sublist.refl _) (y_load (i := 0) rfl rfl one_54 rfl rfl) ?_
 refine DX.takeW 13 16127 (by kernel_rfl) rfl rfl rfl rfl rfl (yw_lenS rfl Tryz.underlying54 rfl) ?_
 refine DX.step 8 16383 (by kernel_rfl) rfl rfl rfl (op_makeNoZero (m := n) (ps := #[3]) (ts := 54) rfl rfl rfl rfl rfl (by omega) Tryz.func103 (by kernel_rfl) (by kernel_rfl) (by kernel_rfl) (by kernel_rfl) rfl Tryz.underlying54 (by omega) (by omega) fun gq cq => (DXs.mk (List.Sublist.cons _ (List.Sublist.refl _)) ?_))
 refine DX.takeW 14 32767 (by kernel_rfl) rfl rfl rfl rfl rfl (yw_sliceTo (k := 0) rfl slt_54 rfl rfl (by omega) (by omega)) ?_
 refine DX.takeW 15 65535 (by kernel_rfl) rfl rfl rfl rfl rfl (yw_assign rfl rfl) ?_
 refine DX.done (by kernel_rfl) (XX.next (V' := [(0, _), (4, _)]) ⟨rfl, rfl, trivial⟩ ?_)
 refine CX.seq ?_
 refine CX.region ?_
 refine RX.cons rfl rfl (op_w (yw_move rfl rfl) rfl rfl ?_)
 refine RX.cons rfl rfl (op_w (yw_move rfl rfl) rfl rfl ?_)
 refine RX.cons rfl rfl (op_w (yw_nilCheck rfl rfl) rfl rfl ?_)
 refine RX.cons rfl rfl (op_w (yw_fieldAddr rfl fld_92_1 rfl) rfl rfl ?_)
 refine RX.cons rfl rfl (op_yld (y_load (i := 1) rfl rfl one_54 rfl rfl) rfl rfl ?_)
 refine RX.cons rfl rfl (op_w (yw_copyNone rfl slt_54 rfl rfl (by simp)) rfl rfl ?_)
 refine RX.nil (XX.next (V' := [(0, _), (4, _)]) ⟨rfl, rfl, trivial⟩ ?_)
 refine CX.region ?_
 refine RX.cons rfl rfl (op_w (yw_move rfl rfl) rfl rfl ?_)
 refine RX.cons rfl rfl (op_w (yw_move rfl rfl) rfl rfl ?_)
 refine RX.cons rfl rfl (op_w (yw_nilCheck rfl rfl) rfl rfl ?_)
 refine RX.cons rfl rfl (op_w (yw_fieldAddr rfl fld_92_1 rfl) rfl rfl ?_)
 refine RX.cons rfl rfl (op_store1 (i := 1) (cs' := #[.pointer (some ⟨gb, 0, none⟩), .slice (some ⟨gq, 0, none⟩) 0 cq]) rfl rfl rfl rfl szt_54 rfl rfl rfl rfl ?_)
 refine RX.nil ?_
 exact end_none rfl fun w1 hw => ⟨(some ⟨gq, 0, none⟩, cq), (fun h => by omega), rfl, hw.pick ((perm_pick 0 rfl).trans (List.Perm.cons _ ((perm_pick 0 rfl).trans (List.Perm.cons _ (List.Perm.refl _)))))⟩

set_option maxRecDepth 100000 in
theorem w_Grow {w : World} {gb n : Nat} (hn : n ≤ 70368744177664) (hs : SL w [gb] w [.blk gb (.cells #[.pointer none, .slice none 0 0] 92 (0, 0))]) :
    Calls Tryz.prog 99 #[.pointer (some ⟨gb, 0, none⟩), .int .i64 ((n : Nat) : Int)] w (fun e w' => ∃ z : Option Addr × Nat, (n = 0 → z.1 = none) ∧ e = .returned (.tuple #[]) ∧ SL w [gb] w' [.row z.1 z.2 5 1 (List.map u8c ([])), .blk gb (.cells #[.pointer (some ⟨gb, 0, none⟩), .slice z.1 0 z.2] 92 (0, 0))]) := by
 refine calls_of_CX (O := [gb]) (L := [.blk gb (.cells (#[.pointer none, .slice none 0 0]) 92 (0, 0))]) (args := [.pointer (some ⟨gb, 0, none⟩), .int .i64 ((n : Nat) : Int)]) Tryz.func99 rfl (by simp [Tryz.ntmps99]) hs ?_
 refine CX.sub (V' := [(0, .pointer (some ⟨gb, 0, none⟩)), (1, .int .i64 ((n : Nat) : Int))]) ⟨rfl, rfl, trivial⟩ ?_
 refine CX.seq ?_
 refine CX.region ?_
 refine RX.cons rfl rfl (op_w (yw_move rfl rfl) rfl rfl ?_)
 refine RX.cons rfl rfl (op_callP [.blk gb (.cells (#[.pointer none, .slice none 0 0]) 92 (0, 0))] [] rfl rfl rfl rfl rfl ent_80 ((perm_pick 0 rfl).trans (List.Perm.cons _ (List.Perm.refl _))) (σ := Unit) (val := fun _ => .tuple #[]) (LL := fun _ => [.blk gb (.cells #[.pointer (some ⟨gb, 0, none⟩), .slice none 0 0] 92 (0, 0))]) (post := fun _ => True) (fun w hw hs => (w_copy (.slice none 0 0) (.pointer none) rfl (.inl rfl) hs).mono fun e w' h => ⟨(), trivial, h⟩) (fun _ _ => ?_))
 refine RX.nil (XX.next (V' := [(0, _), (1, _)]) ⟨rfl, rfl, trivial⟩ ?_)
 refine CX.seq ?_
 refine CX.seq ?_
 refine CX.region ?_
 refine RX.cons rfl rfl (op_w (yw_move rfl rfl) rfl rfl ?_)
 refine RX.cons rfl rfl (op_w (yw_lss rfl rfl rfl) rfl rfl ?_)
 refine RX.nil (XX.next (V' := [(0, _), (1, _), (7, _)]) ⟨rfl, rfl, rfl, trivial⟩ ?_)
 refine CX.condD (p := ((n : Nat) : Int) < 0) rfl (fun c7 => ?_) (fun c7 => ?_)
 ·exfalso; omega
 ·refine CX.skip (XX.next (V' := [(0, _), (1, _)]) ⟨rfl, rfl, trivial⟩ ?_)
  refine CX.seq ?_
  refine CX.draw 13 [(0, 1, 512), (1, 512, 1024), (2, 1024, 2048), (4, 2048, 4096), (8, 4096, 8192), (0, 1, 16384), (32, 16384, 32768), (64, 32768, 65536), (128, 65536, 131072), (256, 131072, 262144), (528, 270336, 524288), (0, 2, 1048576), (3072, 1572864, 2097152)] (by kernel_rfl) (by kernel_rfl) (by kernel_rfl) ?_
  refine DX.takeW 0 1 (by kernel_rfl) rfl rfl rfl rfl rfl (yw_move rfl rfl) ?_
  refine DX.takeW 1 3 (by kernel_rfl) rfl rfl rfl rfl rfl (yw_nilCheck rfl rfl) ?_
  refine DX.takeW 2 7 (by kernel_rfl) rfl rfl rfl rfl rfl (yw_fieldAddr rfl fld_92_1 rfl) ?_
  refine DX.take 3 15 (by kernel_rfl) rfl rfl rfl rfl rfl (List.Sublist.refl _) (y_load (i := 0) rfl rfl one_54 rfl rfl) ?_
  refine DX.takeW 4 31 (by kernel_rfl) rfl rfl rfl rfl rfl (yw_capS rfl Tryz.underlying54 rfl) ?_
  refine DX.takeW 5 63 (by kernel_rfl) rfl rfl rfl rfl rfl (yw_move rfl rfl) ?_
  refine DX.takeW 6 127 (by kernel_rfl) rfl rfl rfl rfl rfl (yw_nilCheck rfl rfl) ?_
  refine DX.takeW 7 255 (by kernel_rfl) rfl rfl rfl rfl rfl (yw_fieldAddr rfl fld_92_1 rfl) ?_
  refine DX.take 8 511 (by kernel_rfl) rfl rfl rfl rfl rfl (List.Sublist.refl _) (y_load (i := 0) rfl rfl one_54 rfl rfl) ?_
  refine DX.takeW 9 1023 (by kernel_rfl) rfl rfl rfl rfl rfl (yw_lenS rfl Tryz.underlying54 rfl) ?_
  refine DX.takeW 10 2047 (by kernel_rfl) rfl rfl rfl rfl rfl (yw_sub rfl rfl rfl (by omega) (by omega)) ?_
  refine DX.takeW 11 4095 (by kernel_rfl) rfl rfl rfl rfl rfl (yw_move rfl rfl) ?_
  refine DX.takeW 12 8191 (by kernel_rfl) rfl rfl rfl rfl rfl (yw_lss rfl rfl rfl) ?_
  refine DX.done (by kernel_rfl) (XX.next (V' := [(0, _), (1, _), (21, _)]) ⟨rfl, rfl, rfl, trivial⟩ ?_)
  refine CX.condD (p := ((0 : Nat) : Int) - ((0 : Nat) : Int) < ((n : Nat) : Int)) rfl (fun c21 => ?_) (fun c21 => ?_)
  ·refine CX.region ?_
   refine RX.cons rfl rfl (op_w (yw_move rfl rfl) rfl rfl ?_)
   refine RX.cons rfl rfl (op_w (yw_move rfl rfl) rfl rfl ?_)
   refine RX.cons rfl rfl (op_callP [.blk gb (.cells (#[.pointer (some ⟨gb, 0, none⟩), .slice none 0 0]) 92 (0, 0))] [] rfl rfl rfl rfl rfl ent_102 ((perm_pick 0 rfl).trans (List.Perm.cons _ (List.Perm.refl _))) (σ := Option Addr × Nat) (val := fun _ => .tuple #[]) (LL := fun z => [.row z.1 z.2 5 1 (List.map u8c ([])), .blk gb (.cells #[.pointer (some ⟨gb, 0, none⟩), .slice z.1 0 z.2] 92 (0, 0))]) (post := fun z => n = 0 → z.1 = none) (fun w hw hs => w_growb (by omega) hn hs) (fun zg hzg => ?_))
   refine RX.nil ?_
   exact end_none rfl fun w1 hw => ⟨zg, hzg, rfl, hw.pick ((perm_pick 0 rfl).trans (List.Perm.cons _ ((perm_pick 0 rfl).trans (List.Perm.cons _ (List.Perm.refl _)))))⟩
  ·refine CX.rowNil 5 1 ?_
   refine CX.skip ?_
   exact end_none rfl fun w1 hw => ⟨(none, 0), (fun _ => rfl), rfl, hw.pick ((perm_pick 0 rfl).trans (List.Perm.cons _ ((perm_pick 0 rfl).trans (List.Perm.cons _ (List.Perm.refl _)))))⟩

set_option maxRecDepth 100000 in
theorem w_write {w : World} {gb cap : Nat} {A : Option Addr} {p : Value} (xs : List UInt8) (s : ByteArray) (hp : p = .pointer none ∨ p = .pointer (some ⟨gb, 0, none⟩)) (hn : xs.length + s.size ≤ 140737488355328) (hs : SL w (brO A gb) w [.row A cap 5 1 (List.map u8c xs), .blk gb (.cells #[p, .slice A xs.length cap] 92 (0, 0))]) :
    Calls Tryz.prog 54 #[.pointer (some ⟨gb, 0, none⟩), .string s] w (fun e w' => ∃ z : Option Addr × Nat, (A = none → s.size = 0 → z.1 = none) ∧ e = .returned (.tuple #[.int .i64 ((s.size : Nat) : Int), .nilIface]) ∧ SL w (brO A gb) w' [.row z.1 z.2 5 1 (List.map u8c (xs ++ s.data.toList)), .blk gb (.cells #[.pointer (some ⟨gb, 0, none⟩), .slice z.1 ((xs ++ s.data.toList).length) z.2] 92 (0, 0))]) := by
 refine calls_of_CX (O := (brO A gb)) (L := [.row A cap 5 1 (List.map u8c xs), .blk gb (.cells (#[p, .slice A (List.length (xs : List UInt8)) cap]) 92 (0, 0))]) (args := [.pointer (some ⟨gb, 0, none⟩), .string s]) Tryz.func54 rfl (by simp [Tryz.ntmps54]) hs ?_
 refine CX.sub (V' := [(0, .pointer (some ⟨gb, 0, none⟩)), (1, .string s)]) ⟨rfl, rfl, trivial⟩ ?_
 refine CX.seq ?_
 refine CX.region ?_
 refine RX.cons rfl rfl (op_w (yw_assign rfl rfl) rfl rfl ?_)
 refine RX.cons rfl rfl (op_w (yw_assign rfl rfl) rfl rfl ?_)
 refine RX.nil (XX.next (V' := [(0, _), (1, _)]) ⟨rfl, rfl, trivial⟩ ?_)
 refine CX.seq ?_
 refine CX.region ?_
 refine RX.cons rfl rfl (op_w (yw_move rfl rfl) rfl rfl ?_)
 refine RX.cons rfl rfl (op_callP [.blk gb (.cells (#[p, .slice A (List.length (xs : List UInt8)) cap]) 92 (0, 0))] [.row A cap 5 1 (List.map u8c xs)] rfl rfl rfl rfl rfl ent_80 ((perm_pick 1 rfl).trans (List.Perm.cons _ (List.Perm.refl _))) (σ := Unit) (val := fun _ => .tuple #[]) (LL := fun _ => [.blk gb (.cells #[.pointer (some ⟨gb, 0, none⟩), .slice A (List.length (xs : List UInt8)) cap] 92 (0, 0))]) (post := fun _ => True) (fun w hw hs => (w_copy (.slice A (List.length (xs : List UInt8)) cap) (p) rfl hp hs).mono fun e w' h => ⟨(), trivial, h⟩) (fun _ _ => ?_))
 refine RX.nil (XX.next (V' := [(0, _), (1, _)]) ⟨rfl, rfl, trivial⟩ ?_)
 refine CX.seq ?_
 refine CX.region ?_
 refine RX.cons rfl rfl (op_w (yw_move rfl rfl) rfl rfl ?_)
 refine RX.cons rfl rfl (op_w (yw_move rfl rfl) rfl rfl ?_)
 refine RX.cons rfl rfl (op_w (yw_nilCheck rfl rfl) rfl rfl ?_)
 refine RX.cons rfl rfl (op_w (yw_fieldAddr rfl fld_92_1 rfl) rfl rfl ?_)
 refine RX.cons rfl rfl (op_yld (y_load (i := 0) rfl rfl one_54 rfl rfl) rfl rfl ?_)
 refine RX.cons rfl rfl (op_w (yw_move rfl rfl) rfl rfl ?_)
 refine RX.cons rfl rfl (op_appendStr (i := 1) (xs := xs) rfl rfl rfl slb_54 Tryz.underlying9 rfl rfl rfl hn fun A1 c1 hA1 => ?_)
 refine RX.cons rfl rfl (op_w (yw_nilCheck rfl rfl) rfl rfl ?_)
 refine RX.cons rfl rfl (op_w (yw_fieldAddr rfl fld_92_1 rfl) rfl rfl ?_)
 refine RX.cons rfl rfl (op_store1 (i := 0) (cs' := #[.pointer (some ⟨gb, 0, none⟩), .slice A1 (((xs ++ s.data.toList)).length) c1]) rfl rfl rfl rfl szt_54 rfl rfl rfl rfl ?_)
 refine RX.nil (XX.next (V' := [(1, _)]) ⟨rfl, trivial⟩ ?_)
 refine CX.seq ?_
 refine CX.region ?_
 refine RX.cons rfl rfl (op_w (yw_move rfl rfl) rfl rfl ?_)
 refine RX.cons rfl rfl (op_w (yw_lenStr rfl Tryz.underlying9 rfl) rfl rfl ?_)
 refine RX.cons rfl rfl (op_w (yw_assign rfl rfl) rfl rfl ?_)
 refine RX.cons rfl rfl (op_w (yw_assign rfl rfl) rfl rfl ?_)
 refine RX.nil (XX.next (V' := [(4, .int .i64 ((ByteArray.size s : Nat) : Int)), (5, .nilIface)]) ⟨rfl, rfl, trivial⟩ ?_)
 refine CX.ret ?_
 exact ret_tmp2 rfl rfl rfl fun w1 hw => ⟨(A1, c1), hA1, rfl, hw.pick ((perm_pick 1 rfl).trans (List.Perm.cons _ ((perm_pick 0 rfl).trans (List.Perm.cons _ (List.Perm.refl _)))))⟩

set_option maxRecDepth 100000 in
theorem w_strNil {w : World} {gb cap : Nat} {p : Value} (hs : SL w (brO (none) gb) w [.row none cap 5 1 (List.map u8c ([])), .blk gb (.cells #[p, .slice none (([] : List UInt8).length) cap] 92 (0, 0))]) :
    Calls Tryz.prog 55 #[.pointer (some ⟨gb, 0, none⟩)] w (fun e w' => e = .returned (.string ⟨List.toArray ([] : List UInt8)⟩) ∧ SL w (brO (none) gb) w' [.blk gb (.cells #[p, .slice none (([] : List UInt8).length) cap] 92 (0, 0))]) := by
 refine calls_of_CX (O := (brO (none) gb)) (L := [.row none cap 5 1 (List.map u8c ([])), .blk gb (.cells (#[p, .slice none (([] : List UInt8).length) cap]) 92 (0, 0))]) (args := [.pointer (some ⟨gb, 0, none⟩)]) Tryz.func55 rfl (by simp [Tryz.ntmps55]) hs ?_
 refine CX.sub (V' := [(0, .pointer (some ⟨gb, 0, none⟩))]) ⟨rfl, trivial⟩ ?_
 refine CX.seq ?_
 refine CX.region ?_
 refine RX.cons rfl rfl (op_w (yw_assign rfl rfl) rfl rfl ?_)
 refine RX.nil (XX.next (V' := [(0, _)]) ⟨rfl, trivial⟩ ?_)
 refine CX.seq ?_
 refine CX.draw 10 [(0, 1, 8), (1, 8, 16), (2, 16, 32), (4, 32, 64), (8, 64, 128), (0, 1, 256), (32, 256, 512), (64, 512, 1024), (128, 1024, 2048), (256, 2048, 4096), (528, 4224, 8192), (2047, 8192, 4)] (by kernel_rfl) (by kernel_rfl) (by kernel_rfl) ?_
 refine DX.takeW 0 1 (by kernel_rfl) rfl rfl rfl rfl rfl (yw_move rfl rfl) ?_
 refine DX.takeW 1 3 (by kernel_rfl) rfl rfl rfl rfl rfl (yw_nilCheck rfl rfl) ?_
 refine DX.takeW 2 7 (by kernel_rfl) rfl rfl rfl rfl rfl (yw_fieldAddr rfl fld_92_1 rfl) ?_
 refine DX.take 3 15 (by kernel_rfl) rfl rfl rfl rfl rfl (List.Sublist.refl _) (y_load (i := 1) rfl rfl one_54 rfl rfl) ?_
 refine DX.takeW 4 31 (by kernel_rfl) rfl rfl rfl rfl rfl (yw_sliceData0 rfl rfl) ?_
 refine DX.takeW 5 63 (by kernel_rfl) rfl rfl rfl rfl rfl (yw_move rfl rfl) ?_
 refine DX.takeW 6 127 (by kernel_rfl) rfl rfl rfl rfl rfl (yw_nilCheck rfl rfl) ?_
 refine DX.takeW 7 255 (by kernel_rfl) rfl rfl rfl rfl rfl (yw_fieldAddr rfl fld_92_1 rfl) ?_
 refine DX.take 8 511 (by kernel_rfl) rfl rfl rfl rfl rfl (List.Sublist.refl _) (y_load (i := 1) rfl rfl one_54 rfl rfl) ?_
 refine DX.takeW 9 1023 (by kernel_rfl) rfl rfl rfl rfl rfl (yw_lenS rfl Tryz.underlying54 rfl) ?_
 refine DX.takeW 10 2047 (by kernel_rfl) rfl rfl rfl rfl rfl (yw_unsafeString0 rfl rfl rfl) ?_
 refine DX.takeW 11 4095 (by kernel_rfl) rfl rfl rfl rfl rfl (yw_assign rfl rfl) ?_
 refine DX.done (by kernel_rfl) (XX.next (V' := [(2, .string .empty)]) ⟨rfl, trivial⟩ ?_)
 refine CX.ret ?_
 exact ret_tmp rfl rfl fun w1 hw => ⟨rfl, hw.pick ((perm_pick 1 rfl).trans (List.Perm.cons _ (List.Perm.refl _)))⟩

set_option maxRecDepth 100000 in
theorem w_strSome {w : World} {gb cap : Nat} {p : Value} {gr : Nat} {xs : List UInt8} (h0 : xs ≠ []) (hc : cap ≠ 0) (hs : SL w (brO (some ⟨gr, 0, none⟩) gb) w [.row (some ⟨gr, 0, none⟩) cap 5 1 (List.map u8c xs), .blk gb (.cells #[p, .slice (some ⟨gr, 0, none⟩) ((xs : List UInt8).length) cap] 92 (0, 0))]) :
    Calls Tryz.prog 55 #[.pointer (some ⟨gb, 0, none⟩)] w (fun e w' => e = .returned (.string ⟨List.toArray (xs : List UInt8)⟩) ∧ SL w (brO (some ⟨gr, 0, none⟩) gb) w' [.blk gb (.cells #[p, .slice (some ⟨gr, 0, none⟩) ((xs : List UInt8).length) cap] 92 (0, 0))]) := by
 refine calls_of_CX (O := (brO (some ⟨gr, 0, none⟩) gb)) (L := [.row (some ⟨gr, 0, none⟩) cap 5 1 (List.map u8c xs), .blk gb (.cells (#[p, .slice (some ⟨gr, 0, none⟩) ((xs : List UInt8).length) cap]) 92 (0, 0))]) (args := [.pointer (some ⟨gb, 0, none⟩)]) Tryz.func55 rfl (by simp [Tryz.ntmps55]) hs ?_
 refine CX.sub (V' := [(0, .pointer (some ⟨gb, 0, none⟩))]) ⟨rfl, trivial⟩ ?_
 refine CX.seq ?_
 refine CX.region ?_
 refine RX.cons rfl rfl (op_w (yw_assign rfl rfl) rfl rfl ?_)
 refine RX.nil (XX.next (V' := [(0, _)]) ⟨rfl, trivial⟩ ?_)
 refine CX.seq ?_
 refine CX.draw 10 [(0, 1, 8), (1, 8, 16), (2, 16, 32), (4, 32, 64), (8, 64, 128), (0, 1, 256), (32, 256, 512), (64, 512, 1024), (128, 1024, 2048), (256, 2048, 4096), (528, 4224, 8192), (2047, 8192, 4)] (by kernel_rfl) (by kernel_rfl) (by kernel_rfl) ?_
 refine DX.takeW 0 1 (by kernel_rfl) rfl rfl rfl rfl rfl (yw_move rfl rfl) ?_
 refine DX.takeW 1 3 (by kernel_rfl) rfl rfl rfl rfl rfl (yw_nilCheck rfl rfl) ?_
 refine DX.takeW 2 7 (by kernel_rfl) rfl rfl rfl rfl rfl (yw_fieldAddr rfl fld_92_1 rfl) ?_
 refine DX.take 3 15 (by kernel_rfl) rfl rfl rfl rfl rfl (List.Sublist.refl _) (y_load (i := 1) rfl rfl one_54 rfl rfl) ?_
 refine DX.takeW 4 31 (by kernel_rfl) rfl rfl rfl rfl rfl (yw_sliceData (p := ⟨gr, 0, none⟩) rfl rfl hc) ?_
 refine DX.takeW 5 63 (by kernel_rfl) rfl rfl rfl rfl rfl (yw_move rfl rfl) ?_
 refine DX.takeW 6 127 (by kernel_rfl) rfl rfl rfl rfl rfl (yw_nilCheck rfl rfl) ?_
 refine DX.takeW 7 255 (by kernel_rfl) rfl rfl rfl rfl rfl (yw_fieldAddr rfl fld_92_1 rfl) ?_
 refine DX.take 8 511 (by kernel_rfl) rfl rfl rfl rfl rfl (List.Sublist.refl _) (y_load (i := 1) rfl rfl one_54 rfl rfl) ?_
 refine DX.takeW 9 1023 (by kernel_rfl) rfl rfl rfl rfl rfl (yw_lenS rfl Tryz.underlying54 rfl) ?_
 refine DX.stepT 10 2047 (by kernel_rfl) rfl rfl rfl rfl (op_unsafeString (xs := xs) [.blk gb (.cells (#[p, .slice (some ⟨gr, 0, none⟩) ((xs : List UInt8).length) cap]) 92 (0, 0))] rfl rfl rfl rfl rfl rfl Tryz.underlying123 (by kernel_rfl) ((perm_pick 0 rfl).trans (List.Perm.cons _ (List.Perm.refl _))) h0 ?_)
 refine DX.takeW 11 4095 (by kernel_rfl) rfl rfl rfl rfl rfl (yw_assign rfl rfl) ?_
 refine DX.done (by kernel_rfl) (XX.next (V' := [(2, .string (⟨(xs).toArray⟩))]) ⟨rfl, trivial⟩ ?_)
 refine CX.ret ?_
 exact ret_tmp rfl rfl fun w1 hw => ⟨rfl, hw.pick ((perm_pick 0 rfl).trans (List.Perm.cons _ (List.Perm.refl _)))⟩

end Go.Proofs.YtnadipjlhlbfoaaGreatDoor
namespace Go.Proofs.YtnadipjlhlbfoaaGreatDoor
set_option linter.all false
open Go Go.RowKit
/-- A string's cell. -/
abbrev strC (s : ByteArray) : Array Value := #[.string s]
def joinL (xs : List ByteArray) : List UInt8 := xs.flatMap fun s => s.data.toList
def joinB (xs : List ByteArray) : ByteArray := ⟨(joinL xs).toArray⟩
theorem joinL_snoc (xs : List ByteArray) (s : ByteArray) : joinL (xs ++ [s]) = joinL xs ++ s.data.toList := by simp [joinL]
theorem joinL_succ {xs : List ByteArray} {i : Nat} {s : ByteArray} (h : xs[i]? = some s) : joinL (xs.take (i + 1)) = joinL (xs.take i) ++ s.data.toList := by
  rw [take_succ h, joinL_snoc]
theorem joinL_le (xs : List ByteArray) (i : Nat) : (joinL (xs.take i)).length ≤ (joinL xs).length := by
  have : joinL xs = joinL (xs.take i) ++ joinL (xs.drop i) := by
    rw [joinL, joinL, joinL, ← List.flatMap_append, List.take_append_drop]
  rw [this]; simp
theorem joinB_one (s : ByteArray) : joinB [s] = s := by
  apply ByteArray.ext
  simp [joinB, joinL]
theorem joinB_two (s t : ByteArray) : joinB [s, t] = s ++ t := by
  apply ByteArray.ext
  apply Array.ext'
  simp [joinB, joinL, ByteArray.data_append]
theorem joinL_nil {xs : List ByteArray} {s : ByteArray} (h : joinL xs = []) (hs : s ∈ xs) : s.size = 0 := by
  have : s.data.toList = [] := by
    unfold joinL at h
    rw [List.flatMap_eq_nil_iff] at h
    exact h s hs
  rw [← size_list, this]; rfl
theorem empty_list : (ByteArray.data ByteArray.empty).toList = [] := rfl
theorem joinB_size (xs : List ByteArray) : (joinB xs).size = (joinL xs).length := by
  show (joinL xs).toArray.size = _
  simp
end Go.Proofs.YtnadipjlhlbfoaaGreatDoor
namespace Go.Proofs.YtnadipjlhlbfoaaGreatDoor
set_option linter.all false
open Go Go.RowKit
set_option maxRecDepth 100000
theorem slt_26 : SlT Tryz.prog 26 9 1 := ⟨(Tryz.prog.info? 9).get!, Tryz.underlying26, by kernel_rfl, by kernel_rfl⟩
theorem one_9 : One Tryz.prog 9 := ⟨_, Tryz.underlying9, rfl⟩
theorem zero_92 : Zero Tryz.prog 92 (.agg (#[.pointer none, .slice none 0 0])) := ⟨(Tryz.prog.info? 92).get!, by kernel_rfl, by kernel_rfl⟩
theorem ent_99 : ∀ args w, (callFunc 99 args).run Tryz.prog w = .ok (.enter 99 args) w := enters_of Tryz.func99 (by kernel_rfl) rfl
theorem ent_54 : ∀ args w, (callFunc 54 args).run Tryz.prog w = .ok (.enter 54 args) w := enters_of Tryz.func54 (by kernel_rfl) rfl
theorem ent_55 : ∀ args w, (callFunc 55 args).run Tryz.prog w = .ok (.enter 55 args) w := enters_of Tryz.func55 (by kernel_rfl) rfl
/-- A builder's string. -/
theorem w_str {w : World} {gb cap : Nat} {p : Value} {A : Option Addr} (xs : List UInt8) (h : xs = [] → A = none) (hs : SL w (brO A gb) w [.row A cap 5 1 (List.map u8c xs), .blk gb (.cells #[p, .slice A xs.length cap] 92 (0, 0))]) :
    Calls Tryz.prog 55 #[.pointer (some ⟨gb, 0, none⟩)] w (fun e w' => e = .returned (.string ⟨xs.toArray⟩) ∧ SL w (brO A gb) w' [.blk gb (.cells #[p, .slice A xs.length cap] 92 (0, 0))]) := by
  by_cases hx : xs = []
  · have hA := h hx
    subst hx; subst hA
    exact w_strNil hs
  · have hown := row_u8.1 (hs.ents _ List.mem_cons_self)
    rcases hown.2 with ⟨hv, h0⟩ | ⟨g, cp, cur, hv, _, _, hnc, _⟩
    · exact absurd (List.eq_nil_of_length_eq_zero h0) hx
    · injection hv with h1 h2 h3
      subst h1
      have : xs.length ≠ 0 := by simpa using hx
      exact w_strSome hx (by omega) hs
set_option maxRecDepth 100000 in
theorem w_join {w : World} {A : Option Addr} {cap : Nat} (xs : List ByteArray) (hr : Rd w A 1 (xs.map strC)) (hcap : xs.length ≤ cap) (hl : xs.length ≤ 1000) (hn : (joinL xs).length ≤ 70368744177664) :
    Calls Tryz.prog 86 #[.slice A xs.length cap, .string .empty] w (fun e w' => e = .returned (.string (joinB xs)) ∧ SL w [] w' []) := by
 refine calls_of_CX (O := []) (L := []) (args := [.slice A xs.length cap, .string .empty]) Tryz.func86 rfl (by simp [Tryz.ntmps86]) (SL.refl w) ?_
 refine CX.sub (V' := [(0, .slice A xs.length cap), (1, .string .empty)]) ⟨rfl, rfl, trivial⟩ ?_
 refine CX.seq ?_
 refine CX.region ?_
 refine RX.cons rfl rfl (op_w (yw_assign rfl rfl) rfl rfl ?_)
 refine RX.nil (XX.next (V' := [(0, _), (1, _)]) ⟨rfl, rfl, trivial⟩ ?_)
 refine CX.seq ?_
 refine CX.seq ?_
 refine CX.region ?_
 refine RX.cons rfl rfl (op_w (yw_move rfl rfl) rfl rfl ?_)
 refine RX.cons rfl rfl (op_w (yw_lenS rfl Tryz.underlying26 rfl) rfl rfl ?_)
 refine RX.nil (XX.next (V' := [(0, _), (1, _), (12, _)]) ⟨rfl, rfl, rfl, trivial⟩ ?_)
 refine CX.block ?_
 refine CX.seq ?_
 refine CX.region ?_
 refine RX.cons rfl rfl (op_w (yw_eql rfl rfl rfl) rfl rfl ?_)
 refine RX.cons rfl rfl (op_w (yw_assign rfl rfl) rfl rfl ?_)
 refine RX.nil (XX.next (V' := [(0, _), (1, _), (12, _), (13, _)]) ⟨rfl, rfl, rfl, rfl, trivial⟩ ?_)
 refine CX.condD (p := ((xs.length : Nat) : Int) = 0) rfl (fun c13 => ?_) (fun c13 => ?_)
 ·obtain rfl : xs = [] := List.eq_nil_of_length_eq_zero (by omega)
  refine CX.seq ?_
  refine CX.region ?_
  refine RX.cons rfl rfl (op_w (yw_assign rfl rfl) rfl rfl ?_)
  refine RX.nil (XX.next (V' := [(4, .string .empty)]) ⟨rfl, trivial⟩ ?_)
  refine CX.ret ?_
  refine XX.block_ret ?_
  refine XX.then_ret ?_
  exact ret_tmp rfl rfl fun w1 hw => ⟨rfl, hw.sub (List.nil_sublist _)⟩
 ·refine CX.seq ?_
  refine CX.region ?_
  refine RX.cons rfl rfl (op_w (yw_eql rfl rfl rfl) rfl rfl ?_)
  refine RX.cons rfl rfl (op_w (yw_assign rfl rfl) rfl rfl ?_)
  refine RX.nil (XX.next (V' := [(0, _), (1, _), (15, _)]) ⟨rfl, rfl, rfl, trivial⟩ ?_)
  refine CX.condD (p := ((xs.length : Nat) : Int) = 1) rfl (fun c15 => ?_) (fun c15 => ?_)
  ·obtain ⟨s0, rfl⟩ : ∃ s0, xs = [s0] := List.length_eq_one_iff.1 (by omega)
   refine CX.seq ?_
   refine CX.region ?_
   refine RX.cons rfl rfl (op_w (yw_move rfl rfl) rfl rfl ?_)
   refine RX.cons rfl rfl (op_w (yw_index (k := 0) rfl slt_26 rfl rfl rfl (by simp) (hr.some (k := 0) (by simp))) rfl rfl ?_)
   refine RX.cons rfl rfl (op_yld (y_elem1 rfl rfl one_9 hr (by simp) (map_get (k := 0) rfl)) rfl rfl ?_)
   refine RX.cons rfl rfl (op_w (yw_assign rfl rfl) rfl rfl ?_)
   refine RX.nil (XX.next (V' := [(4, .string s0)]) ⟨rfl, trivial⟩ ?_)
   refine CX.ret ?_
   refine XX.block_ret ?_
   refine XX.then_ret ?_
   exact ret_tmp rfl rfl fun w1 hw => ⟨by rw [joinB_one], hw.sub (List.nil_sublist _)⟩
  ·refine CX.skip (XX.inBlock (V' := [(0, _), (1, _)]) ⟨rfl, rfl, trivial⟩ ?_)
   refine XX.next (V' := [(0, _), (1, _)]) ⟨rfl, rfl, trivial⟩ ?_
   refine CX.seq ?_
   refine CX.region ?_
   refine RX.cons rfl rfl (op_w (yw_assign rfl rfl) rfl rfl ?_)
   refine RX.nil (XX.next (V' := [(0, _), (1, _), (5, _)]) ⟨rfl, rfl, rfl, trivial⟩ ?_)
   refine CX.seq ?_
   refine CX.seq ?_
   refine CX.region ?_
   refine RX.cons rfl rfl (op_w (yw_move rfl rfl) rfl rfl ?_)
   refine RX.cons rfl rfl (op_w (yw_lenStr rfl Tryz.underlying9 rfl) rfl rfl ?_)
   refine RX.cons rfl rfl (op_w (yw_gtr rfl rfl rfl) rfl rfl ?_)
   refine RX.nil (XX.next (V' := [(0, _), (1, _), (5, _), (22, _)]) ⟨rfl, rfl, rfl, rfl, trivial⟩ ?_)
   refine CX.condD (p := 0 < ((ByteArray.size .empty : Nat) : Int)) rfl (fun c22 => ?_) (fun c22 => ?_)
   ·exact absurd c22 (by decide)
   ·refine CX.skip (XX.next (V' := [(0, _), (1, _), (5, _)]) ⟨rfl, rfl, rfl, trivial⟩ ?_)
    refine CX.seq ?_
    refine CX.seq ?_
    refine CX.region ?_
    refine RX.cons rfl rfl (op_w (yw_move rfl rfl) rfl rfl ?_)
    refine RX.cons rfl rfl (op_w (yw_lenS rfl Tryz.underlying26 rfl) rfl rfl ?_)
    refine RX.cons rfl rfl (op_w (yw_move rfl rfl) rfl rfl ?_)
    refine RX.nil (XX.next (V' := [(0, _), (1, _), (5, _), (39, _), (40, _), (41, _)]) ⟨rfl, rfl, rfl, rfl, rfl, rfl, trivial⟩ ?_)
    refine CX.block ?_
    refine CX.loop (σ := Nat) (fun z => [(0, .slice A xs.length cap), (1, .string .empty), (5, .int .i64 (((joinL (xs.take z)).length : Nat) : Int)), (39, .slice A xs.length cap), (40, .int .i64 ((xs.length : Nat) : Int)), (41, .int .i64 ((z : Nat) : Int))]) (fun z => []) (fun z => z ≤ xs.length) (fun z => xs.length - z) 0 (Nat.zero_le _) ⟨rfl, rfl, rfl, rfl, rfl, rfl, trivial⟩ rfl (fun z hI => ?_)
    refine CX.seq ?_
    refine CX.region ?_
    refine RX.cons rfl rfl (op_w (yw_lss rfl rfl rfl) rfl rfl ?_)
    refine RX.nil (XX.next (V' := [(0, _), (1, _), (5, _), (39, _), (40, _), (41, _), (42, _)]) ⟨rfl, rfl, rfl, rfl, rfl, rfl, rfl, trivial⟩ ?_)
    refine CX.seq ?_
    refine CX.condD (p := ((z : Nat) : Int) < ((xs.length : Nat) : Int)) rfl (fun c42 => ?_) (fun c42 => ?_)
    ·obtain ⟨s0, hs0⟩ := get_some (l := xs) (k := z) (by omega)
     have hst : (joinL (xs.take (z + 1))).length = (joinL (xs.take z)).length + s0.size := by rw [joinL_succ hs0, List.length_append, size_list]
     have hle := joinL_le xs (z + 1)
     have hA : ∃ b j, A = some ⟨b, j, none⟩ := hr.some (k := 0) (by simp; omega)
     refine CX.skip (XX.next (V' := [(0, _), (1, _), (5, _), (39, _), (40, _), (41, _)]) ⟨rfl, rfl, rfl, rfl, rfl, rfl, trivial⟩ ?_)
     refine CX.seq ?_
     refine CX.block ?_
     refine CX.seq ?_
     refine CX.region ?_
     refine RX.cons rfl rfl (op_w (yw_index (k := z) rfl slt_26 rfl rfl (by omega) (by omega) hA) rfl rfl ?_)
     refine RX.cons rfl rfl (op_yld (y_elem1 rfl rfl one_9 hr (by simp) (map_get hs0)) rfl rfl ?_)
     refine RX.cons rfl rfl (op_w (yw_assign rfl rfl) rfl rfl ?_)
     refine RX.nil (XX.next (V' := [(0, _), (1, _), (5, _), (7, _), (39, _), (40, _), (41, _)]) ⟨rfl, rfl, rfl, rfl, rfl, rfl, rfl, trivial⟩ ?_)
     refine CX.seq ?_
     refine CX.seq ?_
     refine CX.region ?_
     refine RX.cons rfl rfl (op_w (yw_move rfl rfl) rfl rfl ?_)
     refine RX.cons rfl rfl (op_w (yw_lenStr rfl Tryz.underlying9 rfl) rfl rfl ?_)
     refine RX.cons rfl rfl (op_w (yw_move rfl rfl) rfl rfl ?_)
     refine RX.cons rfl rfl (op_w (yw_sub rfl rfl rfl (by omega) (by omega)) rfl rfl ?_)
     refine RX.cons rfl rfl (op_w (yw_gtr rfl rfl rfl) rfl rfl ?_)
     refine RX.nil (XX.next (V' := [(0, _), (1, _), (5, _), (7, _), (39, _), (40, _), (41, _), (49, _)]) ⟨rfl, rfl, rfl, rfl, rfl, rfl, rfl, rfl, trivial⟩ ?_)
     refine CX.condD (p := 9223372036854775807 - (((joinL (xs.take z)).length : Nat) : Int) < ((ByteArray.size s0 : Nat) : Int)) rfl (fun c49 => ?_) (fun c49 => ?_)
     ·exfalso; omega
     ·refine CX.skip (XX.next (V' := [(0, _), (1, _), (5, _), (7, _), (39, _), (40, _), (41, _)]) ⟨rfl, rfl, rfl, rfl, rfl, rfl, rfl, trivial⟩ ?_)
      refine CX.region ?_
      refine RX.cons rfl rfl (op_w (yw_move rfl rfl) rfl rfl ?_)
      refine RX.cons rfl rfl (op_w (yw_move rfl rfl) rfl rfl ?_)
      refine RX.cons rfl rfl (op_w (yw_lenStr rfl Tryz.underlying9 rfl) rfl rfl ?_)
      refine RX.cons rfl rfl (op_w (yw_add rfl rfl rfl (by omega) (by omega)) rfl rfl ?_)
      refine RX.know (t := 54) (u := .int .i64 (((joinL (xs.take (z + 1))).length : Nat) : Int)) rfl (congrArg (Value.int .i64) (by omega)) ?_
      refine RX.cons rfl rfl (op_w (yw_assign rfl rfl) rfl rfl ?_)
      refine RX.nil (XX.inBlock (V' := [(0, _), (1, _), (5, _), (39, _), (40, _), (41, _)]) ⟨rfl, rfl, rfl, rfl, rfl, rfl, trivial⟩ ?_)
      refine XX.next (V' := [(0, _), (1, _), (5, _), (39, _), (40, _), (41, _)]) ⟨rfl, rfl, rfl, rfl, rfl, rfl, trivial⟩ ?_
      refine CX.region ?_
      refine RX.cons rfl rfl (op_w (yw_add rfl rfl rfl (by omega) (by omega)) rfl rfl ?_)
      refine RX.cons rfl rfl (op_w (yw_move rfl rfl) rfl rfl ?_)
      refine RX.nil (XX.againP ([]) (z + 1) (by omega) (by omega) ⟨rfl, rfl, rfl, rfl, rfl, rfl, trivial⟩ (List.Perm.refl _))
    ·have htk : xs.take z = xs := List.take_of_length_le (by omega)
     have hA : ∃ b j, A = some ⟨b, j, none⟩ := hr.some (k := 0) (by simp; omega)
     obtain ⟨b0, j0, hA0⟩ := hA
     refine CX.exit ?_
     refine XX.then_exit ?_
     refine XX.then_exit ?_
     refine XX.block_exit ?_
     refine XX.next (V' := [(0, _), (1, _), (5, _)]) ⟨rfl, rfl, rfl, trivial⟩ ?_
     refine CX.seq ?_
     refine CX.region ?_
     refine RX.cons rfl rfl (op_alloc rfl rfl rfl zero_92 fun gb => ?_)
     refine RX.nil (XX.next (V' := [(0, _), (1, _), (5, _), (8, _)]) ⟨rfl, rfl, rfl, rfl, trivial⟩ ?_)
     refine CX.seq ?_
     refine CX.region ?_
     refine RX.cons rfl rfl (op_w (yw_move rfl rfl) rfl rfl ?_)
     refine RX.know (t := 56) (u := .int .i64 (((joinL xs).length : Nat) : Int)) rfl (congrArg (Value.int .i64) (by rw [htk])) ?_
     refine RX.cons rfl rfl (op_callP [.blk gb (.cells (#[.pointer none, .slice none 0 0]) 92 (0, 0))] [] rfl rfl rfl rfl rfl ent_99 ((perm_pick 0 rfl).trans (List.Perm.cons _ (List.Perm.refl _))) (σ := Option Addr × Nat) (val := fun _ => .tuple #[]) (LL := fun z => [.row z.1 z.2 5 1 (List.map u8c ([])), .blk gb (.cells #[.pointer (some ⟨gb, 0, none⟩), .slice z.1 0 z.2] 92 (0, 0))]) (post := fun z => (joinL xs).length = 0 → z.1 = none) (fun w hw hs => w_Grow hn hs) (fun zg hzg => ?_))
     refine RX.nil (XX.next (V' := [(0, _), (1, _), (8, _)]) ⟨rfl, rfl, rfl, trivial⟩ ?_)
     refine CX.seq ?_
     obtain ⟨s1, hs1⟩ := get_some (l := xs) (k := 0) (by omega)
     have hj1 : joinL (xs.take 1) = [] ++ s1.data.toList := joinL_succ hs1
     have hjl := joinL_le xs 1
     rw [hj1] at hjl
     simp only [List.nil_append, size_list] at hjl
     refine CX.region ?_
     refine RX.cons rfl rfl (op_w (yw_move rfl rfl) rfl rfl ?_)
     refine RX.cons rfl rfl (op_w (yw_index (k := 0) rfl slt_26 rfl rfl rfl (by omega) ⟨_, _, hA0⟩) rfl rfl ?_)
     refine RX.cons rfl rfl (op_yld (y_elem1 rfl rfl one_9 hr (by simp) (map_get hs1)) rfl rfl ?_)
     refine RX.cons rfl rfl (op_callP [.row zg.1 zg.2 5 1 (List.map u8c ([])), .blk gb (.cells (#[.pointer (some ⟨gb, 0, none⟩), .slice zg.1 0 zg.2]) 92 (0, 0))] [] rfl rfl rfl rfl rfl ent_54 ((perm_pick 0 rfl).trans (List.Perm.cons _ ((perm_pick 0 rfl).trans (List.Perm.cons _ (List.Perm.refl _))))) (σ := Option Addr × Nat) (val := fun _ => .tuple #[.int .i64 ((ByteArray.size s1 : Nat) : Int), .nilIface]) (LL := fun z => [.row z.1 z.2 5 1 (List.map u8c ([] ++ (ByteArray.data s1).toList)), .blk gb (.cells #[.pointer (some ⟨gb, 0, none⟩), .slice z.1 (List.length (([] ++ (ByteArray.data s1).toList) : List UInt8)) z.2] 92 (0, 0))]) (post := fun z => zg.1 = none → ByteArray.size s1 = 0 → z.1 = none) (fun w hw hs => w_write ([]) s1 (.inr rfl) (by simp only [List.length_nil]; omega) hs) (fun zw hzw => ?_))
     refine RX.nil (XX.next (V' := [(0, _), (1, _), (8, _)]) ⟨rfl, rfl, rfl, trivial⟩ ?_)
     refine CX.seq ?_
     refine CX.seq ?_
     refine CX.region ?_
     refine RX.cons rfl rfl (op_w (yw_move rfl rfl) rfl rfl ?_)
     refine RX.cons rfl rfl (op_w (yw_sliceFromS (k := 1) hA0 rfl slt_26 rfl rfl rfl (by omega) (by omega) (by omega)) rfl rfl ?_)
     refine RX.cons rfl rfl (op_w (yw_lenS rfl Tryz.underlying26 rfl) rfl rfl ?_)
     refine RX.cons rfl rfl (op_w (yw_move rfl rfl) rfl rfl ?_)
     refine RX.nil (XX.next (V' := [(1, _), (8, _), (63, _), (64, _), (65, _)]) ⟨rfl, rfl, rfl, rfl, rfl, trivial⟩ ?_)
     refine CX.block ?_
     have hcap2 : 1 < cap := by omega
     refine CX.loop (σ := Nat × (Option Addr × Nat) × List UInt8) (fun z => [(1, .string .empty), (8, .pointer (some ⟨gb, 0, none⟩)), (63, .slice (some ⟨b0, j0 + 1 * 1, none⟩) (xs.length - 1) (cap - 1)), (64, .int .i64 (((xs.length - 1) : Nat) : Int)), (65, .int .i64 ((z.1 : Nat) : Int))]) (fun z => [.row z.2.1.1 z.2.1.2 5 1 (List.map u8c z.2.2), .blk gb (.cells (#[.pointer (some ⟨gb, 0, none⟩), .slice z.2.1.1 (List.length (z.2.2 : List UInt8)) z.2.1.2]) 92 (0, 0))]) (fun z => z.1 ≤ xs.length - 1 ∧ z.2.2 = joinL (xs.take (z.1 + 1)) ∧ (joinL xs = [] → z.2.1.1 = none)) (fun z => xs.length - z.1) (0, zw, [] ++ s1.data.toList) ⟨Nat.zero_le _, hj1.symm, fun h => hzw (hzg (by rw [h]; rfl)) (joinL_nil h (List.mem_of_getElem? hs1))⟩ ⟨rfl, rfl, rfl, rfl, rfl, trivial⟩ rfl (fun z hI => ?_)
     obtain ⟨k, ⟨A2, c2⟩, bs⟩ := z
     dsimp only at hI ⊢
     obtain ⟨hk, hbs, hno⟩ := hI
     refine CX.seq ?_
     refine CX.region ?_
     refine RX.cons rfl rfl (op_w (yw_lss rfl rfl rfl) rfl rfl ?_)
     refine RX.nil (XX.next (V' := [(1, _), (8, _), (63, _), (64, _), (65, _), (66, _)]) ⟨rfl, rfl, rfl, rfl, rfl, rfl, trivial⟩ ?_)
     refine CX.seq ?_
     refine CX.condD (p := ((k : Nat) : Int) < (((xs.length - 1) : Nat) : Int)) rfl (fun c66 => ?_) (fun c66 => ?_)
     ·obtain ⟨s2, hs2⟩ := get_some (l := xs) (k := k + 1) (by omega)
      have hs2' : (xs.drop 1)[k]? = some s2 := by rw [List.getElem?_drop, Nat.add_comm]; exact hs2
      have hj2 := joinL_le xs (k + 1 + 1)
      rw [joinL_succ hs2, List.length_append, size_list, ← hbs] at hj2
      refine CX.skip (XX.next (V' := [(1, _), (8, _), (63, _), (64, _), (65, _)]) ⟨rfl, rfl, rfl, rfl, rfl, trivial⟩ ?_)
      refine CX.seq ?_
      refine CX.block ?_
      refine CX.seq ?_
      refine CX.region ?_
      refine RX.cons rfl rfl (op_w (yw_index (k := k) rfl slt_26 rfl rfl (by omega) (by omega) ⟨_, _, rfl⟩) rfl rfl ?_)
      refine RX.cons rfl rfl (op_yld (y_elem1 rfl rfl one_9 (Rd.dropM hr hA0 1) (by simp) (map_get hs2')) rfl rfl ?_)
      refine RX.cons rfl rfl (op_w (yw_assign rfl rfl) rfl rfl ?_)
      refine RX.nil (XX.next (V' := [(1, _), (8, _), (10, _), (63, _), (64, _), (65, _)]) ⟨rfl, rfl, rfl, rfl, rfl, rfl, trivial⟩ ?_)
      refine CX.seq ?_
      refine CX.region ?_
      refine RX.cons rfl rfl (op_w (yw_move rfl rfl) rfl rfl ?_)
      refine RX.cons rfl rfl (op_callP [.row A2 c2 5 1 (List.map u8c bs), .blk gb (.cells (#[.pointer (some ⟨gb, 0, none⟩), .slice A2 (List.length (bs : List UInt8)) c2]) 92 (0, 0))] [] rfl rfl rfl rfl rfl ent_54 ((perm_pick 0 rfl).trans (List.Perm.cons _ ((perm_pick 0 rfl).trans (List.Perm.cons _ (List.Perm.refl _))))) (σ := Option Addr × Nat) (val := fun _ => .tuple #[.int .i64 ((ByteArray.size .empty : Nat) : Int), .nilIface]) (LL := fun z => [.row z.1 z.2 5 1 (List.map u8c (bs ++ (ByteArray.data .empty).toList)), .blk gb (.cells #[.pointer (some ⟨gb, 0, none⟩), .slice z.1 (List.length ((bs ++ (ByteArray.data .empty).toList) : List UInt8)) z.2] 92 (0, 0))]) (post := fun z => A2 = none → ByteArray.size .empty = 0 → z.1 = none) (fun w hw hs => w_write bs .empty (.inr rfl) (by show bs.length + 0 ≤ _; omega) hs) (fun zu hzu => ?_))
      refine RX.nil (XX.next (V' := [(1, _), (8, _), (10, _), (63, _), (64, _), (65, _)]) ⟨rfl, rfl, rfl, rfl, rfl, rfl, trivial⟩ ?_)
      refine CX.region ?_
      refine RX.cons rfl rfl (op_w (yw_move rfl rfl) rfl rfl ?_)
      refine RX.cons rfl rfl (op_callP [.row zu.1 zu.2 5 1 (List.map u8c (bs ++ (ByteArray.data .empty).toList)), .blk gb (.cells (#[.pointer (some ⟨gb, 0, none⟩), .slice zu.1 (List.length ((bs ++ (ByteArray.data .empty).toList) : List UInt8)) zu.2]) 92 (0, 0))] [] rfl rfl rfl rfl rfl ent_54 ((perm_pick 0 rfl).trans (List.Perm.cons _ ((perm_pick 0 rfl).trans (List.Perm.cons _ (List.Perm.refl _))))) (σ := Option Addr × Nat) (val := fun _ => .tuple #[.int .i64 ((ByteArray.size s2 : Nat) : Int), .nilIface]) (LL := fun z => [.row z.1 z.2 5 1 (List.map u8c ((bs ++ (ByteArray.data .empty).toList) ++ (ByteArray.data s2).toList)), .blk gb (.cells #[.pointer (some ⟨gb, 0, none⟩), .slice z.1 (List.length (((bs ++ (ByteArray.data .empty).toList) ++ (ByteArray.data s2).toList) : List UInt8)) z.2] 92 (0, 0))]) (post := fun z => zu.1 = none → ByteArray.size s2 = 0 → z.1 = none) (fun w hw hs => w_write (bs ++ (ByteArray.data .empty).toList) s2 (.inr rfl) (by rw [empty_list, List.append_nil]; omega) hs) (fun zv hzv => ?_))
      refine RX.nil (XX.inBlock (V' := [(1, _), (8, _), (63, _), (64, _), (65, _)]) ⟨rfl, rfl, rfl, rfl, rfl, trivial⟩ ?_)
      refine XX.next (V' := [(1, _), (8, _), (63, _), (64, _), (65, _)]) ⟨rfl, rfl, rfl, rfl, rfl, trivial⟩ ?_
      refine CX.region ?_
      refine RX.cons rfl rfl (op_w (yw_add rfl rfl rfl (by omega) (by omega)) rfl rfl ?_)
      refine RX.cons rfl rfl (op_w (yw_move rfl rfl) rfl rfl ?_)
      refine RX.nil (XX.againP ([]) (k + 1, zv, (bs ++ (ByteArray.data .empty).toList) ++ s2.data.toList) (by dsimp only; omega) ⟨by dsimp only; omega, by dsimp only; rw [empty_list, List.append_nil, hbs, joinL_succ hs2], fun h => hzv (hzu (hno h) rfl) (joinL_nil h (List.mem_of_getElem? hs2))⟩ ⟨rfl, rfl, rfl, rfl, rfl, trivial⟩ ((perm_pick 0 rfl).trans (List.Perm.cons _ ((perm_pick 0 rfl).trans (List.Perm.cons _ (List.Perm.refl _))))))
     ·have hbx : bs = joinL xs := by rw [hbs, List.take_of_length_le (by omega)]
      refine CX.exit ?_
      refine XX.then_exit ?_
      refine XX.then_exit ?_
      refine XX.block_exit ?_
      refine XX.next (V' := [(8, _)]) ⟨rfl, trivial⟩ ?_
      refine CX.seq ?_
      refine CX.region ?_
      refine RX.cons rfl rfl (op_callP [.row A2 c2 5 1 (List.map u8c bs), .blk gb (.cells (#[.pointer (some ⟨gb, 0, none⟩), .slice A2 (List.length (bs : List UInt8)) c2]) 92 (0, 0))] [] rfl rfl rfl rfl rfl ent_55 ((perm_pick 0 rfl).trans (List.Perm.cons _ ((perm_pick 0 rfl).trans (List.Perm.cons _ (List.Perm.refl _))))) (σ := Unit) (val := fun _ => .string ⟨List.toArray bs⟩) (LL := fun _ => [.blk gb (.cells #[.pointer (some ⟨gb, 0, none⟩), .slice A2 (List.length (bs : List UInt8)) c2] 92 (0, 0))]) (post := fun _ => True) (fun w hw hs => (w_str bs (fun h => hno (by rw [← hbx]; exact h)) hs).mono fun e w' h => ⟨(), trivial, h⟩) (fun _ _ => ?_))
      refine RX.cons rfl rfl (op_w (yw_assign rfl rfl) rfl rfl ?_)
      refine RX.nil (XX.next (V' := [(4, .string (⟨List.toArray bs⟩))]) ⟨rfl, trivial⟩ ?_)
      refine CX.ret ?_
      exact ret_tmp rfl rfl fun w1 hw => ⟨by show Ending.returned _ = _; rw [hbx]; rfl, hw.sub (List.nil_sublist _)⟩

end Go.Proofs.YtnadipjlhlbfoaaGreatDoor
namespace Go.Proofs.YtnadipjlhlbfoaaGreatDoor
set_option linter.all false
open Go Go.RowKit
set_option maxRecDepth 100000
theorem ent_86 : ∀ args w, (callFunc 86 args).run Tryz.prog w = .ok (.enter 86 args) w := enters_of Tryz.func86 (by kernel_rfl) rfl
theorem ent_43 : ∀ args w, (callFunc 43 args).run Tryz.prog w = .ok (.enter 43 args) w := enters_of Tryz.func43 (by kernel_rfl) rfl
theorem ent_69 : ∀ args w, (callFunc 69 args).run Tryz.prog w = .ok (.enter 69 args) w := enters_of Tryz.func69 (by kernel_rfl) rfl
theorem slb_26 : SlB Tryz.prog 26 9 1 16 (.string .empty) := ⟨Tryz.underlying26, ⟨(Tryz.prog.info? 9).get!, by kernel_rfl, by kernel_rfl, by kernel_rfl, by kernel_rfl⟩, by decide, by decide⟩
theorem ent_85 : ∀ args w, (callFunc 85 args).run Tryz.prog w = .ok (.enter 85 args) w := enters_of Tryz.func85 (by kernel_rfl) rfl
set_option maxRecDepth 100000 in
theorem w_marked1 {w : World} {A : Option Addr} {cap gm : Nat} {mk : ByteArray} (xs : List ByteArray) (hG : Rounds w) (hr : Rd w A 1 (xs.map strC)) (hcap : xs.length ≤ cap) (hl : xs.length ≤ 1000) (hn : (joinL xs).length ≤ 35184372088832) (hm : w.cell? ⟨gm, 0, none⟩ = some (.string mk)) (hk : mk.size ≤ 1) :
    Calls Tryz.prog 85 #[.slice A xs.length cap, .pointer (some ⟨gm, 0, none⟩)] w (fun e w' => e = .returned (.string (sum (mk ++ joinB xs))) ∧ SL w [] w' []) := by
 refine calls_of_CX (O := []) (L := []) (args := [.slice A xs.length cap, .pointer (some ⟨gm, 0, none⟩)]) Tryz.func85 rfl (by simp [Tryz.ntmps85]) (SL.refl w) ?_
 refine CX.sub (V' := [(0, .slice A xs.length cap), (1, .pointer (some ⟨gm, 0, none⟩))]) ⟨rfl, rfl, trivial⟩ ?_
 refine CX.seq ?_
 refine CX.region ?_
 refine RX.cons rfl rfl (op_w (yw_assign rfl rfl) rfl rfl ?_)
 refine RX.nil (XX.next (V' := [(0, _), (1, _)]) ⟨rfl, rfl, trivial⟩ ?_)
 refine CX.seq ?_
 refine CX.draw 6 [(0, 2, 16), (0, 1, 32), (2, 32, 64), (5, 80, 128), (12, 128, 256), (31, 256, 8)] (by kernel_rfl) (by kernel_rfl) (by kernel_rfl) ?_
 refine DX.take 0 1 (by kernel_rfl) rfl rfl rfl rfl rfl (List.nil_sublist _) (y_loadG (v := .string mk) rfl rfl one_9 hm (by simp)) ?_
 refine DX.takeW 1 3 (by kernel_rfl) rfl rfl rfl rfl rfl (yw_move rfl rfl) ?_
 refine DX.step 2 7 (by kernel_rfl) rfl rfl rfl (op_callV (v := .string (joinB xs)) rfl rfl rfl rfl rfl ent_86 (fun w hw => w_join xs (hw.rd hr (by simp)) hcap hl (by omega)) (DXs.mk (List.nil_sublist _) ?_))
 refine DX.takeW 3 15 (by kernel_rfl) rfl rfl rfl rfl rfl (yw_stradd rfl rfl rfl (by rw [joinB_size]; omega)) ?_
 refine DX.step 4 31 (by kernel_rfl) rfl rfl rfl (op_callV (v := .string (sum (mk ++ (joinB xs)))) rfl rfl rfl rfl rfl ent_43 (fun w hw => w_sum (mk ++ (joinB xs)) (hG.keep hw (by simp)) (by rw [ByteArray.size_append, joinB_size]; omega)) (DXs.mk (List.nil_sublist _) ?_))
 refine DX.takeW 5 63 (by kernel_rfl) rfl rfl rfl rfl rfl (yw_assign rfl rfl) ?_
 refine DX.done (by kernel_rfl) (XX.next (V' := [(3, .string (sum (mk ++ (joinB xs))))]) ⟨rfl, trivial⟩ ?_)
 refine CX.ret ?_
 exact ret_tmp rfl rfl fun w1 hw => ⟨rfl, hw.sub (List.nil_sublist _)⟩

set_option maxRecDepth 100000 in
theorem w_marked {w : World} (mk : ByteArray) :
    Calls Tryz.prog 69 #[.string mk] w (fun e w' => ∃ z : Nat, True ∧ e = .returned (.func (.func 85) #[] #[.pointer (some ⟨z, 0, none⟩)]) ∧ SL w [] w' [.blk z (.cells #[.string mk] 9 (0, 0))]) := by
 refine calls_of_CX (O := []) (L := []) (args := [.string mk]) Tryz.func69 rfl (by simp [Tryz.ntmps69]) (SL.refl w) ?_
 refine CX.sub (V' := [(0, .string mk)]) ⟨rfl, trivial⟩ ?_
 refine CX.seq ?_
 refine CX.region ?_
 refine RX.cons rfl rfl (op_box rfl rfl rfl rfl fun gm => ?_)
 refine RX.cons rfl rfl (op_w (yw_assign rfl rfl) rfl rfl ?_)
 refine RX.nil (XX.next (V' := [(1, _)]) ⟨rfl, trivial⟩ ?_)
 refine CX.seq ?_
 refine CX.region ?_
 refine RX.cons rfl rfl (op_w (yw_makeFunc rfl rfl rfl) rfl rfl ?_)
 refine RX.cons rfl rfl (op_w (yw_assign rfl rfl) rfl rfl ?_)
 refine RX.nil (XX.next (V' := [(2, .func (.func 85) #[] #[.pointer (some ⟨gm, 0, none⟩)])]) ⟨rfl, trivial⟩ ?_)
 refine CX.ret ?_
 exact ret_tmp rfl rfl fun w1 hw => ⟨gm, trivial, rfl, hw⟩

set_option maxRecDepth 100000 in
theorem w_leaf {w : World} (s : ByteArray) (hG : Rounds w) (hn : s.size ≤ 17592186044416) :
    Calls Tryz.prog 41 #[.string s] w (fun e w' => e = .returned (.string (leafH sum s)) ∧ SL w [] w' []) := by
 refine calls_of_CX (O := []) (L := []) (args := [.string s]) Tryz.func41 rfl (by simp [Tryz.ntmps41]) (SL.refl w) ?_
 refine CX.sub (V' := [(0, .string s)]) ⟨rfl, trivial⟩ ?_
 refine CX.seq ?_
 refine CX.region ?_
 refine RX.cons rfl rfl (op_w (yw_assign rfl rfl) rfl rfl ?_)
 refine RX.nil (XX.next (V' := [(0, _)]) ⟨rfl, trivial⟩ ?_)
 refine CX.seq ?_
 refine CX.region ?_
 refine RX.cons rfl rfl (op_callE rfl rfl rfl rfl rfl ent_69 (fun w _ => w_marked ({ data := #[0] })) (fun zm _ => ?_))
 refine RX.cons rfl rfl (op_w (yw_move rfl rfl) rfl rfl ?_)
 refine RX.cons rfl rfl (op_buildSlice rfl rfl rfl slb_26 rfl rfl (by intro v hv; simp only [List.mem_cons, List.not_mem_nil, or_false] at hv; subst hv; exact ⟨rfl, (plain_of rfl)⟩) (by decide) fun g1 => ?_)
 refine RX.cons rfl rfl (op_callV (v := .string (sum (mark 0 (joinB ([s]))))) rfl rfl rfl rfl rfl ent_85 (fun w hw => w_marked1 (mk := ByteArray.mk #[0]) ([s]) (hG.keep hw (by simp)) (Ent.rd (hw.ents _ (List.mem_of_getElem? (i := 0) rfl))) (Nat.le_refl _) (by simp) (by simp [joinL, size_list]; omega) (hw.cellOf (i := 1) rfl rfl) (by decide)) ?_)
 refine RX.cons rfl rfl (op_w (yw_assign rfl rfl) rfl rfl ?_)
 refine RX.nil (XX.next (V' := [(2, .string (sum (mark 0 (joinB ([s])))))]) ⟨rfl, trivial⟩ ?_)
 refine CX.ret ?_
 exact ret_tmp rfl rfl fun w1 hw => ⟨by simp only [leafH, nodeH, chainH, joinB_one, joinB_two], hw.sub (List.nil_sublist _)⟩

set_option maxRecDepth 100000 in
theorem w_node {w : World} (s t : ByteArray) (hG : Rounds w) (hn : s.size + t.size ≤ 17592186044416) :
    Calls Tryz.prog 42 #[.string s, .string t] w (fun e w' => e = .returned (.string (nodeH sum s t)) ∧ SL w [] w' []) := by
 refine calls_of_CX (O := []) (L := []) (args := [.string s, .string t]) Tryz.func42 rfl (by simp [Tryz.ntmps42]) (SL.refl w) ?_
 refine CX.sub (V' := [(0, .string s), (1, .string t)]) ⟨rfl, rfl, trivial⟩ ?_
 refine CX.seq ?_
 refine CX.region ?_
 refine RX.cons rfl rfl (op_w (yw_assign rfl rfl) rfl rfl ?_)
 refine RX.nil (XX.next (V' := [(0, _), (1, _)]) ⟨rfl, rfl, trivial⟩ ?_)
 refine CX.seq ?_
 refine CX.region ?_
 refine RX.cons rfl rfl (op_callE rfl rfl rfl rfl rfl ent_69 (fun w _ => w_marked ({ data := #[1] })) (fun zm _ => ?_))
 refine RX.cons rfl rfl (op_w (yw_move rfl rfl) rfl rfl ?_)
 refine RX.cons rfl rfl (op_w (yw_move rfl rfl) rfl rfl ?_)
 refine RX.cons rfl rfl (op_buildSlice rfl rfl rfl slb_26 rfl rfl (by intro v hv; simp only [List.mem_cons, List.not_mem_nil, or_false] at hv; rcases hv with rfl | rfl <;> exact ⟨rfl, (plain_of rfl)⟩) (by decide) fun g1 => ?_)
 refine RX.cons rfl rfl (op_callV (v := .string (sum (mark 1 (joinB ([s, t]))))) rfl rfl rfl rfl rfl ent_85 (fun w hw => w_marked1 (mk := ByteArray.mk #[1]) ([s, t]) (hG.keep hw (by simp)) (Ent.rd (hw.ents _ (List.mem_of_getElem? (i := 0) rfl))) (Nat.le_refl _) (by simp) (by simp [joinL, size_list]; omega) (hw.cellOf (i := 1) rfl rfl) (by decide)) ?_)
 refine RX.cons rfl rfl (op_w (yw_assign rfl rfl) rfl rfl ?_)
 refine RX.nil (XX.next (V' := [(4, .string (sum (mark 1 (joinB ([s, t])))))]) ⟨rfl, trivial⟩ ?_)
 refine CX.ret ?_
 exact ret_tmp rfl rfl fun w1 hw => ⟨by simp only [leafH, nodeH, chainH, joinB_one, joinB_two], hw.sub (List.nil_sublist _)⟩

set_option maxRecDepth 100000 in
theorem w_chain {w : World} (s t : ByteArray) (hG : Rounds w) (hn : s.size + t.size ≤ 17592186044416) :
    Calls Tryz.prog 57 #[.string s, .string t] w (fun e w' => e = .returned (.string (chainH sum s t)) ∧ SL w [] w' []) := by
 refine calls_of_CX (O := []) (L := []) (args := [.string s, .string t]) Tryz.func57 rfl (by simp [Tryz.ntmps57]) (SL.refl w) ?_
 refine CX.sub (V' := [(0, .string s), (1, .string t)]) ⟨rfl, rfl, trivial⟩ ?_
 refine CX.seq ?_
 refine CX.region ?_
 refine RX.cons rfl rfl (op_w (yw_assign rfl rfl) rfl rfl ?_)
 refine RX.nil (XX.next (V' := [(0, _), (1, _)]) ⟨rfl, rfl, trivial⟩ ?_)
 refine CX.seq ?_
 refine CX.region ?_
 refine RX.cons rfl rfl (op_callE rfl rfl rfl rfl rfl ent_69 (fun w _ => w_marked ({ data := #[2] })) (fun zm _ => ?_))
 refine RX.cons rfl rfl (op_w (yw_move rfl rfl) rfl rfl ?_)
 refine RX.cons rfl rfl (op_w (yw_move rfl rfl) rfl rfl ?_)
 refine RX.cons rfl rfl (op_buildSlice rfl rfl rfl slb_26 rfl rfl (by intro v hv; simp only [List.mem_cons, List.not_mem_nil, or_false] at hv; rcases hv with rfl | rfl <;> exact ⟨rfl, (plain_of rfl)⟩) (by decide) fun g1 => ?_)
 refine RX.cons rfl rfl (op_callV (v := .string (sum (mark 2 (joinB ([s, t]))))) rfl rfl rfl rfl rfl ent_85 (fun w hw => w_marked1 (mk := ByteArray.mk #[2]) ([s, t]) (hG.keep hw (by simp)) (Ent.rd (hw.ents _ (List.mem_of_getElem? (i := 0) rfl))) (Nat.le_refl _) (by simp) (by simp [joinL, size_list]; omega) (hw.cellOf (i := 1) rfl rfl) (by decide)) ?_)
 refine RX.cons rfl rfl (op_w (yw_assign rfl rfl) rfl rfl ?_)
 refine RX.nil (XX.next (V' := [(4, .string (sum (mark 2 (joinB ([s, t])))))]) ⟨rfl, trivial⟩ ?_)
 refine CX.ret ?_
 exact ret_tmp rfl rfl fun w1 hw => ⟨by simp only [leafH, nodeH, chainH, joinB_one, joinB_two], hw.sub (List.nil_sublist _)⟩

end Go.Proofs.YtnadipjlhlbfoaaGreatDoor
namespace Go.Proofs.YtnadipjlhlbfoaaGreatDoor
set_option linter.all false
open Go Go.RowKit
def lenN (n : Nat) : Nat := if n = 0 then 0 else Nat.log2 n + 1
theorem lenN_shift {n : Nat} (k : Nat) (h : 2 ^ k ≤ n) : lenN n = lenN (n / 2 ^ k) + k := by
  have h0 : 0 < 2 ^ k := Nat.two_pow_pos k
  have h1 : 0 < n / 2 ^ k := Nat.div_pos h h0
  have h2 : n ≠ 0 := by omega
  unfold lenN
  rw [if_neg h2, if_neg (by omega)]
  have h3 := Nat.log2_self_le (n := n / 2 ^ k) (by omega)
  have h4 : n / 2 ^ k < 2 ^ (Nat.log2 (n / 2 ^ k) + 1) := Nat.lt_log2_self
  have : Nat.log2 n = Nat.log2 (n / 2 ^ k) + k := by
    rw [Nat.log2_eq_iff h2]
    constructor
    · rw [Nat.pow_add]
      exact Nat.le_trans (Nat.mul_le_mul_right _ h3) (Nat.div_mul_le_self n _)
    · rw [show Nat.log2 (n / 2 ^ k) + k + 1 = (Nat.log2 (n / 2 ^ k) + 1) + k from by omega, Nat.pow_add]
      exact (Nat.div_lt_iff_lt_mul h0).1 h4
  omega
theorem lenN_le {n k : Nat} (h : n < 2 ^ k) : lenN n ≤ k := by
  unfold lenN
  split
  · omega
  · have : Nat.log2 n < k := (Nat.log2_lt (by omega)).2 h
    omega
theorem u8_back {m : Nat} (h : m < 256) : wi (UInt8.toBitVec (UInt8.ofNat m)) = ((m : Nat) : Int) := by
  show (((UInt8.ofNat m).toNat : Nat) : Int) = _
  have : (UInt8.ofNat m).toNat = m := by
    rw [UInt8.toNat_ofNat']; omega
  rw [this]
theorem shr_toNat {n : Nat} (x : BitVec n) (k : Nat) : (x >>> k).toNat = x.toNat / 2 ^ k := by
  rw [BitVec.toNat_ushiftRight, Nat.shiftRight_eq_div_pow]
theorem lft_len {n : Nat} (h : 2 ≤ n) : lft n = 2 ^ (lenN (n - 1) - 1) := by
  unfold lft lenN
  rw [if_neg (by omega)]; rfl
theorem lenN_pos {n : Nat} (h : 1 ≤ n) : 1 ≤ lenN n := by unfold lenN; rw [if_neg (by omega)]; omega
theorem ofInt_toNat {z : Int} {n : Nat} (h : z = (n : Int)) (hn : n < 2 ^ 64) : (BitVec.ofInt 64 z).toNat = n := by
  subst h
  rw [BitVec.toNat_ofInt]
  omega
end Go.Proofs.YtnadipjlhlbfoaaGreatDoor
