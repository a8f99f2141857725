/- Walks, printed by a program. Walks, printed by a program. Walks, printed by a program. Walks, printed by a program. Walks, printed by a program. Walks, printed by a program. -/
import Derived.Test.YtnadipjlhlbfoaaGreatDoorK11
import Derived.Test.YtnadipjlhlbfoaaGreatDoorK6
namespace Go.Proofs.YtnadipjlhlbfoaaGreatDoor
set_option linter.all false
open Go Go.RowKit
set_option maxRecDepth 100000
theorem slb_125 : SlB Tryz.prog 125 106 1 4 (.int .u32 0) := ⟨Tryz.underlying125, ⟨(Tryz.prog.info? 106).get!, by kernel_rfl, by kernel_rfl, by kernel_rfl, by kernel_rfl⟩, by decide, by decide⟩
theorem ent_97 : ∀ args w, (callFunc 97 args).run Tryz.prog w = .ok (.enter 97 args) w := enters_of Tryz.func97 (by kernel_rfl) rfl
theorem ent_98 : ∀ args w, (callFunc 98 args).run Tryz.prog w = .ok (.enter 98 args) w := enters_of Tryz.func98 (by kernel_rfl) rfl
set_option maxRecDepth 100000 in
set_option maxHeartbeats 2000000 in
theorem w_constants {w : World} :
    Calls Tryz.prog 98 #[] w (fun e w' => ∃ g : Nat, True ∧ e = .returned (.slice (some ⟨g, 0, none⟩) roundsK.length 64) ∧ SL w [] w' [.row (some ⟨g, 0, none⟩) 64 106 1 (List.map wC roundsK)]) := by
 refine calls_of_CX (O := []) (L := []) (args := []) Tryz.func98 rfl (by simp [Tryz.ntmps98]) (SL.refl w) ?_
 refine CX.sub (V' := []) trivial ?_
 refine CX.seq ?_
 refine CX.region ?_
 refine RX.cons rfl rfl (op_w (yw_assign rfl rfl) rfl rfl ?_)
 refine RX.nil (XX.next (V' := []) trivial ?_)
 refine CX.seq ?_
 refine CX.region ?_
 refine RX.cons rfl rfl (op_buildSlice rfl rfl rfl slb_125 rfl rfl (by intro v hv; simp only [List.mem_cons, List.not_mem_nil, or_false] at hv; rcases hv with rfl | rfl | rfl | rfl | rfl | rfl | rfl | rfl | rfl | rfl | rfl | rfl | rfl | rfl | rfl | rfl | rfl | rfl | rfl | rfl | rfl | rfl | rfl | rfl | rfl | rfl | rfl | rfl | rfl | rfl | rfl | rfl | rfl | rfl | rfl | rfl | rfl | rfl | rfl | rfl | rfl | rfl | rfl | rfl | rfl | rfl | rfl | rfl | rfl | rfl | rfl | rfl | rfl | rfl | rfl | rfl | rfl | rfl | rfl | rfl | rfl | rfl | rfl | rfl <;> exact ⟨rfl, (plain_of rfl)⟩) (by decide) fun gk => ?_)
 refine RX.cons rfl rfl (op_w (yw_assign rfl rfl) rfl rfl ?_)
 refine RX.nil (XX.next (V' := [(0, .slice (some ⟨gk, 0, none⟩) 64 64)]) ⟨rfl, trivial⟩ ?_)
 refine CX.ret ?_
 exact ret_tmp rfl rfl fun w1 hw => ⟨gk, trivial, rfl, hw⟩

set_option maxRecDepth 100000 in
set_option maxHeartbeats 4000000 in
theorem w_block {w : World} {A B : Option Addr} {cap capB : Nat} (h : Oct) (bs : List UInt8) (hrh : Rd w B 1 (h.list.map wC)) (hr : Rd w A 1 (bs.map u8c)) (hbl : bs.length = 64) :
    Calls Tryz.prog 84 #[.slice B 8 capB, .slice A 64 cap] w (fun e w' => ∃ z : Option Addr × Nat, True ∧ e = .returned (.slice z.1 8 z.2) ∧ SL w [] w' [.row z.1 z.2 106 1 (List.map wC (Oct.list (Oct.block h bs)))]) := by
 refine calls_of_CX (O := []) (L := []) (args := [.slice B 8 capB, .slice A 64 cap]) Tryz.func84 rfl (by simp [Tryz.ntmps84]) (SL.refl w) ?_
 refine CX.sub (V' := [(0, .slice B 8 capB), (1, .slice A 64 cap)]) ⟨rfl, rfl, trivial⟩ ?_
 refine CX.seq ?_
 refine CX.region ?_
 refine RX.cons rfl rfl (op_w (yw_assign rfl rfl) rfl rfl ?_)
 refine RX.nil (XX.next (V' := [(0, _), (1, _)]) ⟨rfl, rfl, trivial⟩ ?_)
 refine CX.seq ?_
 refine CX.region ?_
 refine RX.cons rfl rfl (op_w (yw_assign rfl rfl) rfl rfl ?_)
 refine RX.nil (XX.next (V' := [(0, _), (1, _), (5, _)]) ⟨rfl, rfl, rfl, trivial⟩ ?_)
 refine CX.seq ?_
 refine CX.seq ?_
 refine CX.region ?_
 refine RX.cons rfl rfl (op_w (yw_assign rfl rfl) rfl rfl ?_)
 refine RX.nil (XX.next (V' := [(0, _), (1, _), (5, _), (6, _)]) ⟨rfl, rfl, rfl, rfl, trivial⟩ ?_)
 refine CX.block ?_
 have hA : ∃ b j, A = some ⟨b, j, none⟩ := hr.some (k := 0) (by simp; omega)
 refine CX.rowNil 106 1 ?_
 refine CX.loop (σ := Nat × (Option Addr × Nat) × List W) (fun z => [(0, .slice B 8 capB), (1, .slice A 64 cap), (5, .slice z.2.1.1 (List.length (z.2.2 : List W)) z.2.1.2), (6, .int .i64 ((z.1 : Nat) : Int))]) (fun z => [.row z.2.1.1 z.2.1.2 106 1 (List.map wC z.2.2)]) (fun z => z.1 ≤ 16 ∧ z.2.2 = firstW bs z.1) (fun z => 16 - z.1) (0, (none, 0), []) ⟨Nat.zero_le _, rfl⟩ ⟨rfl, rfl, rfl, rfl, trivial⟩ rfl (fun z hI => ?_)
 obtain ⟨i, ⟨A1, c1⟩, ws⟩ := z
 dsimp only at hI ⊢
 obtain ⟨hi, hws⟩ := hI
 have hwl : ws.length = i := by rw [hws, firstW_length]
 refine CX.seq ?_
 refine CX.seq ?_
 refine CX.region ?_
 refine RX.cons rfl rfl (op_w (yw_move rfl rfl) rfl rfl ?_)
 refine RX.cons rfl rfl (op_w (yw_lss rfl rfl rfl) rfl rfl ?_)
 refine RX.nil (XX.next (V' := [(0, _), (1, _), (5, _), (6, _), (20, _)]) ⟨rfl, rfl, rfl, rfl, rfl, trivial⟩ ?_)
 refine CX.condD (p := ((i : Nat) : Int) < 16) rfl (fun c20 => ?_) (fun c20 => ?_)
 ·obtain ⟨b0, hb0⟩ := get_some (l := bs) (k := 4 * i) (by omega)
  obtain ⟨b1, hb1⟩ := get_some (l := bs) (k := 4 * i + 1) (by omega)
  obtain ⟨b2, hb2⟩ := get_some (l := bs) (k := 4 * i + 2) (by omega)
  obtain ⟨b3, hb3⟩ := get_some (l := bs) (k := 4 * i + 3) (by omega)
  refine CX.skip (XX.next (V' := [(0, _), (1, _), (5, _), (6, _)]) ⟨rfl, rfl, rfl, rfl, trivial⟩ ?_)
  refine CX.seq ?_
  refine CX.block ?_
  refine CX.draw 35 [(0, 32, 8388608), (0, 2, 16777216), (0, 64, 33554432), (4, 33554432, 67108864), (10, 83886080, 134217728), (16, 134217728, 268435456), (32, 268435456, 536870912), (64, 536870912, 1073741824), (0, 2, 2147483648), (0, 64, 4294967296), (512, 4294967296, 8589934592), (1024, 8589934592, 17179869184), (2304, 19327352832, 34359738368), (4096, 34359738368, 68719476736), (8192, 68719476736, 137438953472), (16384, 137438953472, 274877906944), (32896, 275951648768, 549755813888), (0, 2, 1099511627776), (0, 64, 2199023255552), (262144, 2199023255552, 4398046511104), (524288, 4398046511104, 8796093022208), (1179648, 9895604649984, 17592186044416), (2097152, 17592186044416, 35184372088832), (4194304, 35184372088832, 70368744177664), (8388608, 70368744177664, 140737488355328), (16842752, 141287244169216, 281474976710656), (0, 2, 562949953421312), (0, 64, 1125899906842624), (134217728, 1125899906842624, 2251799813685248), (268435456, 2251799813685248, 4503599627370496), (603979776, 5066549580791808, 9007199254740992), (1073741824, 9007199254740992, 18014398509481984), (2147483648, 18014398509481984, 36028797018963968), (4328521728, 36310271995674624, 72057594037927936), (8589934592, 72057594037927936, 144115188075855872), (17179869185, 144115188084244480, 288230376151711744), (68719476735, 288230376151711744, 32)] (by kernel_rfl) (by kernel_rfl) (by kernel_rfl) ?_
  refine DX.takeW 0 1 (by kernel_rfl) rfl rfl rfl rfl rfl (yw_move rfl rfl) ?_
  refine DX.takeW 1 3 (by kernel_rfl) rfl rfl rfl rfl rfl (yw_move rfl rfl) ?_
  refine DX.takeW 2 7 (by kernel_rfl) rfl rfl rfl rfl rfl (yw_move rfl rfl) ?_
  refine DX.takeW 3 15 (by kernel_rfl) rfl rfl rfl rfl rfl (yw_mul rfl rfl rfl (by omega) (by omega)) ?_
  refine DX.takeW 4 31 (by kernel_rfl) rfl rfl rfl rfl rfl (yw_index (k := (4 * i)) rfl slt_54 rfl rfl (by omega) (by omega) hA) ?_
  refine DX.take 5 63 (by kernel_rfl) rfl rfl rfl rfl rfl (List.Sublist.refl _) (y_elem1 rfl rfl one_5 hr (by simp) (map_get hb0)) ?_
  refine DX.takeW 6 127 (by kernel_rfl) rfl rfl rfl rfl rfl (yw_bvConv (a := UInt8.toBitVec b0) UK.u32 rfl rfl Tryz.underlying5 Tryz.underlying106) ?_
  refine DX.takeW 7 255 (by kernel_rfl) rfl rfl rfl rfl rfl (yw_bvShl (a := BitVec.setWidth 32 (UInt8.toBitVec b0)) 24 UK.u32 rfl rfl rfl rfl) ?_
  refine DX.takeW 8 511 (by kernel_rfl) rfl rfl rfl rfl rfl (yw_move rfl rfl) ?_
  refine DX.takeW 9 1023 (by kernel_rfl) rfl rfl rfl rfl rfl (yw_move rfl rfl) ?_
  refine DX.takeW 10 2047 (by kernel_rfl) rfl rfl rfl rfl rfl (yw_mul rfl rfl rfl (by omega) (by omega)) ?_
  refine DX.takeW 11 4095 (by kernel_rfl) rfl rfl rfl rfl rfl (yw_add rfl rfl rfl (by omega) (by omega)) ?_
  refine DX.takeW 12 8191 (by kernel_rfl) rfl rfl rfl rfl rfl (yw_index (k := (4 * i + 1)) rfl slt_54 rfl rfl (by omega) (by omega) hA) ?_
  refine DX.take 13 16383 (by kernel_rfl) rfl rfl rfl rfl rfl (List.Sublist.refl _) (y_elem1 rfl rfl one_5 hr (by simp) (map_get hb1)) ?_
  refine DX.takeW 14 32767 (by kernel_rfl) rfl rfl rfl rfl rfl (yw_bvConv (a := UInt8.toBitVec b1) UK.u32 rfl rfl Tryz.underlying5 Tryz.underlying106) ?_
  refine DX.takeW 15 65535 (by kernel_rfl) rfl rfl rfl rfl rfl (yw_bvShl (a := BitVec.setWidth 32 (UInt8.toBitVec b1)) 16 UK.u32 rfl rfl rfl rfl) ?_
  refine DX.takeW 16 131071 (by kernel_rfl) rfl rfl rfl rfl rfl (yw_bvOr (a := (BitVec.setWidth 32 (UInt8.toBitVec b0)) <<< 24) (b := (BitVec.setWidth 32 (UInt8.toBitVec b1)) <<< 16) UK.u32 rfl rfl rfl) ?_
  refine DX.takeW 17 262143 (by kernel_rfl) rfl rfl rfl rfl rfl (yw_move rfl rfl) ?_
  refine DX.takeW 18 524287 (by kernel_rfl) rfl rfl rfl rfl rfl (yw_move rfl rfl) ?_
  refine DX.takeW 19 1048575 (by kernel_rfl) rfl rfl rfl rfl rfl (yw_mul rfl rfl rfl (by omega) (by omega)) ?_
  refine DX.takeW 20 2097151 (by kernel_rfl) rfl rfl rfl rfl rfl (yw_add rfl rfl rfl (by omega) (by omega)) ?_
  refine DX.takeW 21 4194303 (by kernel_rfl) rfl rfl rfl rfl rfl (yw_index (k := (4 * i + 2)) rfl slt_54 rfl rfl (by omega) (by omega) hA) ?_
  refine DX.take 22 8388607 (by kernel_rfl) rfl rfl rfl rfl rfl (List.Sublist.refl _) (y_elem1 rfl rfl one_5 hr (by simp) (map_get hb2)) ?_
  refine DX.takeW 23 16777215 (by kernel_rfl) rfl rfl rfl rfl rfl (yw_bvConv (a := UInt8.toBitVec b2) UK.u32 rfl rfl Tryz.underlying5 Tryz.underlying106) ?_
  refine DX.takeW 24 33554431 (by kernel_rfl) rfl rfl rfl rfl rfl (yw_bvShl (a := BitVec.setWidth 32 (UInt8.toBitVec b2)) 8 UK.u32 rfl rfl rfl rfl) ?_
  refine DX.takeW 25 67108863 (by kernel_rfl) rfl rfl rfl rfl rfl (yw_bvOr (a := ((BitVec.setWidth 32 (UInt8.toBitVec b0)) <<< 24) ||| ((BitVec.setWidth 32 (UInt8.toBitVec b1)) <<< 16)) (b := (BitVec.setWidth 32 (UInt8.toBitVec b2)) <<< 8) UK.u32 rfl rfl rfl) ?_
  refine DX.takeW 26 134217727 (by kernel_rfl) rfl rfl rfl rfl rfl (yw_move rfl rfl) ?_
  refine DX.takeW 27 268435455 (by kernel_rfl) rfl rfl rfl rfl rfl (yw_move rfl rfl) ?_
  refine DX.takeW 28 536870911 (by kernel_rfl) rfl rfl rfl rfl rfl (yw_mul rfl rfl rfl (by omega) (by omega)) ?_
  refine DX.takeW 29 1073741823 (by kernel_rfl) rfl rfl rfl rfl rfl (yw_add rfl rfl rfl (by omega) (by omega)) ?_
  refine DX.takeW 30 2147483647 (by kernel_rfl) rfl rfl rfl rfl rfl (yw_index (k := (4 * i + 3)) rfl slt_54 rfl rfl (by omega) (by omega) hA) ?_
  refine DX.take 31 4294967295 (by kernel_rfl) rfl rfl rfl rfl rfl (List.Sublist.refl _) (y_elem1 rfl rfl one_5 hr (by simp) (map_get hb3)) ?_
  refine DX.takeW 32 8589934591 (by kernel_rfl) rfl rfl rfl rfl rfl (yw_bvConv (a := UInt8.toBitVec b3) UK.u32 rfl rfl Tryz.underlying5 Tryz.underlying106) ?_
  refine DX.takeW 33 17179869183 (by kernel_rfl) rfl rfl rfl rfl rfl (yw_bvOr (a := (((BitVec.setWidth 32 (UInt8.toBitVec b0)) <<< 24) ||| ((BitVec.setWidth 32 (UInt8.toBitVec b1)) <<< 16)) ||| ((BitVec.setWidth 32 (UInt8.toBitVec b2)) <<< 8)) (b := BitVec.setWidth 32 (UInt8.toBitVec b3)) UK.u32 rfl rfl rfl) ?_
  refine DX.step 34 34359738367 (by kernel_rfl) rfl rfl rfl (op_buildSlice rfl rfl rfl slb_125 rfl rfl (by intro v hv; simp only [List.mem_cons, List.not_mem_nil, or_false] at hv; subst hv; exact ⟨rfl, (plain_of rfl)⟩) (by decide) fun g9 => (DXs.mk (List.Sublist.cons _ (List.Sublist.refl _)) ?_))
  refine DX.stepT 35 68719476735 (by kernel_rfl) rfl rfl rfl rfl (op_appendM wC (i := 1) (j := 0) (xs := ws) ([(((BitVec.setWidth 32 b0.toBitVec <<< 24 ||| BitVec.setWidth 32 b1.toBitVec <<< 16) ||| BitVec.setWidth 32 b2.toBitVec <<< 8) ||| BitVec.setWidth 32 b3.toBitVec)]) rfl rfl rfl slb_125 rfl rfl rfl rfl rfl rfl (by simp only [List.length_singleton]; omega) (by simp only [List.length_singleton]; omega) fun A2 c2 => ?_)
  refine DX.takeW 36 137438953471 (by kernel_rfl) rfl rfl rfl rfl rfl (yw_assign rfl rfl) ?_
  refine DX.done (by kernel_rfl) (XX.inBlock (V' := [(0, _), (1, _), (5, _), (6, _)]) ⟨rfl, rfl, rfl, rfl, trivial⟩ ?_)
  refine XX.next (V' := [(0, _), (1, _), (5, _), (6, _)]) ⟨rfl, rfl, rfl, rfl, trivial⟩ ?_
  refine CX.region ?_
  refine RX.cons rfl rfl (op_w (yw_move rfl rfl) rfl rfl ?_)
  refine RX.cons rfl rfl (op_w (yw_add rfl rfl rfl (by omega) (by omega)) rfl rfl ?_)
  refine RX.cons rfl rfl (op_w (yw_assign rfl rfl) rfl rfl ?_)
  refine RX.nil (XX.againP ([.row (some ⟨g9, 0, none⟩) 1 106 1 (List.map wC ([(((BitVec.setWidth 32 b0.toBitVec <<< 24 ||| BitVec.setWidth 32 b1.toBitVec <<< 16) ||| BitVec.setWidth 32 b2.toBitVec <<< 8) ||| BitVec.setWidth 32 b3.toBitVec)]))]) (i + 1, (A2, c2), ws ++ [(((BitVec.setWidth 32 b0.toBitVec <<< 24 ||| BitVec.setWidth 32 b1.toBitVec <<< 16) ||| BitVec.setWidth 32 b2.toBitVec <<< 8) ||| BitVec.setWidth 32 b3.toBitVec)]) (by dsimp only; omega) ⟨by dsimp only; omega, by dsimp only; rw [hws, firstW_succ, wordAt_eq hb0 hb1 hb2 hb3]⟩ ⟨rfl, rfl, rfl, rfl, trivial⟩ ((perm_pick 1 rfl).trans (List.Perm.cons _ (List.Perm.refl _))))
 ·refine CX.exit ?_
  refine XX.then_exit ?_
  refine XX.then_exit ?_
  refine XX.block_exit ?_
  refine XX.next (V' := [(0, _), (5, _)]) ⟨rfl, rfl, trivial⟩ ?_
  refine CX.seq ?_
  refine CX.seq ?_
  refine CX.region ?_
  refine RX.cons rfl rfl (op_w (yw_assign rfl rfl) rfl rfl ?_)
  refine RX.nil (XX.next (V' := [(0, _), (5, _), (7, _)]) ⟨rfl, rfl, rfl, trivial⟩ ?_)
  refine CX.block ?_
  refine CX.loop (σ := Nat × (Option Addr × Nat) × List W) (fun z => [(0, .slice B 8 capB), (5, .slice z.2.1.1 (List.length (z.2.2 : List W)) z.2.1.2), (7, .int .i64 ((z.1 : Nat) : Int))]) (fun z => [.row z.2.1.1 z.2.1.2 106 1 (List.map wC z.2.2)]) (fun z => 16 ≤ z.1 ∧ z.1 ≤ 64 ∧ z.2.2 = moreW (firstW bs 16) (z.1 - 16)) (fun z => 64 - z.1) (16, (A1, c1), ws) ⟨Nat.le_refl _, by dsimp only; omega, by rw [hws, show i = 16 from by omega]; rfl⟩ ⟨rfl, rfl, rfl, trivial⟩ rfl (fun z hI => ?_)
  obtain ⟨j, ⟨A3, c3⟩, vs⟩ := z
  dsimp only at hI ⊢
  obtain ⟨hj, hj2, hvs⟩ := hI
  have hvl : vs.length = j := by rw [hvs, moreW_length, firstW_length]; omega
  refine CX.seq ?_
  refine CX.seq ?_
  refine CX.region ?_
  refine RX.cons rfl rfl (op_w (yw_move rfl rfl) rfl rfl ?_)
  refine RX.cons rfl rfl (op_w (yw_lss rfl rfl rfl) rfl rfl ?_)
  refine RX.nil (XX.next (V' := [(0, _), (5, _), (7, _), (60, _)]) ⟨rfl, rfl, rfl, rfl, trivial⟩ ?_)
  refine CX.condD (p := ((j : Nat) : Int) < 64) rfl (fun c60 => ?_) (fun c60 => ?_)
  ·obtain ⟨x, hx⟩ := get_some (l := vs) (k := j - 15) (by omega)
   obtain ⟨y, hy⟩ := get_some (l := vs) (k := j - 2) (by omega)
   obtain ⟨a, ha⟩ := get_some (l := vs) (k := j - 16) (by omega)
   obtain ⟨b, hb⟩ := get_some (l := vs) (k := j - 7) (by omega)
   refine CX.rowSome 0 rfl (by rw [List.length_map]; omega) (fun hAw => ?_)
   refine CX.skip (XX.next (V' := [(0, _), (5, _), (7, _)]) ⟨rfl, rfl, rfl, trivial⟩ ?_)
   refine CX.seq ?_
   refine CX.block ?_
   refine CX.seq ?_
   refine CX.draw 21 [(0, 32, 9223372036854775808), (0, 128, 18446744073709551616), (2, 18446744073709551616, 36893488147419103232), (5, 46116860184273879040, 73786976294838206464), (8, 73786976294838206464, 147573952589676412928), (16, 147573952589676412928, 295147905179352825856), (0, 32, 590295810358705651712), (0, 128, 1180591620717411303424), (128, 1180591620717411303424, 2361183241434822606848), (320, 2951479051793528258560, 4722366482869645213696), (512, 4722366482869645213696, 9444732965739290427392), (1056, 9444732965739290427392, 18889465931478580854784), (2080, 19184613836657933680640, 37778931862957161709568), (0, 32, 75557863725914323419136), (0, 128, 151115727451828646838272), (16384, 151115727451828646838272, 302231454903657293676544), (40960, 377789318629571617095680, 604462909807314587353088), (65536, 604462909807314587353088, 1208925819614629174706176), (131072, 1208925819614629174706176, 2417851639229258349412352), (266240, 2455630571092215511121920, 4835703278458516698824704), (1048575, 4835703278458516698824704, 256)] (by kernel_rfl) (by kernel_rfl) (by kernel_rfl) ?_
   refine DX.takeW 0 1 (by kernel_rfl) rfl rfl rfl rfl rfl (yw_move rfl rfl) ?_
   refine DX.takeW 1 3 (by kernel_rfl) rfl rfl rfl rfl rfl (yw_move rfl rfl) ?_
   refine DX.takeW 2 7 (by kernel_rfl) rfl rfl rfl rfl rfl (yw_sub rfl rfl rfl (by omega) (by omega)) ?_
   refine DX.takeW 3 15 (by kernel_rfl) rfl rfl rfl rfl rfl (yw_index (k := (j - 15)) rfl slt_125 rfl rfl (by omega) (by omega) hAw) ?_
   refine DX.take 4 31 (by kernel_rfl) rfl rfl rfl rfl rfl (List.Sublist.refl _) (y_rowElem1 (i := 0) rfl rfl one_106 rfl (map_get hx)) ?_
   refine DX.takeW 6 95 (by kernel_rfl) rfl rfl rfl rfl rfl (yw_move rfl rfl) ?_
   refine DX.takeW 7 223 (by kernel_rfl) rfl rfl rfl rfl rfl (yw_move rfl rfl) ?_
   refine DX.takeW 8 479 (by kernel_rfl) rfl rfl rfl rfl rfl (yw_sub rfl rfl rfl (by omega) (by omega)) ?_
   refine DX.takeW 9 991 (by kernel_rfl) rfl rfl rfl rfl rfl (yw_index (k := (j - 15)) rfl slt_125 rfl rfl (by omega) (by omega) hAw) ?_
   refine DX.take 10 2015 (by kernel_rfl) rfl rfl rfl rfl rfl (List.Sublist.refl _) (y_rowElem1 (i := 0) rfl rfl one_106 rfl (map_get hx)) ?_
   refine DX.takeW 13 10207 (by kernel_rfl) rfl rfl rfl rfl rfl (yw_move rfl rfl) ?_
   refine DX.takeW 14 26591 (by kernel_rfl) rfl rfl rfl rfl rfl (yw_move rfl rfl) ?_
   refine DX.takeW 15 59359 (by kernel_rfl) rfl rfl rfl rfl rfl (yw_sub rfl rfl rfl (by omega) (by omega)) ?_
   refine DX.takeW 16 124895 (by kernel_rfl) rfl rfl rfl rfl rfl (yw_index (k := (j - 15)) rfl slt_125 rfl rfl (by omega) (by omega) hAw) ?_
   refine DX.take 17 255967 (by kernel_rfl) rfl rfl rfl rfl rfl (List.Sublist.refl _) (y_rowElem1 (i := 0) rfl rfl one_106 rfl (map_get hx)) ?_
   refine DX.takeW 18 518111 (by kernel_rfl) rfl rfl rfl rfl rfl (yw_bvShr (a := x) 3 UK.u32 rfl rfl rfl rfl) ?_
   refine DX.step 5 518143 (by kernel_rfl) rfl rfl rfl (op_callV (v := .int .u32 (wi (rotK x (-7)))) rfl rfl rfl rfl rfl ent_97 (fun w hw => w_rotated x 7 (by decide) (by decide)) (DXs.mk (List.Sublist.refl _) ?_))
   refine DX.step 11 520191 (by kernel_rfl) rfl rfl rfl (op_callV (v := .int .u32 (wi (rotK x (-18)))) rfl rfl rfl rfl rfl ent_97 (fun w hw => w_rotated x 18 (by decide) (by decide)) (DXs.mk (List.Sublist.refl _) ?_))
   refine DX.takeW 12 524287 (by kernel_rfl) rfl rfl rfl rfl rfl (yw_bvXor (a := rotK x (-7)) (b := rotK x (-18)) UK.u32 rfl rfl rfl) ?_
   refine DX.takeW 19 1048575 (by kernel_rfl) rfl rfl rfl rfl rfl (yw_bvXor (a := (rotK x (-7)) ^^^ (rotK x (-18))) (b := x >>> 3) UK.u32 rfl rfl rfl) ?_
   refine DX.takeW 20 2097151 (by kernel_rfl) rfl rfl rfl rfl rfl (yw_assign rfl rfl) ?_
   refine DX.done (by kernel_rfl) (XX.next (V' := [(0, _), (5, _), (7, _), (8, _)]) ⟨rfl, rfl, rfl, rfl, trivial⟩ ?_)
   refine CX.seq ?_
   refine CX.draw 21 [(0, 32, 9671406556917033397649408), (0, 128, 19342813113834066795298816), (2, 19342813113834066795298816, 38685626227668133590597632), (5, 48357032784585166988247040, 77371252455336267181195264), (8, 77371252455336267181195264, 154742504910672534362390528), (16, 154742504910672534362390528, 309485009821345068724781056), (0, 32, 618970019642690137449562112), (0, 128, 1237940039285380274899124224), (128, 1237940039285380274899124224, 2475880078570760549798248448), (320, 3094850098213450687247810560, 4951760157141521099596496896), (512, 4951760157141521099596496896, 9903520314283042199192993792), (1056, 9903520314283042199192993792, 19807040628566084398385987584), (2080, 20116525638387429467110768640, 39614081257132168796771975168), (0, 32, 79228162514264337593543950336), (0, 128, 158456325028528675187087900672), (16384, 158456325028528675187087900672, 316912650057057350374175801344), (40960, 396140812571321687967719751680, 633825300114114700748351602688), (65536, 633825300114114700748351602688, 1267650600228229401496703205376), (131072, 1267650600228229401496703205376, 2535301200456458802993406410752), (266240, 2574915281713590971790178385920, 5070602400912917605986812821504), (1048575, 5070602400912917605986812821504, 512)] (by kernel_rfl) (by kernel_rfl) (by kernel_rfl) ?_
   refine DX.takeW 0 1 (by kernel_rfl) rfl rfl rfl rfl rfl (yw_move rfl rfl) ?_
   refine DX.takeW 1 3 (by kernel_rfl) rfl rfl rfl rfl rfl (yw_move rfl rfl) ?_
   refine DX.takeW 2 7 (by kernel_rfl) rfl rfl rfl rfl rfl (yw_sub rfl rfl rfl (by omega) (by omega)) ?_
   refine DX.takeW 3 15 (by kernel_rfl) rfl rfl rfl rfl rfl (yw_index (k := (j - 2)) rfl slt_125 rfl rfl (by omega) (by omega) hAw) ?_
   refine DX.take 4 31 (by kernel_rfl) rfl rfl rfl rfl rfl (List.Sublist.refl _) (y_rowElem1 (i := 0) rfl rfl one_106 rfl (map_get hy)) ?_
   refine DX.takeW 6 95 (by kernel_rfl) rfl rfl rfl rfl rfl (yw_move rfl rfl) ?_
   refine DX.takeW 7 223 (by kernel_rfl) rfl rfl rfl rfl rfl (yw_move rfl rfl) ?_
   refine DX.takeW 8 479 (by kernel_rfl) rfl rfl rfl rfl rfl (yw_sub rfl rfl rfl (by omega) (by omega)) ?_
   refine DX.takeW 9 991 (by kernel_rfl) rfl rfl rfl rfl rfl (yw_index (k := (j - 2)) rfl slt_125 rfl rfl (by omega) (by omega) hAw) ?_
   refine DX.take 10 2015 (by kernel_rfl) rfl rfl rfl rfl rfl (List.Sublist.refl _) (y_rowElem1 (i := 0) rfl rfl one_106 rfl (map_get hy)) ?_
   refine DX.takeW 13 10207 (by kernel_rfl) rfl rfl rfl rfl rfl (yw_move rfl rfl) ?_
   refine DX.takeW 14 26591 (by kernel_rfl) rfl rfl rfl rfl rfl (yw_move rfl rfl) ?_
   refine DX.takeW 15 59359 (by kernel_rfl) rfl rfl rfl rfl rfl (yw_sub rfl rfl rfl (by omega) (by omega)) ?_
   refine DX.takeW 16 124895 (by kernel_rfl) rfl rfl rfl rfl rfl (yw_index (k := (j - 2)) rfl slt_125 rfl rfl (by omega) (by omega) hAw) ?_
   refine DX.take 17 255967 (by kernel_rfl) rfl rfl rfl rfl rfl (List.Sublist.refl _) (y_rowElem1 (i := 0) rfl rfl one_106 rfl (map_get hy)) ?_
   refine DX.takeW 18 518111 (by kernel_rfl) rfl rfl rfl rfl rfl (yw_bvShr (a := y) 10 UK.u32 rfl rfl rfl rfl) ?_
   refine DX.step 5 518143 (by kernel_rfl) rfl rfl rfl (op_callV (v := .int .u32 (wi (rotK y (-17)))) rfl rfl rfl rfl rfl ent_97 (fun w hw => w_rotated y 17 (by decide) (by decide)) (DXs.mk (List.Sublist.refl _) ?_))
   refine DX.step 11 520191 (by kernel_rfl) rfl rfl rfl (op_callV (v := .int .u32 (wi (rotK y (-19)))) rfl rfl rfl rfl rfl ent_97 (fun w hw => w_rotated y 19 (by decide) (by decide)) (DXs.mk (List.Sublist.refl _) ?_))
   refine DX.takeW 12 524287 (by kernel_rfl) rfl rfl rfl rfl rfl (yw_bvXor (a := rotK y (-17)) (b := rotK y (-19)) UK.u32 rfl rfl rfl) ?_
   refine DX.takeW 19 1048575 (by kernel_rfl) rfl rfl rfl rfl rfl (yw_bvXor (a := (rotK y (-17)) ^^^ (rotK y (-19))) (b := y >>> 10) UK.u32 rfl rfl rfl) ?_
   refine DX.takeW 20 2097151 (by kernel_rfl) rfl rfl rfl rfl rfl (yw_assign rfl rfl) ?_
   refine DX.done (by kernel_rfl) (XX.next (V' := [(0, _), (5, _), (7, _), (8, _), (9, _)]) ⟨rfl, rfl, rfl, rfl, rfl, trivial⟩ ?_)
   refine CX.draw 17 [(0, 32, 10141204801825835211973625643008), (0, 32, 20282409603651670423947251286016), (0, 128, 40564819207303340847894502572032), (4, 40564819207303340847894502572032, 81129638414606681695789005144064), (10, 101412048018258352119736256430080, 162259276829213363391578010288128), (16, 162259276829213363391578010288128, 324518553658426726783156020576256), (0, 256, 649037107316853453566312041152512), (96, 973555660975280180349468061728768, 1298074214633706907132624082305024), (0, 32, 2596148429267413814265248164610048), (0, 128, 5192296858534827628530496329220096), (512, 5192296858534827628530496329220096, 10384593717069655257060992658440192), (1280, 12980742146337069071326240823050240, 20769187434139310514121985316880384), (2048, 20769187434139310514121985316880384, 41538374868278621028243970633760768), (4224, 42836449082912327935376594716065792, 83076749736557242056487941267521536), (0, 512, 166153499473114484112975882535043072), (24576, 249230249209671726169463823802564608, 332306998946228968225951765070086144), (32768, 332306998946228968225951765070086144, 664613997892457936451903530140172288), (65537, 664624139097259762287115503765815296, 1329227995784915872903807060280344576), (262143, 1329227995784915872903807060280344576, 32)] (by kernel_rfl) (by kernel_rfl) (by kernel_rfl) ?_
   refine DX.takeW 0 1 (by kernel_rfl) rfl rfl rfl rfl rfl (yw_move rfl rfl) ?_
   refine DX.takeW 1 3 (by kernel_rfl) rfl rfl rfl rfl rfl (yw_move rfl rfl) ?_
   refine DX.takeW 2 7 (by kernel_rfl) rfl rfl rfl rfl rfl (yw_move rfl rfl) ?_
   refine DX.takeW 3 15 (by kernel_rfl) rfl rfl rfl rfl rfl (yw_sub rfl rfl rfl (by omega) (by omega)) ?_
   refine DX.takeW 4 31 (by kernel_rfl) rfl rfl rfl rfl rfl (yw_index (k := (j - 16)) rfl slt_125 rfl rfl (by omega) (by omega) hAw) ?_
   refine DX.take 5 63 (by kernel_rfl) rfl rfl rfl rfl rfl (List.Sublist.refl _) (y_rowElem1 (i := 0) rfl rfl one_106 rfl (map_get ha)) ?_
   refine DX.takeW 6 127 (by kernel_rfl) rfl rfl rfl rfl rfl (yw_move rfl rfl) ?_
   refine DX.takeW 7 255 (by kernel_rfl) rfl rfl rfl rfl rfl (yw_bvAdd (a := a) (b := ((rotK x (-7)) ^^^ (rotK x (-18))) ^^^ (x >>> 3)) UK.u32 rfl rfl rfl) ?_
   refine DX.takeW 8 511 (by kernel_rfl) rfl rfl rfl rfl rfl (yw_move rfl rfl) ?_
   refine DX.takeW 9 1023 (by kernel_rfl) rfl rfl rfl rfl rfl (yw_move rfl rfl) ?_
   refine DX.takeW 10 2047 (by kernel_rfl) rfl rfl rfl rfl rfl (yw_sub rfl rfl rfl (by omega) (by omega)) ?_
   refine DX.takeW 11 4095 (by kernel_rfl) rfl rfl rfl rfl rfl (yw_index (k := (j - 7)) rfl slt_125 rfl rfl (by omega) (by omega) hAw) ?_
   refine DX.take 12 8191 (by kernel_rfl) rfl rfl rfl rfl rfl (List.Sublist.refl _) (y_rowElem1 (i := 0) rfl rfl one_106 rfl (map_get hb)) ?_
   refine DX.takeW 13 16383 (by kernel_rfl) rfl rfl rfl rfl rfl (yw_bvAdd (a := a + (((rotK x (-7)) ^^^ (rotK x (-18))) ^^^ (x >>> 3))) (b := b) UK.u32 rfl rfl rfl) ?_
   refine DX.takeW 14 32767 (by kernel_rfl) rfl rfl rfl rfl rfl (yw_move rfl rfl) ?_
   refine DX.takeW 15 65535 (by kernel_rfl) rfl rfl rfl rfl rfl (yw_bvAdd (a := (a + (((rotK x (-7)) ^^^ (rotK x (-18))) ^^^ (x >>> 3))) + b) (b := ((rotK y (-17)) ^^^ (rotK y (-19))) ^^^ (y >>> 10)) UK.u32 rfl rfl rfl) ?_
   refine DX.step 16 131071 (by kernel_rfl) rfl rfl rfl (op_buildSlice rfl rfl rfl slb_125 rfl rfl (by intro v hv; simp only [List.mem_cons, List.not_mem_nil, or_false] at hv; subst hv; exact ⟨rfl, (plain_of rfl)⟩) (by decide) fun g9 => (DXs.mk (List.Sublist.cons _ (List.Sublist.refl _)) ?_))
   refine DX.stepT 17 262143 (by kernel_rfl) rfl rfl rfl rfl (op_appendM wC (i := 1) (j := 0) (xs := vs) ([((a + ((rotK x (-7) ^^^ rotK x (-18)) ^^^ x >>> 3)) + b) + ((rotK y (-17) ^^^ rotK y (-19)) ^^^ y >>> 10)]) rfl rfl rfl slb_125 rfl rfl rfl rfl rfl rfl (by simp only [List.length_singleton]; omega) (by simp only [List.length_singleton]; omega) fun A4 c4 => ?_)
   refine DX.takeW 18 524287 (by kernel_rfl) rfl rfl rfl rfl rfl (yw_assign rfl rfl) ?_
   refine DX.done (by kernel_rfl) (XX.inBlock (V' := [(0, _), (5, _), (7, _)]) ⟨rfl, rfl, rfl, trivial⟩ ?_)
   refine XX.next (V' := [(0, _), (5, _), (7, _)]) ⟨rfl, rfl, rfl, trivial⟩ ?_
   refine CX.region ?_
   refine RX.cons rfl rfl (op_w (yw_move rfl rfl) rfl rfl ?_)
   refine RX.cons rfl rfl (op_w (yw_add rfl rfl rfl (by omega) (by omega)) rfl rfl ?_)
   refine RX.cons rfl rfl (op_w (yw_assign rfl rfl) rfl rfl ?_)
   refine RX.nil (XX.againP ([.row (some ⟨g9, 0, none⟩) 1 106 1 (List.map wC ([((a + ((rotK x (-7) ^^^ rotK x (-18)) ^^^ x >>> 3)) + b) + ((rotK y (-17) ^^^ rotK y (-19)) ^^^ y >>> 10)]))]) (j + 1, (A4, c4), vs ++ [((a + ((rotK x (-7) ^^^ rotK x (-18)) ^^^ x >>> 3)) + b) + ((rotK y (-17) ^^^ rotK y (-19)) ^^^ y >>> 10)]) (by dsimp only; omega) ⟨by dsimp only; omega, by dsimp only; omega, by dsimp only; rw [← nextW_here hx hy ha hb]; exact more_next hj hvs⟩ ⟨rfl, rfl, rfl, trivial⟩ ((perm_pick 1 rfl).trans (List.Perm.cons _ (List.Perm.refl _))))
  ·have hvs' : vs = schedW bs := by rw [hvs, show j = 64 from by omega]; rfl
   refine CX.exit ?_
   refine XX.then_exit ?_
   refine XX.then_exit ?_
   refine XX.block_exit ?_
   refine XX.next (V' := [(0, _), (5, _)]) ⟨rfl, rfl, trivial⟩ ?_
   refine CX.seq ?_
   refine CX.region ?_
   refine RX.cons rfl rfl (op_callE rfl rfl rfl rfl rfl ent_98 (fun w hw => w_constants) (fun zk _ => ?_))
   refine RX.cons rfl rfl (op_w (yw_assign rfl rfl) rfl rfl ?_)
   refine RX.nil (XX.next (V' := [(0, _), (5, _), (10, _)]) ⟨rfl, rfl, rfl, trivial⟩ ?_)
   refine CX.seq ?_
   refine CX.region ?_
   refine RX.cons rfl rfl (op_w (yw_assign rfl rfl) rfl rfl ?_)
   refine RX.nil (XX.next (V' := [(0, _), (5, _), (10, _), (11, _)]) ⟨rfl, rfl, rfl, rfl, trivial⟩ ?_)
   refine CX.seq ?_
   refine CX.rowNil 106 1 ?_
   refine CX.region ?_
   refine RX.cons rfl rfl (op_w (yw_move rfl rfl) rfl rfl ?_)
   refine RX.cons rfl rfl (op_w (yw_move rfl rfl) rfl rfl ?_)
   refine RX.cons rfl rfl (op_appendM0 wC (i := 0) (xs := []) (Oct.list h) rfl rfl rfl slb_125 rfl rfl rfl rfl hrh (by simp) (Nat.le_of_ble_eq_true rfl) (Nat.le_of_ble_eq_true rfl) fun A5 c5 => ?_)
   refine RX.cons rfl rfl (op_w (yw_assign rfl rfl) rfl rfl ?_)
   refine RX.nil (XX.next (V' := [(0, _), (5, _), (10, _), (11, _)]) ⟨rfl, rfl, rfl, rfl, trivial⟩ ?_)
   refine CX.seq ?_
   refine CX.seq ?_
   refine CX.region ?_
   refine RX.cons rfl rfl (op_w (yw_assign rfl rfl) rfl rfl ?_)
   refine RX.nil (XX.next (V' := [(0, _), (5, _), (10, _), (11, _), (12, _)]) ⟨rfl, rfl, rfl, rfl, rfl, trivial⟩ ?_)
   refine CX.block ?_
   refine CX.loop (σ := Nat × (Option Addr × Nat) × Oct) (fun z => [(0, .slice B 8 capB), (5, .slice A3 (List.length (vs : List W)) c3), (10, .slice (some ⟨zk, 0, none⟩) (List.length (roundsK : List W)) 64), (11, .slice z.2.1.1 (List.length ((Oct.list z.2.2) : List W)) z.2.1.2), (12, .int .i64 ((z.1 : Nat) : Int))]) (fun z => [.row z.2.1.1 z.2.1.2 106 1 (List.map wC (Oct.list z.2.2)), .row (some ⟨zk, 0, none⟩) 64 106 1 (List.map wC roundsK), .row A3 c3 106 1 (List.map wC vs)]) (fun z => z.1 ≤ 64 ∧ z.2.2 = h.rounds ((roundsK.zip (schedW bs)).take z.1)) (fun z => 64 - z.1) (0, (A5, c5), h) ⟨Nat.zero_le _, rfl⟩ ⟨rfl, rfl, rfl, rfl, rfl, trivial⟩ rfl (fun z hI => ?_)
   obtain ⟨q, ⟨A6, c6⟩, v⟩ := z
   dsimp only at hI ⊢
   obtain ⟨hq, hv⟩ := hI
   refine CX.seq ?_
   refine CX.seq ?_
   refine CX.region ?_
   refine RX.cons rfl rfl (op_w (yw_move rfl rfl) rfl rfl ?_)
   refine RX.cons rfl rfl (op_w (yw_lss rfl rfl rfl) rfl rfl ?_)
   refine RX.nil (XX.next (V' := [(0, _), (5, _), (10, _), (11, _), (12, _), (126, _)]) ⟨rfl, rfl, rfl, rfl, rfl, rfl, trivial⟩ ?_)
   refine CX.condD (p := ((q : Nat) : Int) < 64) rfl (fun c126 => ?_) (fun c126 => ?_)
   ·obtain ⟨k0, hk0⟩ := get_some (l := roundsK) (k := q) (by show q < 64; omega)
    obtain ⟨s0, hs0⟩ := get_some (l := schedW bs) (k := q) (by rw [sched_length]; omega)
    have hs0' : vs[q]? = some s0 := by rw [hvs']; exact hs0
    refine CX.rowSome 0 rfl (Nat.le_of_ble_eq_true rfl) (fun hAv => ?_)
    refine CX.rowSome 2 rfl (by rw [List.length_map]; omega) (fun hAw => ?_)
    refine CX.skip (XX.next (V' := [(0, _), (5, _), (10, _), (11, _), (12, _)]) ⟨rfl, rfl, rfl, rfl, rfl, trivial⟩ ?_)
    refine CX.seq ?_
    refine CX.block ?_
    refine CX.seq ?_
    refine CX.region ?_
    refine RX.cons rfl rfl (op_w (yw_move rfl rfl) rfl rfl ?_)
    refine RX.cons rfl rfl (op_w (yw_index (k := 0) rfl slt_125 rfl rfl rfl (Nat.le_of_ble_eq_true rfl) hAv) rfl rfl ?_)
    refine RX.cons rfl rfl (op_yld (y_rowElem1 (i := 0) rfl rfl one_106 rfl rfl) rfl rfl ?_)
    refine RX.cons rfl rfl (op_w (yw_assign rfl rfl) rfl rfl ?_)
    refine RX.nil (XX.next (V' := [(0, _), (5, _), (10, _), (11, _), (12, _), (13, _)]) ⟨rfl, rfl, rfl, rfl, rfl, rfl, trivial⟩ ?_)
    refine CX.seq ?_
    refine CX.region ?_
    refine RX.cons rfl rfl (op_w (yw_move rfl rfl) rfl rfl ?_)
    refine RX.cons rfl rfl (op_w (yw_index (k := 4) rfl slt_125 rfl rfl rfl (Nat.le_of_ble_eq_true rfl) hAv) rfl rfl ?_)
    refine RX.cons rfl rfl (op_yld (y_rowElem1 (i := 0) rfl rfl one_106 rfl rfl) rfl rfl ?_)
    refine RX.cons rfl rfl (op_w (yw_assign rfl rfl) rfl rfl ?_)
    refine RX.nil (XX.next (V' := [(0, _), (5, _), (10, _), (11, _), (12, _), (13, _), (14, _)]) ⟨rfl, rfl, rfl, rfl, rfl, rfl, rfl, trivial⟩ ?_)
    refine CX.seq ?_
    refine CX.draw 36 [(0, 2048, 43556142965880123323311949751266331066368), (1, 43556142965880123323311949751266331066368, 87112285931760246646623899502532662132736), (2, 87112285931760246646623899502532662132736, 174224571863520493293247799005065324265472), (0, 16384, 348449143727040986586495598010130648530944), (8, 348449143727040986586495598010130648530944, 696898287454081973172991196020261297061888), (0, 16384, 1393796574908163946345982392040522594123776), (48, 1393796574908163946345982392040522594123776, 2787593149816327892691964784081045188247552), (80, 3484491437270409865864955980101306485309440, 5575186299632655785383929568162090376495104), (0, 16384, 11150372599265311570767859136324180752990208), (320, 11150372599265311570767859136324180752990208, 22300745198530623141535718272648361505980416), (640, 27875931498163278926919647840810451882475520, 44601490397061246283071436545296723011960832), (1028, 44775714968924766776364684344301788336226304, 89202980794122492566142873090593446023921664), (0, 16384, 178405961588244985132285746181186892047843328), (0, 2048, 356811923176489970264571492362373784095686656), (8192, 356811923176489970264571492362373784095686656, 713623846352979940529142984724747568191373312), (16384, 713623846352979940529142984724747568191373312, 1427247692705959881058285969449495136382746624), (36864, 1605653654294204866190571715630682028430589952, 2854495385411919762116571938898990272765493248), (0, 16384, 5708990770823839524233143877797980545530986496), (131072, 5708990770823839524233143877797980545530986496, 11417981541647679048466287755595961091061972992), (0, 2048, 22835963083295358096932575511191922182123945984), (524288, 22835963083295358096932575511191922182123945984, 45671926166590716193865151022383844364247891968), (1048576, 45671926166590716193865151022383844364247891968, 91343852333181432387730302044767688728495783936), (2359296, 102761833874829111436196589800363649819557756928, 182687704666362864775460604089535377456991567872), (4259840, 185542200051774784537577176028434367729757061120, 365375409332725729550921208179070754913983135744), (8390656, 365464612313519852043487351052161348360007057408, 730750818665451459101842416358141509827966271488), (0, 1024, 1461501637330902918203684832716283019655932542976), (0, 4096, 2923003274661805836407369665432566039311865085952), (100663296, 4384504911992708754611054498148849058967797628928, 5846006549323611672814739330865132078623730171904), (134217728, 5846006549323611672814739330865132078623730171904, 11692013098647223345629478661730264157247460343808), (285212672, 12422763917312674804731321078088405667075426615296, 23384026197294446691258957323460528314494920687616), (0, 32, 46768052394588893382517914646921056628989841375232), (0, 4096, 93536104789177786765035829293842113257979682750464), (3221225472, 140304157183766680147553743940763169886969524125696, 187072209578355573530071658587684226515959365500928), (4294967296, 187072209578355573530071658587684226515959365500928, 374144419156711147060143317175368453031918731001856), (9126805504, 397528445354005593751402274498828981346413651689472, 748288838313422294120286634350736906063837462003712), (34359738367, 748288838313422294120286634350736906063837462003712, 32768)] (by kernel_rfl) (by kernel_rfl) (by kernel_rfl) ?_
    refine DX.takeW 0 1 (by kernel_rfl) rfl rfl rfl rfl rfl (yw_move rfl rfl) ?_
    refine DX.takeW 1 3 (by kernel_rfl) rfl rfl rfl rfl rfl (yw_index (k := 7) rfl slt_125 rfl rfl rfl (Nat.le_of_ble_eq_true rfl) hAv) ?_
    refine DX.take 2 7 (by kernel_rfl) rfl rfl rfl rfl rfl (List.Sublist.refl _) (y_rowElem1 (i := 0) rfl rfl one_106 rfl rfl) ?_
    refine DX.takeW 3 15 (by kernel_rfl) rfl rfl rfl rfl rfl (yw_move rfl rfl) ?_
    refine DX.takeW 5 47 (by kernel_rfl) rfl rfl rfl rfl rfl (yw_move rfl rfl) ?_
    refine DX.takeW 8 303 (by kernel_rfl) rfl rfl rfl rfl rfl (yw_move rfl rfl) ?_
    refine DX.takeW 12 4399 (by kernel_rfl) rfl rfl rfl rfl rfl (yw_move rfl rfl) ?_
    refine DX.takeW 13 12591 (by kernel_rfl) rfl rfl rfl rfl rfl (yw_move rfl rfl) ?_
    refine DX.takeW 14 28975 (by kernel_rfl) rfl rfl rfl rfl rfl (yw_index (k := 5) rfl slt_125 rfl rfl rfl (Nat.le_of_ble_eq_true rfl) hAv) ?_
    refine DX.take 15 61743 (by kernel_rfl) rfl rfl rfl rfl rfl (List.Sublist.refl _) (y_rowElem1 (i := 0) rfl rfl one_106 rfl rfl) ?_
    refine DX.takeW 16 127279 (by kernel_rfl) rfl rfl rfl rfl rfl (yw_bvAnd (a := v.e) (b := v.f) UK.u32 rfl rfl rfl) ?_
    refine DX.takeW 17 258351 (by kernel_rfl) rfl rfl rfl rfl rfl (yw_move rfl rfl) ?_
    refine DX.takeW 18 520495 (by kernel_rfl) rfl rfl rfl rfl rfl (yw_bvNot (a := v.e) UK.u32 rfl rfl) ?_
    refine DX.takeW 19 1044783 (by kernel_rfl) rfl rfl rfl rfl rfl (yw_move rfl rfl) ?_
    refine DX.takeW 20 2093359 (by kernel_rfl) rfl rfl rfl rfl rfl (yw_index (k := 6) rfl slt_125 rfl rfl rfl (Nat.le_of_ble_eq_true rfl) hAv) ?_
    refine DX.take 21 4190511 (by kernel_rfl) rfl rfl rfl rfl rfl (List.Sublist.refl _) (y_rowElem1 (i := 0) rfl rfl one_106 rfl rfl) ?_
    refine DX.takeW 22 8384815 (by kernel_rfl) rfl rfl rfl rfl rfl (yw_bvAnd (a := ~~~v.e) (b := v.g) UK.u32 rfl rfl rfl) ?_
    refine DX.takeW 23 16773423 (by kernel_rfl) rfl rfl rfl rfl rfl (yw_bvXor (a := v.e &&& v.f) (b := (~~~v.e) &&& v.g) UK.u32 rfl rfl rfl) ?_
    refine DX.takeW 25 50327855 (by kernel_rfl) rfl rfl rfl rfl rfl (yw_move rfl rfl) ?_
    refine DX.takeW 26 117436719 (by kernel_rfl) rfl rfl rfl rfl rfl (yw_move rfl rfl) ?_
    refine DX.takeW 27 251654447 (by kernel_rfl) rfl rfl rfl rfl rfl (yw_index (k := q) rfl slt_125 rfl rfl (by omega) (by show q < 64; omega) ⟨_, _, rfl⟩) ?_
    refine DX.take 28 520089903 (by kernel_rfl) rfl rfl rfl rfl rfl (List.Sublist.refl _) (y_rowElem1 (i := 1) rfl rfl one_106 rfl (map_get hk0)) ?_
    refine DX.takeW 30 1593831727 (by kernel_rfl) rfl rfl rfl rfl rfl (yw_move rfl rfl) ?_
    refine DX.takeW 31 3741315375 (by kernel_rfl) rfl rfl rfl rfl rfl (yw_move rfl rfl) ?_
    refine DX.takeW 32 8036282671 (by kernel_rfl) rfl rfl rfl rfl rfl (yw_index (k := q) rfl slt_125 rfl rfl (by omega) (by omega) hAw) ?_
    refine DX.take 33 16626217263 (by kernel_rfl) rfl rfl rfl rfl rfl (List.Sublist.refl _) (y_rowElem1 (i := 2) rfl rfl one_106 rfl (map_get hs0')) ?_
    refine DX.step 4 16626217279 (by kernel_rfl) rfl rfl rfl (op_callV (v := .int .u32 (wi (rotK v.e (-6)))) rfl rfl rfl rfl rfl ent_97 (fun w hw => w_rotated v.e 6 (by decide) (by decide)) (DXs.mk (List.Sublist.refl _) ?_))
    refine DX.step 6 16626217343 (by kernel_rfl) rfl rfl rfl (op_callV (v := .int .u32 (wi (rotK v.e (-11)))) rfl rfl rfl rfl rfl ent_97 (fun w hw => w_rotated v.e 11 (by decide) (by decide)) (DXs.mk (List.Sublist.refl _) ?_))
    refine DX.takeW 7 16626217471 (by kernel_rfl) rfl rfl rfl rfl rfl (yw_bvXor (a := rotK v.e (-6)) (b := rotK v.e (-11)) UK.u32 rfl rfl rfl) ?_
    refine DX.step 9 16626217983 (by kernel_rfl) rfl rfl rfl (op_callV (v := .int .u32 (wi (rotK v.e (-25)))) rfl rfl rfl rfl rfl ent_97 (fun w hw => w_rotated v.e 25 (by decide) (by decide)) (DXs.mk (List.Sublist.refl _) ?_))
    refine DX.takeW 10 16626219007 (by kernel_rfl) rfl rfl rfl rfl rfl (yw_bvXor (a := (rotK v.e (-6)) ^^^ (rotK v.e (-11))) (b := rotK v.e (-25)) UK.u32 rfl rfl rfl) ?_
    refine DX.takeW 11 16626221055 (by kernel_rfl) rfl rfl rfl rfl rfl (yw_bvAdd (a := v.h) (b := ((rotK v.e (-6)) ^^^ (rotK v.e (-11))) ^^^ (rotK v.e (-25))) UK.u32 rfl rfl rfl) ?_
    refine DX.takeW 24 16642998271 (by kernel_rfl) rfl rfl rfl rfl rfl (yw_bvAdd (a := v.h + (((rotK v.e (-6)) ^^^ (rotK v.e (-11))) ^^^ (rotK v.e (-25)))) (b := (v.e &&& v.f) ^^^ ((~~~v.e) &&& v.g)) UK.u32 rfl rfl rfl) ?_
    refine DX.takeW 29 17179869183 (by kernel_rfl) rfl rfl rfl rfl rfl (yw_bvAdd (a := (v.h + (((rotK v.e (-6)) ^^^ (rotK v.e (-11))) ^^^ (rotK v.e (-25)))) + ((v.e &&& v.f) ^^^ ((~~~v.e) &&& v.g))) (b := k0) UK.u32 rfl rfl rfl) ?_
    refine DX.takeW 34 34359738367 (by kernel_rfl) rfl rfl rfl rfl rfl (yw_bvAdd (a := ((v.h + (((rotK v.e (-6)) ^^^ (rotK v.e (-11))) ^^^ (rotK v.e (-25)))) + ((v.e &&& v.f) ^^^ ((~~~v.e) &&& v.g))) + k0) (b := s0) UK.u32 rfl rfl rfl) ?_
    refine DX.know (t := 169) (u := .int .u32 (wi (Oct.t v k0 s0))) rfl (congrArg (fun x : W => Value.int .u32 (wi x)) (by rw [mix3 v.e 6 11 25]; rfl)) ?_
    refine DX.takeW 35 68719476735 (by kernel_rfl) rfl rfl rfl rfl rfl (yw_assign rfl rfl) ?_
    refine DX.done (by kernel_rfl) (XX.next (V' := [(0, _), (5, _), (10, _), (11, _), (12, _), (13, _), (14, _), (15, _)]) ⟨rfl, rfl, rfl, rfl, rfl, rfl, rfl, rfl, trivial⟩ ?_)
    refine CX.seq ?_
    refine CX.draw 29 [(0, 8192, 1496577676626844588240573268701473812127674924007424), (1, 1496577676626844588240573268701473812127674924007424, 2993155353253689176481146537402947624255349848014848), (0, 8192, 5986310706507378352962293074805895248510699696029696), (6, 5986310706507378352962293074805895248510699696029696, 11972621413014756705924586149611790497021399392059392), (10, 14965776766268445882405732687014738121276749240074240, 23945242826029513411849172299223580994042798784118784), (0, 8192, 47890485652059026823698344598447161988085597568237568), (40, 47890485652059026823698344598447161988085597568237568, 95780971304118053647396689196894323976171195136475136), (80, 119726214130147567059245861496117904970213993920593920, 191561942608236107294793378393788647952342390272950272), (0, 8192, 383123885216472214589586756787577295904684780545900544), (0, 2048, 766247770432944429179173513575154591809369561091801088), (512, 766247770432944429179173513575154591809369561091801088, 1532495540865888858358347027150309183618739122183602176), (1024, 1532495540865888858358347027150309183618739122183602176, 3064991081731777716716694054300618367237478244367204352), (2304, 3448114966948249931306280811088195663142163024913104896, 6129982163463555433433388108601236734474956488734408704), (0, 8192, 12259964326927110866866776217202473468949912977468817408), (0, 2048, 24519928653854221733733552434404946937899825954937634816), (16384, 24519928653854221733733552434404946937899825954937634816, 49039857307708443467467104868809893875799651909875269632), (32768, 49039857307708443467467104868809893875799651909875269632, 98079714615416886934934209737619787751599303819750539264), (73728, 110339678942343997801800985954822261220549216797219356672, 196159429230833773869868419475239575503198607639501078528), (135168, 202289411394297329303301807583840812237673564128235487232, 392318858461667547739736838950479151006397215279002157056), (0, 2048, 784637716923335095479473677900958302012794430558004314112), (524288, 784637716923335095479473677900958302012794430558004314112, 1569275433846670190958947355801916604025588861116008628224), (1048576, 1569275433846670190958947355801916604025588861116008628224, 3138550867693340381917894711603833208051177722232017256448), (0, 2048, 6277101735386680763835789423207666416102355444464034512896), (4194304, 6277101735386680763835789423207666416102355444464034512896, 12554203470773361527671578846415332832204710888928069025792), (8388608, 12554203470773361527671578846415332832204710888928069025792, 25108406941546723055343157692830665664409421777856138051584), (18874368, 28246957809240063437261052404434498872460599500088155308032, 50216813883093446110686315385661331328818843555712276103168), (33816576, 50609132741555113658426052224611810479825240770991278260224, 100433627766186892221372630771322662657637687111424552206336), (67108992, 100433819328129500457479925564701056446285639453814825156608, 200867255532373784442745261542645325315275374222849104412672), (268435455, 200867255532373784442745261542645325315275374222849104412672, 65536)] (by kernel_rfl) (by kernel_rfl) (by kernel_rfl) ?_
    refine DX.takeW 0 1 (by kernel_rfl) rfl rfl rfl rfl rfl (yw_move rfl rfl) ?_
    refine DX.takeW 2 5 (by kernel_rfl) rfl rfl rfl rfl rfl (yw_move rfl rfl) ?_
    refine DX.takeW 5 37 (by kernel_rfl) rfl rfl rfl rfl rfl (yw_move rfl rfl) ?_
    refine DX.takeW 8 293 (by kernel_rfl) rfl rfl rfl rfl rfl (yw_move rfl rfl) ?_
    refine DX.takeW 9 805 (by kernel_rfl) rfl rfl rfl rfl rfl (yw_move rfl rfl) ?_
    refine DX.takeW 10 1829 (by kernel_rfl) rfl rfl rfl rfl rfl (yw_index (k := 1) rfl slt_125 rfl rfl rfl (Nat.le_of_ble_eq_true rfl) hAv) ?_
    refine DX.take 11 3877 (by kernel_rfl) rfl rfl rfl rfl rfl (List.Sublist.refl _) (y_rowElem1 (i := 0) rfl rfl one_106 rfl rfl) ?_
    refine DX.takeW 12 7973 (by kernel_rfl) rfl rfl rfl rfl rfl (yw_bvAnd (a := v.a) (b := v.b) UK.u32 rfl rfl rfl) ?_
    refine DX.takeW 13 16165 (by kernel_rfl) rfl rfl rfl rfl rfl (yw_move rfl rfl) ?_
    refine DX.takeW 14 32549 (by kernel_rfl) rfl rfl rfl rfl rfl (yw_move rfl rfl) ?_
    refine DX.takeW 15 65317 (by kernel_rfl) rfl rfl rfl rfl rfl (yw_index (k := 2) rfl slt_125 rfl rfl rfl (Nat.le_of_ble_eq_true rfl) hAv) ?_
    refine DX.take 16 130853 (by kernel_rfl) rfl rfl rfl rfl rfl (List.Sublist.refl _) (y_rowElem1 (i := 0) rfl rfl one_106 rfl rfl) ?_
    refine DX.takeW 17 261925 (by kernel_rfl) rfl rfl rfl rfl rfl (yw_bvAnd (a := v.a) (b := v.c) UK.u32 rfl rfl rfl) ?_
    refine DX.takeW 18 524069 (by kernel_rfl) rfl rfl rfl rfl rfl (yw_bvXor (a := v.a &&& v.b) (b := v.a &&& v.c) UK.u32 rfl rfl rfl) ?_
    refine DX.takeW 19 1048357 (by kernel_rfl) rfl rfl rfl rfl rfl (yw_move rfl rfl) ?_
    refine DX.takeW 20 2096933 (by kernel_rfl) rfl rfl rfl rfl rfl (yw_index (k := 1) rfl slt_125 rfl rfl rfl (Nat.le_of_ble_eq_true rfl) hAv) ?_
    refine DX.take 21 4194085 (by kernel_rfl) rfl rfl rfl rfl rfl (List.Sublist.refl _) (y_rowElem1 (i := 0) rfl rfl one_106 rfl rfl) ?_
    refine DX.takeW 22 8388389 (by kernel_rfl) rfl rfl rfl rfl rfl (yw_move rfl rfl) ?_
    refine DX.takeW 23 16776997 (by kernel_rfl) rfl rfl rfl rfl rfl (yw_index (k := 2) rfl slt_125 rfl rfl rfl (Nat.le_of_ble_eq_true rfl) hAv) ?_
    refine DX.take 24 33554213 (by kernel_rfl) rfl rfl rfl rfl rfl (List.Sublist.refl _) (y_rowElem1 (i := 0) rfl rfl one_106 rfl rfl) ?_
    refine DX.takeW 25 67108645 (by kernel_rfl) rfl rfl rfl rfl rfl (yw_bvAnd (a := v.b) (b := v.c) UK.u32 rfl rfl rfl) ?_
    refine DX.takeW 26 134217509 (by kernel_rfl) rfl rfl rfl rfl rfl (yw_bvXor (a := (v.a &&& v.b) ^^^ (v.a &&& v.c)) (b := v.b &&& v.c) UK.u32 rfl rfl rfl) ?_
    refine DX.step 1 134217511 (by kernel_rfl) rfl rfl rfl (op_callV (v := .int .u32 (wi (rotK v.a (-2)))) rfl rfl rfl rfl rfl ent_97 (fun w hw => w_rotated v.a 2 (by decide) (by decide)) (DXs.mk (List.Sublist.refl _) ?_))
    refine DX.step 3 134217519 (by kernel_rfl) rfl rfl rfl (op_callV (v := .int .u32 (wi (rotK v.a (-13)))) rfl rfl rfl rfl rfl ent_97 (fun w hw => w_rotated v.a 13 (by decide) (by decide)) (DXs.mk (List.Sublist.refl _) ?_))
    refine DX.takeW 4 134217535 (by kernel_rfl) rfl rfl rfl rfl rfl (yw_bvXor (a := rotK v.a (-2)) (b := rotK v.a (-13)) UK.u32 rfl rfl rfl) ?_
    refine DX.step 6 134217599 (by kernel_rfl) rfl rfl rfl (op_callV (v := .int .u32 (wi (rotK v.a (-22)))) rfl rfl rfl rfl rfl ent_97 (fun w hw => w_rotated v.a 22 (by decide) (by decide)) (DXs.mk (List.Sublist.refl _) ?_))
    refine DX.takeW 7 134217727 (by kernel_rfl) rfl rfl rfl rfl rfl (yw_bvXor (a := (rotK v.a (-2)) ^^^ (rotK v.a (-13))) (b := rotK v.a (-22)) UK.u32 rfl rfl rfl) ?_
    refine DX.takeW 27 268435455 (by kernel_rfl) rfl rfl rfl rfl rfl (yw_bvAdd (a := ((rotK v.a (-2)) ^^^ (rotK v.a (-13))) ^^^ (rotK v.a (-22))) (b := ((v.a &&& v.b) ^^^ (v.a &&& v.c)) ^^^ (v.b &&& v.c)) UK.u32 rfl rfl rfl) ?_
    refine DX.know (t := 197) (u := .int .u32 (wi (Oct.u v))) rfl (congrArg (fun x : W => Value.int .u32 (wi x)) (by rw [mix3 v.a 2 13 22]; rfl)) ?_
    refine DX.takeW 28 536870911 (by kernel_rfl) rfl rfl rfl rfl rfl (yw_assign rfl rfl) ?_
    refine DX.done (by kernel_rfl) (XX.next (V' := [(0, _), (5, _), (10, _), (11, _), (12, _), (13, _), (14, _), (15, _), (16, _)]) ⟨rfl, rfl, rfl, rfl, rfl, rfl, rfl, rfl, rfl, trivial⟩ ?_)
    refine CX.draw 24 [(0, 32768, 401734511064747568885490523085290650630550748445698208825344), (0, 65536, 803469022129495137770981046170581301261101496891396417650688), (3, 1205203533194242706656471569255871951891652245337094626476032, 1606938044258990275541962092341162602522202993782792835301376), (0, 8192, 3213876088517980551083924184682325205044405987565585670602752), (0, 2048, 6427752177035961102167848369364650410088811975131171341205504), (16, 6427752177035961102167848369364650410088811975131171341205504, 12855504354071922204335696738729300820177623950262342682411008), (32, 12855504354071922204335696738729300820177623950262342682411008, 25711008708143844408671393477458601640355247900524685364822016), (0, 2048, 51422017416287688817342786954917203280710495801049370729644032), (128, 51422017416287688817342786954917203280710495801049370729644032, 102844034832575377634685573909834406561420991602098741459288064), (256, 102844034832575377634685573909834406561420991602098741459288064, 205688069665150755269371147819668813122841983204197482918576128), (0, 2048, 411376139330301510538742295639337626245683966408394965837152256), (1024, 411376139330301510538742295639337626245683966408394965837152256, 822752278660603021077484591278675252491367932816789931674304512), (2048, 822752278660603021077484591278675252491367932816789931674304512, 1645504557321206042154969182557350504982735865633579863348609024), (0, 32768, 3291009114642412084309938365114701009965471731267159726697218048), (12288, 4936513671963618126464907547672051514948207596900739590045827072, 6582018229284824168619876730229402019930943462534319453394436096), (0, 16384, 13164036458569648337239753460458804039861886925068638906788872192), (0, 2048, 26328072917139296674479506920917608079723773850137277813577744384), (65536, 26328072917139296674479506920917608079723773850137277813577744384, 52656145834278593348959013841835216159447547700274555627155488768), (131072, 52656145834278593348959013841835216159447547700274555627155488768, 105312291668557186697918027683670432318895095400549111254310977536), (0, 2048, 210624583337114373395836055367340864637790190801098222508621955072), (524288, 210624583337114373395836055367340864637790190801098222508621955072, 421249166674228746791672110734681729275580381602196445017243910144), (1048576, 421249166674228746791672110734681729275580381602196445017243910144, 842498333348457493583344221469363458551160763204392890034487820288), (2409036, 967792899597375224357626547771296247832419452832631030195771408384, 1684996666696914987166688442938726917102321526408785780068975640576), (8388607, 1684996666696914987166688442938726917102321526408785780068975640576, 2048)] (by kernel_rfl) (by kernel_rfl) (by kernel_rfl) ?_
    refine DX.takeW 0 1 (by kernel_rfl) rfl rfl rfl rfl rfl (yw_move rfl rfl) ?_
    refine DX.takeW 1 3 (by kernel_rfl) rfl rfl rfl rfl rfl (yw_move rfl rfl) ?_
    refine DX.takeW 2 7 (by kernel_rfl) rfl rfl rfl rfl rfl (yw_bvAdd (a := Oct.t v k0 s0) (b := Oct.u v) UK.u32 rfl rfl rfl) ?_
    refine DX.takeW 3 15 (by kernel_rfl) rfl rfl rfl rfl rfl (yw_move rfl rfl) ?_
    refine DX.takeW 4 31 (by kernel_rfl) rfl rfl rfl rfl rfl (yw_move rfl rfl) ?_
    refine DX.takeW 5 63 (by kernel_rfl) rfl rfl rfl rfl rfl (yw_index (k := 1) rfl slt_125 rfl rfl rfl (Nat.le_of_ble_eq_true rfl) hAv) ?_
    refine DX.take 6 127 (by kernel_rfl) rfl rfl rfl rfl rfl (List.Sublist.refl _) (y_rowElem1 (i := 0) rfl rfl one_106 rfl rfl) ?_
    refine DX.takeW 7 255 (by kernel_rfl) rfl rfl rfl rfl rfl (yw_move rfl rfl) ?_
    refine DX.takeW 8 511 (by kernel_rfl) rfl rfl rfl rfl rfl (yw_index (k := 2) rfl slt_125 rfl rfl rfl (Nat.le_of_ble_eq_true rfl) hAv) ?_
    refine DX.take 9 1023 (by kernel_rfl) rfl rfl rfl rfl rfl (List.Sublist.refl _) (y_rowElem1 (i := 0) rfl rfl one_106 rfl rfl) ?_
    refine DX.takeW 10 2047 (by kernel_rfl) rfl rfl rfl rfl rfl (yw_move rfl rfl) ?_
    refine DX.takeW 11 4095 (by kernel_rfl) rfl rfl rfl rfl rfl (yw_index (k := 3) rfl slt_125 rfl rfl rfl (Nat.le_of_ble_eq_true rfl) hAv) ?_
    refine DX.take 12 8191 (by kernel_rfl) rfl rfl rfl rfl rfl (List.Sublist.refl _) (y_rowElem1 (i := 0) rfl rfl one_106 rfl rfl) ?_
    refine DX.takeW 13 16383 (by kernel_rfl) rfl rfl rfl rfl rfl (yw_move rfl rfl) ?_
    refine DX.takeW 14 32767 (by kernel_rfl) rfl rfl rfl rfl rfl (yw_bvAdd (a := v.d) (b := Oct.t v k0 s0) UK.u32 rfl rfl rfl) ?_
    refine DX.takeW 15 65535 (by kernel_rfl) rfl rfl rfl rfl rfl (yw_move rfl rfl) ?_
    refine DX.takeW 16 131071 (by kernel_rfl) rfl rfl rfl rfl rfl (yw_move rfl rfl) ?_
    refine DX.takeW 17 262143 (by kernel_rfl) rfl rfl rfl rfl rfl (yw_index (k := 5) rfl slt_125 rfl rfl rfl (Nat.le_of_ble_eq_true rfl) hAv) ?_
    refine DX.take 18 524287 (by kernel_rfl) rfl rfl rfl rfl rfl (List.Sublist.refl _) (y_rowElem1 (i := 0) rfl rfl one_106 rfl rfl) ?_
    refine DX.takeW 19 1048575 (by kernel_rfl) rfl rfl rfl rfl rfl (yw_move rfl rfl) ?_
    refine DX.takeW 20 2097151 (by kernel_rfl) rfl rfl rfl rfl rfl (yw_index (k := 6) rfl slt_125 rfl rfl rfl (Nat.le_of_ble_eq_true rfl) hAv) ?_
    refine DX.take 21 4194303 (by kernel_rfl) rfl rfl rfl rfl rfl (List.Sublist.refl _) (y_rowElem1 (i := 0) rfl rfl one_106 rfl rfl) ?_
    refine DX.step 22 8388607 (by kernel_rfl) rfl rfl rfl (op_buildSlice rfl rfl rfl slb_125 rfl rfl (by intro v hv; simp only [List.mem_cons, List.not_mem_nil, or_false] at hv; rcases hv with rfl | rfl | rfl | rfl | rfl | rfl | rfl | rfl <;> exact ⟨rfl, (plain_of rfl)⟩) (by decide) fun gn => (DXs.mk (List.Sublist.cons _ (List.Sublist.refl _)) ?_))
    refine DX.takeW 23 16777215 (by kernel_rfl) rfl rfl rfl rfl rfl (yw_assign rfl rfl) ?_
    refine DX.done (by kernel_rfl) (XX.inBlock (V' := [(0, _), (5, _), (10, _), (11, _), (12, _)]) ⟨rfl, rfl, rfl, rfl, rfl, trivial⟩ ?_)
    refine XX.next (V' := [(0, _), (5, _), (10, _), (11, _), (12, _)]) ⟨rfl, rfl, rfl, rfl, rfl, trivial⟩ ?_
    refine CX.region ?_
    refine RX.cons rfl rfl (op_w (yw_move rfl rfl) rfl rfl ?_)
    refine RX.cons rfl rfl (op_w (yw_add rfl rfl rfl (by omega) (by omega)) rfl rfl ?_)
    refine RX.cons rfl rfl (op_w (yw_assign rfl rfl) rfl rfl ?_)
    refine RX.nil (XX.againP ([.row A6 c6 106 1 (List.map wC (Oct.list v))]) (q + 1, (some ⟨gn, 0, none⟩, 8), Oct.round v k0 s0) (by dsimp only; omega) ⟨by dsimp only; omega, by dsimp only; rw [take_succ (zip_get hk0 hs0), rounds_snoc, ← hv]⟩ ⟨rfl, rfl, rfl, rfl, rfl, trivial⟩ ((perm_pick 0 rfl).trans (List.Perm.cons _ ((perm_pick 1 rfl).trans (List.Perm.cons _ ((perm_pick 1 rfl).trans (List.Perm.cons _ (List.Perm.refl _))))))))
   ·have hv' : v = h.rounds (roundsK.zip (schedW bs)) := by rw [hv, List.take_of_length_le]; simp [sched_length]; omega
    refine CX.exit ?_
    refine XX.then_exit ?_
    refine XX.then_exit ?_
    refine XX.block_exit ?_
    refine XX.next (V' := [(0, _), (11, _)]) ⟨rfl, rfl, trivial⟩ ?_
    refine CX.seq ?_
    refine CX.region ?_
    refine RX.cons rfl rfl (op_w (yw_assign rfl rfl) rfl rfl ?_)
    refine RX.nil (XX.next (V' := [(0, _), (11, _), (17, _)]) ⟨rfl, rfl, rfl, trivial⟩ ?_)
    refine CX.seq ?_
    refine CX.seq ?_
    refine CX.region ?_
    refine RX.cons rfl rfl (op_w (yw_assign rfl rfl) rfl rfl ?_)
    refine RX.nil (XX.next (V' := [(0, _), (11, _), (17, _), (18, _)]) ⟨rfl, rfl, rfl, rfl, trivial⟩ ?_)
    refine CX.block ?_
    refine CX.drop (L' := [.row A6 c6 106 1 (List.map wC (Oct.list v))]) (List.Sublist.cons_cons _ (List.nil_sublist _)) ?_
    refine CX.rowNil 106 1 ?_
    refine CX.loop (σ := Nat × (Option Addr × Nat) × List W) (fun z => [(0, .slice B 8 capB), (11, .slice A6 (List.length ((Oct.list v) : List W)) c6), (17, .slice z.2.1.1 (List.length (z.2.2 : List W)) z.2.1.2), (18, .int .i64 ((z.1 : Nat) : Int))]) (fun z => [.row z.2.1.1 z.2.1.2 106 1 (List.map wC z.2.2), .row A6 c6 106 1 (List.map wC (Oct.list v))]) (fun z => z.1 ≤ 8 ∧ z.2.2 = (List.zipWith (· + ·) h.list v.list).take z.1) (fun z => 8 - z.1) (0, (none, 0), []) ⟨Nat.zero_le _, rfl⟩ ⟨rfl, rfl, rfl, rfl, trivial⟩ rfl (fun z hI => ?_)
    obtain ⟨p, ⟨A7, c7⟩, os⟩ := z
    dsimp only at hI ⊢
    obtain ⟨hp, hos⟩ := hI
    have hol : os.length = p := by rw [hos, List.length_take]; show min p 8 = p; omega
    refine CX.seq ?_
    refine CX.seq ?_
    refine CX.region ?_
    refine RX.cons rfl rfl (op_w (yw_move rfl rfl) rfl rfl ?_)
    refine RX.cons rfl rfl (op_w (yw_lss rfl rfl rfl) rfl rfl ?_)
    refine RX.nil (XX.next (V' := [(0, _), (11, _), (17, _), (18, _), (222, _)]) ⟨rfl, rfl, rfl, rfl, rfl, trivial⟩ ?_)
    refine CX.condD (p := ((p : Nat) : Int) < 8) rfl (fun c222 => ?_) (fun c222 => ?_)
    ·obtain ⟨x1, hx1⟩ := get_some (l := h.list) (k := p) (by show p < 8; omega)
     obtain ⟨y1, hy1⟩ := get_some (l := v.list) (k := p) (by show p < 8; omega)
     have hB : ∃ b j, B = some ⟨b, j, none⟩ := hrh.some (k := 0) (Nat.le_of_ble_eq_true rfl)
     refine CX.rowSome 1 rfl (Nat.le_of_ble_eq_true rfl) (fun hAv => ?_)
     refine CX.skip (XX.next (V' := [(0, _), (11, _), (17, _), (18, _)]) ⟨rfl, rfl, rfl, rfl, trivial⟩ ?_)
     refine CX.seq ?_
     refine CX.block ?_
     refine CX.draw 11 [(0, 131072, 53919893334301279589334030174039261347274288845081144962207220498432), (0, 1, 107839786668602559178668060348078522694548577690162289924414440996864), (0, 262144, 215679573337205118357336120696157045389097155380324579848828881993728), (6, 323519360005807677536004181044235568083645733070486869773243322990592, 431359146674410236714672241392314090778194310760649159697657763987456), (8, 431359146674410236714672241392314090778194310760649159697657763987456, 862718293348820473429344482784628181556388621521298319395315527974912), (0, 2048, 1725436586697640946858688965569256363112777243042596638790631055949824), (0, 262144, 3450873173395281893717377931138512726225554486085193277581262111899648), (96, 5176309760092922840576066896707769089338331729127789916371893167849472, 6901746346790563787434755862277025452451108972170386555162524223799296), (128, 6901746346790563787434755862277025452451108972170386555162524223799296, 13803492693581127574869511724554050904902217944340773110325048447598592), (272, 14666210986929948048298856207338679086458606565862071429720363975573504, 27606985387162255149739023449108101809804435888681546220650096895197184), (512, 27606985387162255149739023449108101809804435888681546220650096895197184, 55213970774324510299478046898216203619608871777363092441300193790394368), (1025, 55267890667658811579067380928390242880956146066208173586262401010892800, 110427941548649020598956093796432407239217743554726184882600387580788736), (4095, 110427941548649020598956093796432407239217743554726184882600387580788736, 131072)] (by kernel_rfl) (by kernel_rfl) (by kernel_rfl) ?_
     refine DX.takeW 0 1 (by kernel_rfl) rfl rfl rfl rfl rfl (yw_move rfl rfl) ?_
     refine DX.takeW 1 3 (by kernel_rfl) rfl rfl rfl rfl rfl (yw_move rfl rfl) ?_
     refine DX.takeW 2 7 (by kernel_rfl) rfl rfl rfl rfl rfl (yw_move rfl rfl) ?_
     refine DX.takeW 3 15 (by kernel_rfl) rfl rfl rfl rfl rfl (yw_index (k := p) rfl slt_125 rfl rfl (by omega) (by omega) hB) ?_
     refine DX.take 4 31 (by kernel_rfl) rfl rfl rfl rfl rfl (List.Sublist.refl _) (y_elem1 rfl rfl one_106 hrh (by simp) (map_get hx1)) ?_
     refine DX.takeW 5 63 (by kernel_rfl) rfl rfl rfl rfl rfl (yw_move rfl rfl) ?_
     refine DX.takeW 6 127 (by kernel_rfl) rfl rfl rfl rfl rfl (yw_move rfl rfl) ?_
     refine DX.takeW 7 255 (by kernel_rfl) rfl rfl rfl rfl rfl (yw_index (k := p) rfl slt_125 rfl rfl (by omega) (by show p < 8; omega) hAv) ?_
     refine DX.take 8 511 (by kernel_rfl) rfl rfl rfl rfl rfl (List.Sublist.refl _) (y_rowElem1 (i := 1) rfl rfl one_106 rfl (map_get hy1)) ?_
     refine DX.takeW 9 1023 (by kernel_rfl) rfl rfl rfl rfl rfl (yw_bvAdd (a := x1) (b := y1) UK.u32 rfl rfl rfl) ?_
     refine DX.step 10 2047 (by kernel_rfl) rfl rfl rfl (op_buildSlice rfl rfl rfl slb_125 rfl rfl (by intro v hv; simp only [List.mem_cons, List.not_mem_nil, or_false] at hv; subst hv; exact ⟨rfl, (plain_of rfl)⟩) (by decide) fun g9 => (DXs.mk (List.Sublist.cons _ (List.Sublist.refl _)) ?_))
     refine DX.stepT 11 4095 (by kernel_rfl) rfl rfl rfl rfl (op_appendM wC (i := 1) (j := 0) (xs := os) ([x1 + y1]) rfl rfl rfl slb_125 rfl rfl rfl rfl rfl rfl (by simp only [List.length_singleton]; omega) (by simp only [List.length_singleton]; omega) fun A8 c8 => ?_)
     refine DX.takeW 12 8191 (by kernel_rfl) rfl rfl rfl rfl rfl (yw_assign rfl rfl) ?_
     refine DX.done (by kernel_rfl) (XX.inBlock (V' := [(0, _), (11, _), (17, _), (18, _)]) ⟨rfl, rfl, rfl, rfl, trivial⟩ ?_)
     refine XX.next (V' := [(0, _), (11, _), (17, _), (18, _)]) ⟨rfl, rfl, rfl, rfl, trivial⟩ ?_
     refine CX.region ?_
     refine RX.cons rfl rfl (op_w (yw_move rfl rfl) rfl rfl ?_)
     refine RX.cons rfl rfl (op_w (yw_add rfl rfl rfl (by omega) (by omega)) rfl rfl ?_)
     refine RX.cons rfl rfl (op_w (yw_assign rfl rfl) rfl rfl ?_)
     refine RX.nil (XX.againP ([.row (some ⟨g9, 0, none⟩) 1 106 1 (List.map wC ([x1 + y1]))]) (p + 1, (A8, c8), os ++ [x1 + y1]) (by dsimp only; omega) ⟨by dsimp only; omega, by dsimp only; rw [take_succ (x := x1 + y1) (by rw [List.getElem?_zipWith, hx1, hy1]), hos]⟩ ⟨rfl, rfl, rfl, rfl, trivial⟩ ((perm_pick 1 rfl).trans (List.Perm.cons _ ((perm_pick 1 rfl).trans (List.Perm.cons _ (List.Perm.refl _))))))
    ·have hos' : os = (Oct.block h bs).list := by rw [hos, show p = 8 from by omega, hv']; rfl
     refine CX.exit ?_
     refine XX.then_exit ?_
     refine XX.then_exit ?_
     refine XX.block_exit ?_
     refine XX.next (V' := [(17, _)]) ⟨rfl, trivial⟩ ?_
     refine CX.seq ?_
     refine CX.region ?_
     refine RX.cons rfl rfl (op_w (yw_move rfl rfl) rfl rfl ?_)
     refine RX.cons rfl rfl (op_w (yw_assign rfl rfl) rfl rfl ?_)
     refine RX.nil (XX.next (V' := [(4, .slice A7 (List.length (os : List W)) c7)]) ⟨rfl, trivial⟩ ?_)
     refine CX.ret ?_
     exact ret_tmp rfl rfl fun w1 hw => ⟨(A7, c7), trivial, by rw [hos']; rfl, by rw [← hos']; exact hw.pick ((perm_pick 0 rfl).trans (List.Perm.cons _ (List.Perm.refl _)))⟩

end Go.Proofs.YtnadipjlhlbfoaaGreatDoor
namespace Go.Proofs.YtnadipjlhlbfoaaGreatDoor
set_option linter.all false
open Go Go.RowKit
set_option maxRecDepth 100000
theorem ent_83 : ∀ args w, (callFunc 83 args).run Tryz.prog w = .ok (.enter 83 args) w := enters_of Tryz.func83 (by kernel_rfl) rfl
theorem ent_84 : ∀ args w, (callFunc 84 args).run Tryz.prog w = .ok (.enter 84 args) w := enters_of Tryz.func84 (by kernel_rfl) rfl
theorem blocks_next (l : List UInt8) (k : Nat) : Oct.block (blocksL l k) (chunkL l k) = blocksL l (k + 1) := by
  simp only [blocksL, List.range_succ, List.foldl_append, List.foldl_cons, List.foldl_nil]
set_option maxRecDepth 100000 in
theorem w_sum02 {w : World} (s : ByteArray) (hn : s.data.toList.length ≤ 70368744177664) :
    Calls Tryz.prog 60 #[.string s] w (fun e w' => e = .returned (.string (sum s)) ∧ SL w [] w' []) := by
 refine calls_of_CX (O := []) (L := []) (args := [.string s]) Tryz.func60 rfl (by simp [Tryz.ntmps60]) (SL.refl w) ?_
 refine CX.sub (V' := [(0, .string s)]) ⟨rfl, trivial⟩ ?_
 refine CX.seq ?_
 refine CX.region ?_
 refine RX.cons rfl rfl (op_w (yw_assign rfl rfl) rfl rfl ?_)
 refine RX.nil (XX.next (V' := [(0, _)]) ⟨rfl, trivial⟩ ?_)
 refine CX.seq ?_
 refine CX.region ?_
 refine RX.cons rfl rfl (op_buildSlice rfl rfl rfl slb_125 rfl rfl (by intro v hv; simp only [List.mem_cons, List.not_mem_nil, or_false] at hv; rcases hv with rfl | rfl | rfl | rfl | rfl | rfl | rfl | rfl <;> exact ⟨rfl, (plain_of rfl)⟩) (by decide) fun g0 => ?_)
 refine RX.cons rfl rfl (op_w (yw_assign rfl rfl) rfl rfl ?_)
 refine RX.nil (XX.next (V' := [(0, _), (3, _)]) ⟨rfl, rfl, trivial⟩ ?_)
 refine CX.seq ?_
 refine CX.region ?_
 refine RX.cons rfl rfl (op_w (yw_move rfl rfl) rfl rfl ?_)
 refine RX.cons rfl rfl (op_callE rfl rfl rfl rfl rfl ent_83 (fun w hw => w_extended s hn) (fun zx _ => ?_))
 refine RX.cons rfl rfl (op_w (yw_assign rfl rfl) rfl rfl ?_)
 refine RX.nil (XX.next (V' := [(3, _), (4, _)]) ⟨rfl, rfl, trivial⟩ ?_)
 refine CX.seq ?_
 refine CX.seq ?_
 refine CX.region ?_
 refine RX.cons rfl rfl (op_w (yw_assign rfl rfl) rfl rfl ?_)
 refine RX.nil (XX.next (V' := [(3, _), (4, _), (5, _)]) ⟨rfl, rfl, rfl, trivial⟩ ?_)
 refine CX.block ?_
 obtain ⟨N, hN, hN2⟩ := padded_len s.data.toList
 refine CX.loop (σ := Nat × (Option Addr × Nat)) (fun z => [(3, .slice z.2.1 8 z.2.2), (4, .slice zx.1 (List.length (paddedL (ByteArray.data s).toList : List UInt8)) zx.2), (5, .int .i64 ((64 * z.1 : Nat) : Int))]) (fun z => [.row zx.1 zx.2 5 1 (List.map u8c (paddedL (ByteArray.data s).toList)), .row z.2.1 z.2.2 106 1 (List.map wC (Oct.list (blocksL (paddedL s.data.toList) z.1)))]) (fun z => z.1 ≤ N) (fun z => N - z.1) (0, (some ⟨g0, 0, none⟩, 8)) (Nat.zero_le _) ⟨rfl, rfl, rfl, trivial⟩ rfl (fun z hI => ?_)
 obtain ⟨k, ⟨A1, c1⟩⟩ := z
 dsimp only at hI ⊢
 have hk := hI
 refine CX.seq ?_
 refine CX.seq ?_
 refine CX.region ?_
 refine RX.cons rfl rfl (op_w (yw_move rfl rfl) rfl rfl ?_)
 refine RX.cons rfl rfl (op_w (yw_move rfl rfl) rfl rfl ?_)
 refine RX.cons rfl rfl (op_w (yw_lenS rfl Tryz.underlying54 rfl) rfl rfl ?_)
 refine RX.cons rfl rfl (op_w (yw_lss rfl rfl rfl) rfl rfl ?_)
 refine RX.nil (XX.next (V' := [(3, _), (4, _), (5, _), (14, _)]) ⟨rfl, rfl, rfl, rfl, trivial⟩ ?_)
 refine CX.condD (p := ((64 * k : Nat) : Int) < ((List.length (paddedL (ByteArray.data s).toList : List UInt8) : Nat) : Int)) rfl (fun c14 => ?_) (fun c14 => ?_)
 ·refine CX.rowSome 0 rfl (by rw [List.length_map]; omega) (fun hAb => ?_)
  obtain ⟨b0, q0, hAb⟩ := hAb
  refine CX.rowCap 0 rfl (fun hcb => ?_)
  have hcl : (chunkL (paddedL s.data.toList) k).length = 64 := chunk_len hN (by omega)
  refine CX.skip (XX.next (V' := [(3, _), (4, _), (5, _)]) ⟨rfl, rfl, rfl, trivial⟩ ?_)
  refine CX.seq ?_
  refine CX.block ?_
  refine CX.region ?_
  refine RX.cons rfl rfl (op_w (yw_move rfl rfl) rfl rfl ?_)
  refine RX.cons rfl rfl (op_w (yw_move rfl rfl) rfl rfl ?_)
  refine RX.cons rfl rfl (op_w (yw_move rfl rfl) rfl rfl ?_)
  refine RX.cons rfl rfl (op_w (yw_move rfl rfl) rfl rfl ?_)
  refine RX.cons rfl rfl (op_w (yw_add rfl rfl rfl (by omega) (by omega)) rfl rfl ?_)
  refine RX.know (t := 21) (u := .int .i64 ((64 * k + 64 : Nat) : Int)) rfl (congrArg (Value.int .i64) (by omega)) ?_
  refine RX.cons rfl rfl (op_w (yw_sliceMid (i := 64 * k) (j := 64 * k + 64) (mm := 64) (cc := zx.2 - 64 * k) hAb rfl slt_54 rfl rfl rfl rfl (by omega) (by omega) (by omega) (by omega) (by omega) rfl) rfl rfl ?_)
  refine RX.cons rfl rfl (op_callE rfl rfl rfl rfl rfl ent_84 (fun w hw => w_block (blocksL (paddedL s.data.toList) k) (chunkL (paddedL s.data.toList) k) (Ent.rd (hw.ents _ (List.mem_of_getElem? (i := 1) rfl))) (Rd.takeM (Rd.dropM (Ent.rd (hw.ents _ (List.mem_of_getElem? (i := 0) rfl))) hAb (64 * k)) 64) hcl) (fun zb _ => ?_))
  refine RX.know1 0 (q := .row zb.1 zb.2 106 1 (List.map wC (Oct.list (blocksL (paddedL s.data.toList) (k + 1))))) rfl (by rw [blocks_next]) ?_
  refine RX.cons rfl rfl (op_w (yw_assign rfl rfl) rfl rfl ?_)
  refine RX.nil (XX.inBlock (V' := [(3, _), (4, _), (5, _)]) ⟨rfl, rfl, rfl, trivial⟩ ?_)
  refine XX.next (V' := [(3, _), (4, _), (5, _)]) ⟨rfl, rfl, rfl, trivial⟩ ?_
  refine CX.region ?_
  refine RX.cons rfl rfl (op_w (yw_move rfl rfl) rfl rfl ?_)
  refine RX.cons rfl rfl (op_w (yw_add rfl rfl rfl (by omega) (by omega)) rfl rfl ?_)
  refine RX.know (t := 16) (u := .int .i64 ((64 * (k + 1) : Nat) : Int)) rfl (congrArg (Value.int .i64) (by omega)) ?_
  refine RX.cons rfl rfl (op_w (yw_assign rfl rfl) rfl rfl ?_)
  refine RX.nil (XX.againP ([.row A1 c1 106 1 (List.map wC (Oct.list (blocksL (paddedL s.data.toList) k)))]) (k + 1, zb) (by dsimp only; omega) (by dsimp only; omega) ⟨rfl, rfl, rfl, trivial⟩ ((perm_pick 1 rfl).trans (List.Perm.cons _ ((perm_pick 0 rfl).trans (List.Perm.cons _ (List.Perm.refl _))))))
 ·have hkN : k = N := by omega
  have hsum : (Oct.bytes (blocksL (paddedL s.data.toList) k)) = sumL s.data.toList := by rw [sumL, hkN, show (paddedL s.data.toList).length / 64 = N by omega]
  refine CX.exit ?_
  refine XX.then_exit ?_
  refine XX.then_exit ?_
  refine XX.block_exit ?_
  refine XX.next (V' := [(3, _)]) ⟨rfl, trivial⟩ ?_
  refine CX.seq ?_
  refine CX.region ?_
  refine RX.cons rfl rfl (op_w (yw_assign rfl rfl) rfl rfl ?_)
  refine RX.nil (XX.next (V' := [(3, _), (6, _)]) ⟨rfl, rfl, trivial⟩ ?_)
  refine CX.seq ?_
  refine CX.seq ?_
  refine CX.region ?_
  refine RX.cons rfl rfl (op_w (yw_assign rfl rfl) rfl rfl ?_)
  refine RX.nil (XX.next (V' := [(3, _), (6, _), (7, _)]) ⟨rfl, rfl, rfl, trivial⟩ ?_)
  refine CX.block ?_
  refine CX.drop (L' := [.row A1 c1 106 1 (List.map wC (Oct.list (blocksL (paddedL s.data.toList) k)))]) (List.Sublist.cons _ (List.Sublist.refl _)) ?_
  refine CX.rowNil 5 1 ?_
  refine CX.loop (σ := Nat × (Option Addr × Nat) × List UInt8) (fun z => [(3, .slice A1 8 c1), (6, .slice z.2.1.1 (List.length (z.2.2 : List UInt8)) z.2.1.2), (7, .int .i64 ((z.1 : Nat) : Int))]) (fun z => [.row z.2.1.1 z.2.1.2 5 1 (List.map u8c z.2.2), .row A1 c1 106 1 (List.map wC (Oct.list (blocksL (paddedL s.data.toList) k)))]) (fun z => z.1 ≤ 8 ∧ z.2.2 = ((Oct.list (blocksL (paddedL s.data.toList) k)).take z.1).flatMap bytesW ∧ z.2.2.length = 4 * z.1) (fun z => 8 - z.1) (0, (none, 0), []) ⟨Nat.zero_le _, rfl, rfl⟩ ⟨rfl, rfl, rfl, trivial⟩ rfl (fun z hI => ?_)
  obtain ⟨p, ⟨A3, c3⟩, os⟩ := z
  dsimp only at hI ⊢
  obtain ⟨hp, hos, hol⟩ := hI
  refine CX.seq ?_
  refine CX.seq ?_
  refine CX.region ?_
  refine RX.cons rfl rfl (op_w (yw_move rfl rfl) rfl rfl ?_)
  refine RX.cons rfl rfl (op_w (yw_lss rfl rfl rfl) rfl rfl ?_)
  refine RX.nil (XX.next (V' := [(3, _), (6, _), (7, _), (25, _)]) ⟨rfl, rfl, rfl, rfl, trivial⟩ ?_)
  refine CX.condD (p := ((p : Nat) : Int) < 8) rfl (fun c25 => ?_) (fun c25 => ?_)
  ·obtain ⟨x, hx⟩ := get_some (l := (Oct.list (blocksL (paddedL s.data.toList) k))) (k := p) (by show p < 8; omega)
   refine CX.rowSome 1 rfl (Nat.le_of_ble_eq_true rfl) (fun hAh => ?_)
   refine CX.skip (XX.next (V' := [(3, _), (6, _), (7, _)]) ⟨rfl, rfl, rfl, trivial⟩ ?_)
   refine CX.seq ?_
   refine CX.block ?_
   refine CX.draw 25 [(0, 64, 268435456), (0, 8, 536870912), (0, 128, 1073741824), (6, 1610612736, 2147483648), (8, 2147483648, 4294967296), (16, 4294967296, 8589934592), (32, 8589934592, 17179869184), (0, 8, 34359738368), (0, 128, 68719476736), (384, 103079215104, 137438953472), (512, 137438953472, 274877906944), (1024, 274877906944, 549755813888), (2048, 549755813888, 1099511627776), (0, 8, 2199023255552), (0, 128, 4398046511104), (24576, 6597069766656, 8796093022208), (32768, 8796093022208, 17592186044416), (65536, 17592186044416, 35184372088832), (131072, 35184372088832, 70368744177664), (0, 8, 140737488355328), (0, 128, 281474976710656), (1572864, 422212465065984, 562949953421312), (2097152, 562949953421312, 1125899906842624), (4194304, 1125899906842624, 2251799813685248), (8654912, 2323285249359872, 4503599627370496), (16777217, 4503599895805952, 9007199254740992), (67108863, 9007199254740992, 64)] (by kernel_rfl) (by kernel_rfl) (by kernel_rfl) ?_
   refine DX.takeW 0 1 (by kernel_rfl) rfl rfl rfl rfl rfl (yw_move rfl rfl) ?_
   refine DX.takeW 1 3 (by kernel_rfl) rfl rfl rfl rfl rfl (yw_move rfl rfl) ?_
   refine DX.takeW 2 7 (by kernel_rfl) rfl rfl rfl rfl rfl (yw_move rfl rfl) ?_
   refine DX.takeW 3 15 (by kernel_rfl) rfl rfl rfl rfl rfl (yw_index (k := p) rfl slt_125 rfl rfl (by omega) (by omega) hAh) ?_
   refine DX.take 4 31 (by kernel_rfl) rfl rfl rfl rfl rfl (List.Sublist.refl _) (y_rowElem1 (i := 1) rfl rfl one_106 rfl (map_get hx)) ?_
   refine DX.takeW 5 63 (by kernel_rfl) rfl rfl rfl rfl rfl (yw_bvShr (a := x) 24 UK.u32 rfl rfl rfl rfl) ?_
   refine DX.takeW 6 127 (by kernel_rfl) rfl rfl rfl rfl rfl (yw_bvConv (a := x >>> 24) UK.u8 rfl rfl Tryz.underlying106 Tryz.underlying5) ?_
   refine DX.takeW 7 255 (by kernel_rfl) rfl rfl rfl rfl rfl (yw_move rfl rfl) ?_
   refine DX.takeW 8 511 (by kernel_rfl) rfl rfl rfl rfl rfl (yw_move rfl rfl) ?_
   refine DX.takeW 9 1023 (by kernel_rfl) rfl rfl rfl rfl rfl (yw_index (k := p) rfl slt_125 rfl rfl (by omega) (by omega) hAh) ?_
   refine DX.take 10 2047 (by kernel_rfl) rfl rfl rfl rfl rfl (List.Sublist.refl _) (y_rowElem1 (i := 1) rfl rfl one_106 rfl (map_get hx)) ?_
   refine DX.takeW 11 4095 (by kernel_rfl) rfl rfl rfl rfl rfl (yw_bvShr (a := x) 16 UK.u32 rfl rfl rfl rfl) ?_
   refine DX.takeW 12 8191 (by kernel_rfl) rfl rfl rfl rfl rfl (yw_bvConv (a := x >>> 16) UK.u8 rfl rfl Tryz.underlying106 Tryz.underlying5) ?_
   refine DX.takeW 13 16383 (by kernel_rfl) rfl rfl rfl rfl rfl (yw_move rfl rfl) ?_
   refine DX.takeW 14 32767 (by kernel_rfl) rfl rfl rfl rfl rfl (yw_move rfl rfl) ?_
   refine DX.takeW 15 65535 (by kernel_rfl) rfl rfl rfl rfl rfl (yw_index (k := p) rfl slt_125 rfl rfl (by omega) (by omega) hAh) ?_
   refine DX.take 16 131071 (by kernel_rfl) rfl rfl rfl rfl rfl (List.Sublist.refl _) (y_rowElem1 (i := 1) rfl rfl one_106 rfl (map_get hx)) ?_
   refine DX.takeW 17 262143 (by kernel_rfl) rfl rfl rfl rfl rfl (yw_bvShr (a := x) 8 UK.u32 rfl rfl rfl rfl) ?_
   refine DX.takeW 18 524287 (by kernel_rfl) rfl rfl rfl rfl rfl (yw_bvConv (a := x >>> 8) UK.u8 rfl rfl Tryz.underlying106 Tryz.underlying5) ?_
   refine DX.takeW 19 1048575 (by kernel_rfl) rfl rfl rfl rfl rfl (yw_move rfl rfl) ?_
   refine DX.takeW 20 2097151 (by kernel_rfl) rfl rfl rfl rfl rfl (yw_move rfl rfl) ?_
   refine DX.takeW 21 4194303 (by kernel_rfl) rfl rfl rfl rfl rfl (yw_index (k := p) rfl slt_125 rfl rfl (by omega) (by omega) hAh) ?_
   refine DX.take 22 8388607 (by kernel_rfl) rfl rfl rfl rfl rfl (List.Sublist.refl _) (y_rowElem1 (i := 1) rfl rfl one_106 rfl (map_get hx)) ?_
   refine DX.takeW 23 16777215 (by kernel_rfl) rfl rfl rfl rfl rfl (yw_bvConv (a := x) UK.u8 rfl rfl Tryz.underlying106 Tryz.underlying5) ?_
   refine DX.step 24 33554431 (by kernel_rfl) rfl rfl rfl (op_buildSlice rfl rfl rfl slb_54 rfl rfl (by intro v hv; simp only [List.mem_cons, List.not_mem_nil, or_false] at hv; rcases hv with rfl | rfl | rfl | rfl <;> exact ⟨rfl, (plain_of rfl)⟩) (by decide) fun g9 => (DXs.mk (List.Sublist.cons _ (List.Sublist.refl _)) ?_))
   refine DX.stepT 25 67108863 (by kernel_rfl) rfl rfl rfl rfl (op_appendM u8c (i := 1) (j := 0) (xs := os) ([UInt8.ofBitVec (BitVec.setWidth 8 (x >>> 24)), UInt8.ofBitVec (BitVec.setWidth 8 (x >>> 16)), UInt8.ofBitVec (BitVec.setWidth 8 (x >>> 8)), UInt8.ofBitVec (BitVec.setWidth 8 x)]) rfl rfl rfl slb_54 rfl rfl rfl rfl rfl rfl (by show os.length + 4 ≤ _; omega) (by show (os.length + 4) * 1 ≤ _; omega) fun A4 c4 => ?_)
   refine DX.takeW 26 134217727 (by kernel_rfl) rfl rfl rfl rfl rfl (yw_assign rfl rfl) ?_
   refine DX.done (by kernel_rfl) (XX.inBlock (V' := [(3, _), (6, _), (7, _)]) ⟨rfl, rfl, rfl, trivial⟩ ?_)
   refine XX.next (V' := [(3, _), (6, _), (7, _)]) ⟨rfl, rfl, rfl, trivial⟩ ?_
   refine CX.region ?_
   refine RX.cons rfl rfl (op_w (yw_move rfl rfl) rfl rfl ?_)
   refine RX.cons rfl rfl (op_w (yw_add rfl rfl rfl (by omega) (by omega)) rfl rfl ?_)
   refine RX.cons rfl rfl (op_w (yw_assign rfl rfl) rfl rfl ?_)
   refine RX.nil (XX.againP ([.row (some ⟨g9, 0, none⟩) 4 5 1 (List.map u8c ([UInt8.ofBitVec (BitVec.setWidth 8 (x >>> 24)), UInt8.ofBitVec (BitVec.setWidth 8 (x >>> 16)), UInt8.ofBitVec (BitVec.setWidth 8 (x >>> 8)), UInt8.ofBitVec (BitVec.setWidth 8 x)]))]) (p + 1, (A4, c4), os ++ [UInt8.ofBitVec (BitVec.setWidth 8 (x >>> 24)), UInt8.ofBitVec (BitVec.setWidth 8 (x >>> 16)), UInt8.ofBitVec (BitVec.setWidth 8 (x >>> 8)), UInt8.ofBitVec (BitVec.setWidth 8 x)]) (by dsimp only; omega) ⟨by dsimp only; omega, by dsimp only; rw [bytes_ref, take_succ hx, List.flatMap_append, ← hos]; simp, by dsimp only; rw [List.length_append, hol]; show 4 * p + 4 = _; omega⟩ ⟨rfl, rfl, rfl, trivial⟩ ((perm_pick 1 rfl).trans (List.Perm.cons _ ((perm_pick 1 rfl).trans (List.Perm.cons _ (List.Perm.refl _))))))
  ·have hos' : os = sumL s.data.toList := by rw [hos, List.take_of_length_le (by show 8 ≤ p; omega), ← hsum]; rfl
   refine CX.exit ?_
   refine XX.then_exit ?_
   refine XX.then_exit ?_
   refine XX.block_exit ?_
   refine XX.next (V' := [(6, _)]) ⟨rfl, trivial⟩ ?_
   refine CX.seq ?_
   refine CX.region ?_
   refine RX.cons rfl rfl (op_w (yw_move rfl rfl) rfl rfl ?_)
   refine RX.cons rfl rfl (op_yld (y_bytesRow (i := 0) (l := os) rfl rfl Tryz.underlying54 Tryz.underlying5 Tryz.underlying9 rfl (by omega)) rfl rfl ?_)
   refine RX.cons rfl rfl (op_w (yw_assign rfl rfl) rfl rfl ?_)
   refine RX.nil (XX.next (V' := [(2, .string (⟨List.toArray os⟩))]) ⟨rfl, trivial⟩ ?_)
   refine CX.ret ?_
   exact ret_tmp rfl rfl fun w1 hw => ⟨by rw [hos']; rfl, hw.sub (List.nil_sublist _)⟩

end Go.Proofs.YtnadipjlhlbfoaaGreatDoor
namespace Go.Proofs.YtnadipjlhlbfoaaGreatDoor
set_option linter.all false
open Go Go.RowKit
set_option maxRecDepth 100000
theorem ent_60 : ∀ args w, (callFunc 60 args).run Tryz.prog w = .ok (.enter 60 args) w := enters_of Tryz.func60 (by kernel_rfl) rfl
set_option maxRecDepth 100000 in
theorem w_leaf02 {w : World} (s : ByteArray) (hn : s.size ≤ 17592186044416) :
    Calls Tryz.prog 61 #[.string s] w (fun e w' => e = .returned (.string (leafH sum s)) ∧ SL w [] w' []) := by
 refine calls_of_CX (O := []) (L := []) (args := [.string s]) Tryz.func61 rfl (by simp [Tryz.ntmps61]) (SL.refl w) ?_
 refine CX.sub (V' := [(0, .string s)]) ⟨rfl, trivial⟩ ?_
 refine CX.seq ?_
 refine CX.region ?_
 refine RX.cons rfl rfl (op_w (yw_assign rfl rfl) rfl rfl ?_)
 refine RX.nil (XX.next (V' := [(0, _)]) ⟨rfl, trivial⟩ ?_)
 refine CX.seq ?_
 refine CX.region ?_
 refine RX.cons rfl rfl (op_w (yw_move rfl rfl) rfl rfl ?_)
 refine RX.cons rfl rfl (op_w (yw_stradd rfl rfl rfl (by show 1 + s.size ≤ _; omega)) rfl rfl ?_)
 refine RX.know (t := 4) (u := .string (mark 0 s)) rfl rfl ?_
 refine RX.cons rfl rfl (op_callV (v := .string (sum (mark 0 s))) rfl rfl rfl rfl rfl ent_60 (fun w hw => w_sum02 (mark 0 s) (by rw [Array.length_toList]; show (mark 0 s).size ≤ _; rw [mark_size]; omega)) ?_)
 refine RX.cons rfl rfl (op_w (yw_assign rfl rfl) rfl rfl ?_)
 refine RX.nil (XX.next (V' := [(2, .string (sum (mark 0 s)))]) ⟨rfl, trivial⟩ ?_)
 refine CX.ret ?_
 exact ret_tmp rfl rfl fun w1 hw => ⟨rfl, hw.sub (List.nil_sublist _)⟩

set_option maxRecDepth 100000 in
theorem w_node02 {w : World} (s t : ByteArray) (hn : s.size + t.size ≤ 17592186044416) :
    Calls Tryz.prog 63 #[.string s, .string t] w (fun e w' => e = .returned (.string (nodeH sum s t)) ∧ SL w [] w' []) := by
 refine calls_of_CX (O := []) (L := []) (args := [.string s, .string t]) Tryz.func63 rfl (by simp [Tryz.ntmps63]) (SL.refl w) ?_
 refine CX.sub (V' := [(0, .string s), (1, .string t)]) ⟨rfl, rfl, trivial⟩ ?_
 refine CX.seq ?_
 refine CX.region ?_
 refine RX.cons rfl rfl (op_w (yw_assign rfl rfl) rfl rfl ?_)
 refine RX.nil (XX.next (V' := [(0, _), (1, _)]) ⟨rfl, rfl, trivial⟩ ?_)
 refine CX.seq ?_
 refine CX.region ?_
 refine RX.cons rfl rfl (op_w (yw_move rfl rfl) rfl rfl ?_)
 refine RX.cons rfl rfl (op_w (yw_stradd rfl rfl rfl (by show 1 + s.size ≤ _; omega)) rfl rfl ?_)
 refine RX.cons rfl rfl (op_w (yw_move rfl rfl) rfl rfl ?_)
 refine RX.cons rfl rfl (op_w (yw_stradd rfl rfl rfl (by rw [ByteArray.size_append]; show 1 + s.size + t.size ≤ _; omega)) rfl rfl ?_)
 refine RX.know (t := 8) (u := .string (mark 1 (s ++ t))) rfl (congrArg Value.string (mark_cat 1 s t)) ?_
 refine RX.cons rfl rfl (op_callV (v := .string (sum (mark 1 (s ++ t)))) rfl rfl rfl rfl rfl ent_60 (fun w hw => w_sum02 (mark 1 (s ++ t)) (by rw [Array.length_toList]; show (mark 1 (s ++ t)).size ≤ _; rw [mark_size, ByteArray.size_append]; omega)) ?_)
 refine RX.cons rfl rfl (op_w (yw_assign rfl rfl) rfl rfl ?_)
 refine RX.nil (XX.next (V' := [(4, .string (sum (mark 1 (s ++ t))))]) ⟨rfl, trivial⟩ ?_)
 refine CX.ret ?_
 exact ret_tmp rfl rfl fun w1 hw => ⟨rfl, hw.sub (List.nil_sublist _)⟩

set_option maxRecDepth 100000 in
theorem w_chain02 {w : World} (s t : ByteArray) (hn : s.size + t.size ≤ 17592186044416) :
    Calls Tryz.prog 64 #[.string s, .string t] w (fun e w' => e = .returned (.string (chainH sum s t)) ∧ SL w [] w' []) := by
 refine calls_of_CX (O := []) (L := []) (args := [.string s, .string t]) Tryz.func64 rfl (by simp [Tryz.ntmps64]) (SL.refl w) ?_
 refine CX.sub (V' := [(0, .string s), (1, .string t)]) ⟨rfl, rfl, trivial⟩ ?_
 refine CX.seq ?_
 refine CX.region ?_
 refine RX.cons rfl rfl (op_w (yw_assign rfl rfl) rfl rfl ?_)
 refine RX.nil (XX.next (V' := [(0, _), (1, _)]) ⟨rfl, rfl, trivial⟩ ?_)
 refine CX.seq ?_
 refine CX.region ?_
 refine RX.cons rfl rfl (op_w (yw_move rfl rfl) rfl rfl ?_)
 refine RX.cons rfl rfl (op_w (yw_stradd rfl rfl rfl (by show 1 + s.size ≤ _; omega)) rfl rfl ?_)
 refine RX.cons rfl rfl (op_w (yw_move rfl rfl) rfl rfl ?_)
 refine RX.cons rfl rfl (op_w (yw_stradd rfl rfl rfl (by rw [ByteArray.size_append]; show 1 + s.size + t.size ≤ _; omega)) rfl rfl ?_)
 refine RX.know (t := 8) (u := .string (mark 2 (s ++ t))) rfl (congrArg Value.string (mark_cat 2 s t)) ?_
 refine RX.cons rfl rfl (op_callV (v := .string (sum (mark 2 (s ++ t)))) rfl rfl rfl rfl rfl ent_60 (fun w hw => w_sum02 (mark 2 (s ++ t)) (by rw [Array.length_toList]; show (mark 2 (s ++ t)).size ≤ _; rw [mark_size, ByteArray.size_append]; omega)) ?_)
 refine RX.cons rfl rfl (op_w (yw_assign rfl rfl) rfl rfl ?_)
 refine RX.nil (XX.next (V' := [(4, .string (sum (mark 2 (s ++ t))))]) ⟨rfl, trivial⟩ ?_)
 refine CX.ret ?_
 exact ret_tmp rfl rfl fun w1 hw => ⟨rfl, hw.sub (List.nil_sublist _)⟩

set_option maxRecDepth 100000 in
theorem w_left02 {w : World} (n : Nat) (h2 : 2 ≤ n) (hn : n ≤ 9223372036854775807) :
    Calls Tryz.prog 62 #[.int .i64 ((n : Nat) : Int)] w (fun e w' => e = .returned (.int .i64 ((lft n : Nat) : Int)) ∧ SL w [] w' []) := by
 refine calls_of_CX (O := []) (L := []) (args := [.int .i64 ((n : Nat) : Int)]) Tryz.func62 rfl (by simp [Tryz.ntmps62]) (SL.refl w) ?_
 refine CX.sub (V' := [(0, .int .i64 ((n : Nat) : Int))]) ⟨rfl, trivial⟩ ?_
 refine CX.seq ?_
 refine CX.region ?_
 refine RX.cons rfl rfl (op_w (yw_assign rfl rfl) rfl rfl ?_)
 refine RX.nil (XX.next (V' := [(0, _)]) ⟨rfl, trivial⟩ ?_)
 refine CX.seq ?_
 refine CX.region ?_
 refine RX.cons rfl rfl (op_w (yw_assign rfl rfl) rfl rfl ?_)
 refine RX.nil (XX.next (V' := [(0, _), (3, _)]) ⟨rfl, rfl, trivial⟩ ?_)
 refine CX.seq ?_
 refine CX.block ?_
 refine CX.loop (σ := Nat) (fun m => [(0, .int .i64 ((n : Nat) : Int)), (3, .int .i64 ((m : Nat) : Int))]) (fun m => []) (fun m => (∃ j, m = 2 ^ j) ∧ m < n) (fun m => n - m) 1 ⟨⟨0, rfl⟩, by omega⟩ ⟨rfl, rfl, trivial⟩ rfl (fun m hI => ?_)
 obtain ⟨hj, hm⟩ := hI
 have hp : 0 < m := by obtain ⟨j, rfl⟩ := hj; exact Nat.two_pow_pos j
 refine CX.seq ?_
 refine CX.seq ?_
 refine CX.region ?_
 refine RX.cons rfl rfl (op_w (yw_move rfl rfl) rfl rfl ?_)
 refine RX.cons rfl rfl (op_w (yw_move rfl rfl) rfl rfl ?_)
 refine RX.cons rfl rfl (op_w (yw_move rfl rfl) rfl rfl ?_)
 refine RX.cons rfl rfl (op_w (yw_sub rfl rfl rfl (by omega) (by omega)) rfl rfl ?_)
 refine RX.cons rfl rfl (op_w (yw_lss rfl rfl rfl) rfl rfl ?_)
 refine RX.nil (XX.next (V' := [(0, _), (3, _), (8, _)]) ⟨rfl, rfl, rfl, trivial⟩ ?_)
 refine CX.condD (p := ((m : Nat) : Int) < ((n : Nat) : Int) - ((m : Nat) : Int)) rfl (fun c8 => ?_) (fun c8 => ?_)
 ·refine CX.skip (XX.next (V' := [(0, _), (3, _)]) ⟨rfl, rfl, trivial⟩ ?_)
  refine CX.block ?_
  refine CX.region ?_
  refine RX.cons rfl rfl (op_w (yw_move rfl rfl) rfl rfl ?_)
  refine RX.cons rfl rfl (op_w (yw_mul rfl rfl rfl (by omega) (by omega)) rfl rfl ?_)
  refine RX.know (t := 10) (u := .int .i64 ((2 * m : Nat) : Int)) rfl (congrArg (Value.int .i64) (by omega)) ?_
  refine RX.cons rfl rfl (op_w (yw_assign rfl rfl) rfl rfl ?_)
  refine RX.nil (XX.inBlock (V' := [(0, _), (3, _)]) ⟨rfl, rfl, trivial⟩ ?_)
  refine XX.againP ([]) (2 * m) (by omega) ⟨by obtain ⟨j, rfl⟩ := hj; exact ⟨j + 1, by rw [Nat.pow_succ, Nat.mul_comm]⟩, by omega⟩ ⟨rfl, rfl, trivial⟩ (List.Perm.refl _)
 ·refine CX.exit ?_
  refine XX.then_exit ?_
  refine XX.then_exit ?_
  refine XX.block_exit ?_
  refine XX.next (V' := [(3, _)]) ⟨rfl, trivial⟩ ?_
  refine CX.seq ?_
  refine CX.region ?_
  refine RX.cons rfl rfl (op_w (yw_move rfl rfl) rfl rfl ?_)
  refine RX.cons rfl rfl (op_w (yw_assign rfl rfl) rfl rfl ?_)
  refine RX.nil (XX.next (V' := [(2, .int .i64 ((m : Nat) : Int))]) ⟨rfl, trivial⟩ ?_)
  refine CX.ret ?_
  exact ret_tmp rfl rfl fun w1 hw => ⟨by obtain ⟨j, rfl⟩ := hj; rw [lft_eq hm (by omega)], hw.sub (List.nil_sublist _)⟩

end Go.Proofs.YtnadipjlhlbfoaaGreatDoor
namespace Go.Proofs.YtnadipjlhlbfoaaGreatDoor
set_option linter.all false
open Go Go.RowKit
set_option maxRecDepth 100000
theorem ent_61 : ∀ args w, (callFunc 61 args).run Tryz.prog w = .ok (.enter 61 args) w := enters_of Tryz.func61 (by kernel_rfl) rfl
theorem ent_62 : ∀ args w, (callFunc 62 args).run Tryz.prog w = .ok (.enter 62 args) w := enters_of Tryz.func62 (by kernel_rfl) rfl
theorem ent_29 : ∀ args w, (callFunc 29 args).run Tryz.prog w = .ok (.enter 29 args) w := enters_of Tryz.func29 (by kernel_rfl) rfl
theorem ent_63 : ∀ args w, (callFunc 63 args).run Tryz.prog w = .ok (.enter 63 args) w := enters_of Tryz.func63 (by kernel_rfl) rfl
set_option maxRecDepth 100000 in
theorem w_root02s {w : World} {A : Option Addr} {cap : Nat} (xs : List ByteArray) (hr : Rd w A 1 (xs.map strC)) (hcap : xs.length ≤ cap) (hl : xs.length ≤ 1000000) (hsz : ∀ s ∈ xs, s.size ≤ 4294967296) (ih : ∀ (ys : List ByteArray) (w : World) (A : Option Addr) (cap : Nat), ys.length < xs.length → Rd w A 1 (ys.map strC) → ys.length ≤ cap → ys.length ≤ 1000000 → (∀ s ∈ ys, s.size ≤ 4294967296) → Calls Tryz.prog 29 #[.slice A ys.length cap] w (fun e w' => e = .returned (.string (root sum ys)) ∧ SL w [] w' [])) :
    Calls Tryz.prog 29 #[.slice A xs.length cap] w (fun e w' => e = .returned (.string (root sum xs)) ∧ SL w [] w' []) := by
 refine calls_of_CX (O := []) (L := []) (args := [.slice A xs.length cap]) Tryz.func29 rfl (by simp [Tryz.ntmps29]) (SL.refl w) ?_
 refine CX.sub (V' := [(0, .slice A xs.length cap)]) ⟨rfl, trivial⟩ ?_
 refine CX.seq ?_
 refine CX.region ?_
 refine RX.cons rfl rfl (op_w (yw_assign rfl rfl) rfl rfl ?_)
 refine RX.nil (XX.next (V' := [(0, _)]) ⟨rfl, trivial⟩ ?_)
 refine CX.seq ?_
 refine CX.seq ?_
 refine CX.region ?_
 refine RX.cons rfl rfl (op_w (yw_move rfl rfl) rfl rfl ?_)
 refine RX.cons rfl rfl (op_w (yw_lenS rfl Tryz.underlying26 rfl) rfl rfl ?_)
 refine RX.cons rfl rfl (op_w (yw_eql rfl rfl rfl) rfl rfl ?_)
 refine RX.nil (XX.next (V' := [(0, _), (6, _)]) ⟨rfl, rfl, trivial⟩ ?_)
 refine CX.condD (p := ((xs.length : Nat) : Int) = 0) rfl (fun c6 => ?_) (fun c6 => ?_)
 ·refine CX.seq ?_
  refine CX.region ?_
  refine RX.cons rfl rfl (op_callV (v := .string (sum .empty)) rfl rfl rfl rfl rfl ent_60 (fun w hw => w_sum02 .empty (by decide)) ?_)
  refine RX.cons rfl rfl (op_w (yw_assign rfl rfl) rfl rfl ?_)
  refine RX.nil (XX.next (V' := [(2, .string (sum .empty))]) ⟨rfl, trivial⟩ ?_)
  refine CX.ret ?_
  refine XX.then_ret ?_
  exact ret_tmp rfl rfl fun w1 hw => ⟨by rw [List.eq_nil_of_length_eq_zero (l := xs) (by omega)]; rfl, hw.sub (List.nil_sublist _)⟩
 ·refine CX.skip (XX.next (V' := [(0, _)]) ⟨rfl, trivial⟩ ?_)
  refine CX.seq ?_
  refine CX.seq ?_
  refine CX.region ?_
  refine RX.cons rfl rfl (op_w (yw_move rfl rfl) rfl rfl ?_)
  refine RX.cons rfl rfl (op_w (yw_lenS rfl Tryz.underlying26 rfl) rfl rfl ?_)
  refine RX.cons rfl rfl (op_w (yw_eql rfl rfl rfl) rfl rfl ?_)
  refine RX.nil (XX.next (V' := [(0, _), (10, _)]) ⟨rfl, rfl, trivial⟩ ?_)
  refine CX.condD (p := ((xs.length : Nat) : Int) = 1) rfl (fun c10 => ?_) (fun c10 => ?_)
  ·obtain ⟨s0, hx1⟩ : ∃ s0, xs = [s0] := List.length_eq_one_iff.1 (by omega)
   have hs0 : xs[0]? = some s0 := by rw [hx1]; rfl
   have hs0z := hsz s0 (List.mem_of_getElem? hs0)
   refine CX.seq ?_
   refine CX.region ?_
   refine RX.cons rfl rfl (op_w (yw_move rfl rfl) rfl rfl ?_)
   refine RX.cons rfl rfl (op_w (yw_index (k := 0) rfl slt_26 rfl rfl rfl (by omega) (hr.some (k := 0) (by simp; omega))) rfl rfl ?_)
   refine RX.cons rfl rfl (op_yld (y_elem1 rfl rfl one_9 hr (by simp) (map_get hs0)) rfl rfl ?_)
   refine RX.cons rfl rfl (op_callV (v := .string (leafH sum s0)) rfl rfl rfl rfl rfl ent_61 (fun w hw => w_leaf02 s0 (by omega)) ?_)
   refine RX.cons rfl rfl (op_w (yw_assign rfl rfl) rfl rfl ?_)
   refine RX.nil (XX.next (V' := [(2, .string (leafH sum s0))]) ⟨rfl, trivial⟩ ?_)
   refine CX.ret ?_
   refine XX.then_ret ?_
   exact ret_tmp rfl rfl fun w1 hw => ⟨by rw [hx1]; rfl, hw.sub (List.nil_sublist _)⟩
  ·refine CX.skip (XX.next (V' := [(0, _)]) ⟨rfl, trivial⟩ ?_)
   refine CX.seq ?_
   have hq1 := lft_pos xs.length
   have hq2 := lft_lt (n := xs.length) (by omega)
   have htl : (List.take (lft xs.length) xs).length = lft xs.length := by simp; omega
   have hdl : (List.drop (lft xs.length) xs).length = xs.length - lft xs.length := by simp
   obtain ⟨b0, q0, hA'⟩ := hr.some (k := 0) (by simp; omega)
   refine CX.region ?_
   refine RX.cons rfl rfl (op_w (yw_move rfl rfl) rfl rfl ?_)
   refine RX.cons rfl rfl (op_w (yw_lenS rfl Tryz.underlying26 rfl) rfl rfl ?_)
   refine RX.cons rfl rfl (op_callV (v := .int .i64 ((lft xs.length : Nat) : Int)) rfl rfl rfl rfl rfl ent_62 (fun w hw => w_left02 xs.length (by omega) (by omega)) ?_)
   refine RX.cons rfl rfl (op_w (yw_assign rfl rfl) rfl rfl ?_)
   refine RX.nil (XX.next (V' := [(0, _), (3, _)]) ⟨rfl, rfl, trivial⟩ ?_)
   refine CX.seq ?_
   refine CX.draw 10 [(0, 1, 262144), (0, 8, 524288), (3, 786432, 1048576), (4, 1048576, 2097152), (0, 1, 4194304), (0, 8, 8388608), (48, 12582912, 16777216), (72, 16777216, 33554432), (136, 35651584, 67108864), (511, 67108864, 4)] (by kernel_rfl) (by kernel_rfl) (by kernel_rfl) ?_
   refine DX.takeW 0 1 (by kernel_rfl) rfl rfl rfl rfl rfl (yw_move rfl rfl) ?_
   refine DX.takeW 1 3 (by kernel_rfl) rfl rfl rfl rfl rfl (yw_move rfl rfl) ?_
   refine DX.takeW 2 7 (by kernel_rfl) rfl rfl rfl rfl rfl (yw_sliceTo (k := (lft xs.length)) rfl slt_26 rfl rfl (by omega) (by omega)) ?_
   refine DX.know (t := 20) (u := .slice A ((List.take (lft xs.length) xs).length) cap) rfl (congrArg (fun n => Value.slice A n cap) htl.symm) ?_
   refine DX.takeW 4 23 (by kernel_rfl) rfl rfl rfl rfl rfl (yw_move rfl rfl) ?_
   refine DX.takeW 5 55 (by kernel_rfl) rfl rfl rfl rfl rfl (yw_move rfl rfl) ?_
   refine DX.takeW 6 119 (by kernel_rfl) rfl rfl rfl rfl rfl (yw_sliceFromS (k := (lft xs.length)) hA' rfl slt_26 rfl rfl (by omega) (by omega) (by omega) (by omega)) ?_
   refine DX.know (t := 24) (u := .slice (some ⟨b0, q0 + (lft xs.length) * 1, none⟩) ((List.drop (lft xs.length) xs).length) (cap - (lft xs.length))) rfl (congrArg (fun n => Value.slice (some ⟨b0, q0 + (lft xs.length) * 1, none⟩) n (cap - (lft xs.length))) hdl.symm) ?_
   refine DX.step 3 127 (by kernel_rfl) rfl rfl rfl (op_callV (v := .string (root sum (List.take (lft xs.length) xs))) rfl rfl rfl rfl rfl ent_29 (fun w hw => ih (List.take (lft xs.length) xs) w _ _ (by rw [htl]; exact hq2) (hw.rd (hr.takeM (lft xs.length)) (by simp)) (by omega) (by omega) (fun s hs => hsz s (List.mem_of_mem_take hs))) (DXs.mk (List.nil_sublist _) ?_))
   refine DX.step 7 255 (by kernel_rfl) rfl rfl rfl (op_callV (v := .string (root sum (List.drop (lft xs.length) xs))) rfl rfl rfl rfl rfl ent_29 (fun w hw => ih (List.drop (lft xs.length) xs) w _ _ (by rw [hdl]; omega) (hw.rd (hr.dropM hA' (lft xs.length)) (by simp)) (by omega) (by omega) (fun s hs => hsz s (List.mem_of_mem_drop hs))) (DXs.mk (List.nil_sublist _) ?_))
   refine DX.step 8 511 (by kernel_rfl) rfl rfl rfl (op_callV (v := .string (nodeH sum (root sum (List.take (lft xs.length) xs)) (root sum (List.drop (lft xs.length) xs)))) rfl rfl rfl rfl rfl ent_63 (fun w hw => w_node02 (root sum (List.take (lft xs.length) xs)) (root sum (List.drop (lft xs.length) xs)) (by rw [root_size sum sum_size, root_size sum sum_size]; decide)) (DXs.mk (List.nil_sublist _) ?_))
   refine DX.takeW 9 1023 (by kernel_rfl) rfl rfl rfl rfl rfl (yw_assign rfl rfl) ?_
   refine DX.done (by kernel_rfl) (XX.next (V' := [(2, .string (nodeH sum (root sum (List.take (lft xs.length) xs)) (root sum (List.drop (lft xs.length) xs))))]) ⟨rfl, trivial⟩ ?_)
   refine CX.ret ?_
   exact ret_tmp rfl rfl fun w1 hw => ⟨by rw [root_two sum (l := xs) (by omega)], hw.sub (List.nil_sublist _)⟩

theorem w_root02 {w : World} {A : Option Addr} {cap : Nat} (xs : List ByteArray) (hr : Rd w A 1 (xs.map strC)) (hcap : xs.length ≤ cap) (hl : xs.length ≤ 1000000) (hsz : ∀ s ∈ xs, s.size ≤ 4294967296) : Calls Tryz.prog 29 #[.slice A xs.length cap] w (fun e w' => e = .returned (.string (root sum xs)) ∧ SL w [] w' []) := by
  have H : ∀ (N : Nat) (xs : List ByteArray) (w : World) (A : Option Addr) (cap : Nat), xs.length ≤ N → Rd w A 1 (xs.map strC) → xs.length ≤ cap → xs.length ≤ 1000000 → (∀ s ∈ xs, s.size ≤ 4294967296) → Calls Tryz.prog 29 #[.slice A xs.length cap] w (fun e w' => e = .returned (.string (root sum xs)) ∧ SL w [] w' []) := by
    intro N
    induction N with
    | zero => exact fun xs w A cap hN hr hcap hl hsz => w_root02s xs hr hcap hl hsz (fun ys w A cap h => by omega)
    | succ N ih => exact fun xs w A cap hN hr hcap hl hsz => w_root02s xs hr hcap hl hsz (fun ys w A cap h => ih ys w A cap (by omega))
  exact H xs.length xs w A cap (Nat.le_refl _) hr hcap hl hsz
end Go.Proofs.YtnadipjlhlbfoaaGreatDoor
namespace Go.Proofs.YtnadipjlhlbfoaaGreatDoor
set_option linter.all false
open Go Go.RowKit
set_option maxRecDepth 100000
theorem ent_64 : ∀ args w, (callFunc 64 args).run Tryz.prog w = .ok (.enter 64 args) w := enters_of Tryz.func64 (by kernel_rfl) rfl
set_option maxRecDepth 100000 in
theorem w_entries24 {w : World} {A : Option Addr} {cap : Nat} (X : List SX) (hr : Rd w A 3 (X.map stC)) (hX : ∀ x ∈ X, Rd w x.1.1 3 (x.2.ls.map lnC)) (hXl : ∀ x ∈ X, x.2.ls.length ≤ 1000000) (hl : X.length ≤ 1000000) (hok : ∀ x ∈ X, okS x.2 = true) :
    Calls Tryz.prog 30 #[.slice A X.length cap] w (fun e w' => ∃ z : Option Addr × Nat, True ∧ e = .returned (.slice z.1 (entsX X).length z.2) ∧ SL w [] w' [.row z.1 z.2 9 1 (List.map strC (entsX X))]) := by
 refine calls_of_CX (O := []) (L := []) (args := [.slice A X.length cap]) Tryz.func30 rfl (by simp [Tryz.ntmps30]) (SL.refl w) ?_
 refine CX.sub (V' := [(0, .slice A X.length cap)]) ⟨rfl, trivial⟩ ?_
 refine CX.seq ?_
 refine CX.region ?_
 refine RX.cons rfl rfl (op_w (yw_assign rfl rfl) rfl rfl ?_)
 refine RX.nil (XX.next (V' := [(0, _)]) ⟨rfl, trivial⟩ ?_)
 refine CX.seq ?_
 refine CX.region ?_
 refine RX.cons rfl rfl (op_w (yw_assign rfl rfl) rfl rfl ?_)
 refine RX.nil (XX.next (V' := [(0, _), (3, _)]) ⟨rfl, rfl, trivial⟩ ?_)
 refine CX.seq ?_
 refine CX.region ?_
 refine RX.cons rfl rfl (op_makeSlice (m := 32) rfl rfl rfl slb_54 rfl rfl rfl rfl (plain_of rfl) (by decide) (by decide) fun gz => ?_)
 refine RX.know1 0 (q := .row (some ⟨gz, 0, none⟩) 32 5 1 (List.map u8c (List.replicate 32 (0 : UInt8)))) rfl (congrArg (Ent.row (some ⟨gz, 0, none⟩) 32 5 1) zero32_cells) ?_
 refine RX.cons rfl rfl (op_yld (y_bytesRow (i := 0) (l := (List.replicate 32 (0 : UInt8))) rfl rfl Tryz.underlying54 Tryz.underlying5 Tryz.underlying9 rfl (by decide)) rfl rfl ?_)
 refine RX.know (t := 9) (u := .string zero32) rfl rfl ?_
 refine RX.cons rfl rfl (op_w (yw_assign rfl rfl) rfl rfl ?_)
 refine RX.nil (XX.next (V' := [(0, _), (3, _), (4, _)]) ⟨rfl, rfl, rfl, trivial⟩ ?_)
 refine CX.seq ?_
 refine CX.seq ?_
 refine CX.region ?_
 refine RX.cons rfl rfl (op_w (yw_assign rfl rfl) rfl rfl ?_)
 refine RX.nil (XX.next (V' := [(0, _), (3, _), (4, _), (5, _)]) ⟨rfl, rfl, rfl, rfl, trivial⟩ ?_)
 refine CX.block ?_
 refine CX.drop (L' := []) (List.nil_sublist _) ?_
 refine CX.rowNil 9 1 ?_
 refine CX.loop (σ := Nat × (Option Addr × Nat) × List ByteArray × ByteArray) (fun z => [(0, .slice A X.length cap), (3, .slice z.2.1.1 (List.length (z.2.2.1 : List ByteArray)) z.2.1.2), (4, .string z.2.2.2), (5, .int .i64 ((z.1 : Nat) : Int))]) (fun z => [.row z.2.1.1 z.2.1.2 9 1 (List.map strC z.2.2.1)]) (fun z => z.1 ≤ X.length ∧ z.2.2.1 = (entsF zero32 ((encsX X).take z.1)) ∧ z.2.2.2 = headF zero32 ((encsX X).take z.1) ∧ z.2.2.2.size = 32 ∧ z.2.2.1.length = z.1) (fun z => X.length - z.1) (0, (none, 0), [], zero32) ⟨Nat.zero_le _, rfl, rfl, rfl, rfl⟩ ⟨rfl, rfl, rfl, rfl, trivial⟩ rfl (fun z hI => ?_)
 obtain ⟨i, ⟨A1, c1⟩, es, hd⟩ := z
 dsimp only at hI ⊢
 obtain ⟨hi, hes, hhd, hds, hel⟩ := hI
 refine CX.seq ?_
 refine CX.seq ?_
 refine CX.region ?_
 refine RX.cons rfl rfl (op_w (yw_move rfl rfl) rfl rfl ?_)
 refine RX.cons rfl rfl (op_w (yw_move rfl rfl) rfl rfl ?_)
 refine RX.cons rfl rfl (op_w (yw_lenS rfl Tryz.underlying33 rfl) rfl rfl ?_)
 refine RX.cons rfl rfl (op_w (yw_lss rfl rfl rfl) rfl rfl ?_)
 refine RX.nil (XX.next (V' := [(0, _), (3, _), (4, _), (5, _), (13, _)]) ⟨rfl, rfl, rfl, rfl, rfl, trivial⟩ ?_)
 refine CX.condD (p := ((i : Nat) : Int) < ((X.length : Nat) : Int)) rfl (fun c13 => ?_) (fun c13 => ?_)
 ·obtain ⟨x0, hx0⟩ := get_some (l := X) (k := i) (by omega)
  have hx0m := List.mem_of_getElem? hx0
  have hA : ∃ b j, A = some ⟨b, j, none⟩ := hr.some (k := 0) (by simp; omega)
  have hez := encS_size x0.2
  have hez2 := hXl x0 hx0m
  have hxe : (encsX X)[i]? = some (encS x0.2) := map_get (f := fun x : SX => encS x.2) hx0
  refine CX.skip (XX.next (V' := [(0, _), (3, _), (4, _), (5, _)]) ⟨rfl, rfl, rfl, rfl, trivial⟩ ?_)
  refine CX.seq ?_
  refine CX.block ?_
  refine CX.seq ?_
  refine CX.region ?_
  refine RX.cons rfl rfl (op_w (yw_move rfl rfl) rfl rfl ?_)
  refine RX.cons rfl rfl (op_w (yw_move rfl rfl) rfl rfl ?_)
  refine RX.cons rfl rfl (op_w (yw_index (k := i) rfl slt_33 rfl rfl (by omega) (by omega) hA) rfl rfl ?_)
  refine RX.cons rfl rfl (op_yld (y_elem rfl rfl agg_25 hr (by simp) (map_get hx0)) rfl rfl ?_)
  refine RX.cons rfl rfl (op_callV (v := .tuple #[.string (encS x0.2), .int .i64 0]) rfl rfl rfl rfl rfl ent_27 (fun w hw => by have h := w_encode19 (cap := x0.1.2) x0.2 (hw.rd (hX x0 hx0m) (by simp)) (hXl x0 hx0m); rw [encR_ok (hok x0 hx0m)] at h; exact h) ?_)
  refine RX.cons rfl rfl (op_w (yw_move rfl rfl) rfl rfl ?_)
  refine RX.cons rfl rfl (op_w (yw_extract rfl rfl rfl) rfl rfl ?_)
  refine RX.cons rfl rfl (op_w (yw_extract rfl rfl rfl) rfl rfl ?_)
  refine RX.cons rfl rfl (op_w (yw_assign rfl rfl) rfl rfl ?_)
  refine RX.cons rfl rfl (op_w (yw_assign rfl rfl) rfl rfl ?_)
  refine RX.nil (XX.next (V' := [(0, _), (3, _), (4, _), (5, _), (6, _)]) ⟨rfl, rfl, rfl, rfl, rfl, trivial⟩ ?_)
  refine CX.seq ?_
  refine CX.region ?_
  refine RX.cons rfl rfl (op_w (yw_move rfl rfl) rfl rfl ?_)
  refine RX.cons rfl rfl (op_w (yw_move rfl rfl) rfl rfl ?_)
  refine RX.cons rfl rfl (op_callV (v := .string (chainH sum hd (encS x0.2))) rfl rfl rfl rfl rfl ent_64 (fun w hw => w_chain02 hd (encS x0.2) (by omega)) ?_)
  refine RX.cons rfl rfl (op_w (yw_assign rfl rfl) rfl rfl ?_)
  refine RX.nil (XX.next (V' := [(0, _), (3, _), (4, _), (5, _), (6, _)]) ⟨rfl, rfl, rfl, rfl, rfl, trivial⟩ ?_)
  refine CX.region ?_
  refine RX.cons rfl rfl (op_w (yw_move rfl rfl) rfl rfl ?_)
  refine RX.cons rfl rfl (op_w (yw_move rfl rfl) rfl rfl ?_)
  refine RX.cons rfl rfl (op_w (yw_stradd rfl rfl rfl (by rw [show (chainH sum hd (encS x0.2)).size = 32 from sum_size _]; decide)) rfl rfl ?_)
  refine RX.know (t := 29) (u := .string (saltB ++ chainH sum hd (encS x0.2))) rfl rfl ?_
  refine RX.cons rfl rfl (op_callV (v := .string (sum (saltB ++ chainH sum hd (encS x0.2)))) rfl rfl rfl rfl rfl ent_60 (fun w hw => w_sum02 (saltB ++ chainH sum hd (encS x0.2)) (by rw [Array.length_toList]; show (saltB ++ chainH sum hd (encS x0.2)).size ≤ _; rw [ByteArray.size_append, show (chainH sum hd (encS x0.2)).size = 32 from sum_size _]; decide)) ?_)
  refine RX.cons rfl rfl (op_w (yw_move rfl rfl) rfl rfl ?_)
  refine RX.cons rfl rfl (op_w (yw_stradd rfl rfl rfl (by rw [sum_size]; omega)) rfl rfl ?_)
  refine RX.cons rfl rfl (op_buildSlice rfl rfl rfl slb_26 rfl rfl (by intro v hv; simp only [List.mem_cons, List.not_mem_nil, or_false] at hv; subst hv; exact ⟨rfl, (plain_of rfl)⟩) (by decide) fun g9 => ?_)
  refine RX.cons rfl rfl (op_appendM strC (i := 1) (j := 0) (xs := es) ([entB (chainH sum hd (encS x0.2)) (encS x0.2)]) rfl rfl rfl slb_26 rfl rfl rfl rfl rfl rfl (by simp only [List.length_singleton]; omega) (by simp only [List.length_singleton]; omega) fun A2 c2 => ?_)
  refine RX.cons rfl rfl (op_w (yw_assign rfl rfl) rfl rfl ?_)
  refine RX.nil (XX.inBlock (V' := [(0, _), (3, _), (4, _), (5, _)]) ⟨rfl, rfl, rfl, rfl, trivial⟩ ?_)
  refine XX.next (V' := [(0, _), (3, _), (4, _), (5, _)]) ⟨rfl, rfl, rfl, rfl, trivial⟩ ?_
  refine CX.region ?_
  refine RX.cons rfl rfl (op_w (yw_move rfl rfl) rfl rfl ?_)
  refine RX.cons rfl rfl (op_w (yw_add rfl rfl rfl (by omega) (by omega)) rfl rfl ?_)
  refine RX.cons rfl rfl (op_w (yw_assign rfl rfl) rfl rfl ?_)
  refine RX.nil (XX.againP ([.row (some ⟨g9, 0, none⟩) 1 9 1 (List.map strC ([entB (chainH sum hd (encS x0.2)) (encS x0.2)]))]) (i + 1, (A2, c2), es ++ [entB (chainH sum hd (encS x0.2)) (encS x0.2)], chainH sum hd (encS x0.2)) (by dsimp only; omega) ⟨by dsimp only; omega, by dsimp only; rw [take_succ hxe, entsF_snoc, ← hes, ← hhd], by dsimp only; rw [take_succ hxe, headF_snoc, ← hhd], sum_size _, by dsimp only; rw [List.length_append, List.length_singleton, hel]⟩ ⟨rfl, rfl, rfl, rfl, trivial⟩ ((perm_pick 1 rfl).trans (List.Perm.cons _ (List.Perm.refl _))))
 ·have hes' : es = entsX X := by rw [hes, List.take_of_length_le (by rw [encsX, List.length_map]; omega)]; rfl
  refine CX.exit ?_
  refine XX.then_exit ?_
  refine XX.then_exit ?_
  refine XX.block_exit ?_
  refine XX.next (V' := [(3, _)]) ⟨rfl, trivial⟩ ?_
  refine CX.seq ?_
  refine CX.region ?_
  refine RX.cons rfl rfl (op_w (yw_move rfl rfl) rfl rfl ?_)
  refine RX.cons rfl rfl (op_w (yw_assign rfl rfl) rfl rfl ?_)
  refine RX.nil (XX.next (V' := [(2, .slice A1 (List.length (es : List ByteArray)) c1)]) ⟨rfl, trivial⟩ ?_)
  refine CX.ret ?_
  exact ret_tmp rfl rfl fun w1 hw => ⟨(A1, c1), trivial, by rw [← hes'], by rw [← hes']; exact hw.pick ((perm_pick 0 rfl).trans (List.Perm.cons _ (List.Perm.refl _)))⟩

end Go.Proofs.YtnadipjlhlbfoaaGreatDoor
namespace Go.Proofs.YtnadipjlhlbfoaaGreatDoor
set_option linter.all false
open Go Go.RowKit
set_option maxRecDepth 100000
/-- What Verify answers for any integers. -/
def verZ (root : ByteArray) (n i : Int) (s : ByteArray) (p : List ByteArray) : Bool := decide (0 ≤ i ∧ i < n) && verN root n.toNat i.toNat s p
theorem verZ_in {root s : ByteArray} {n i : Nat} {p : List ByteArray} (h : i < n) : verZ root (n : Int) (i : Int) s p = verN root n i s p := by
  rw [verZ, decide_eq_true (by omega), Bool.true_and]; rfl
theorem verZ_out {root s : ByteArray} {n i : Int} {p : List ByteArray} (h : i < 0 ∨ n ≤ i) : verZ root n i s p = false := by
  rw [verZ, decide_eq_false (by omega), Bool.false_and]
set_option maxRecDepth 100000 in
theorem w_verifyOut {w : World} {A : Option Addr} {cap m : Nat} (root : ByteArray) (n i : Int) (s : ByteArray) (hi : i < 0 ∨ n ≤ i) :
    Calls Tryz.prog 39 #[.string root, .int .i64 n, .int .i64 i, .string s, .slice A m cap] w (fun e w' => e = .returned (.bool false) ∧ SL w [] w' []) := by
 refine calls_of_CX (O := []) (L := []) (args := [.string root, .int .i64 n, .int .i64 i, .string s, .slice A m cap]) Tryz.func39 rfl (by simp [Tryz.ntmps39]) (SL.refl w) ?_
 refine CX.sub (V' := [(0, .string root), (1, .int .i64 n), (2, .int .i64 i), (3, .string s), (4, .slice A m cap)]) ⟨rfl, rfl, rfl, rfl, rfl, trivial⟩ ?_
 refine CX.seq ?_
 refine CX.region ?_
 refine RX.cons rfl rfl (op_w (yw_assign rfl rfl) rfl rfl ?_)
 refine RX.nil (XX.next (V' := [(0, _), (1, _), (2, _), (3, _), (4, _), (10, .bool false)]) ⟨rfl, rfl, rfl, rfl, rfl, rfl, trivial⟩ ?_)
 refine CX.seq ?_
 refine CX.seq ?_
 refine CX.region ?_
 refine RX.cons rfl rfl (op_w (yw_move rfl rfl) rfl rfl ?_)
 refine RX.cons rfl rfl (op_w (yw_lss rfl rfl rfl) rfl rfl ?_)
 refine RX.cons rfl rfl (op_w (yw_move rfl rfl) rfl rfl ?_)
 refine RX.splitD (t := 21) (p := i < 0) rfl (fun d21 => ?_) (fun d21 => ?_)
 ·refine RX.skip rfl rfl rfl rfl rfl rfl rfl ?_
  refine RX.skip rfl rfl rfl rfl rfl rfl rfl ?_
  refine RX.skip rfl rfl rfl rfl rfl rfl rfl ?_
  refine RX.cons rfl rfl (op_w (yw_pickT rfl rfl rfl) rfl rfl ?_)
  refine RX.cons rfl rfl (op_w (yw_move rfl rfl) rfl rfl ?_)
  refine RX.skip rfl rfl rfl rfl rfl rfl rfl ?_
  refine RX.skip rfl rfl rfl rfl rfl rfl rfl ?_
  refine RX.skip rfl rfl rfl rfl rfl rfl rfl ?_
  refine RX.cons rfl rfl (op_w (yw_pickT rfl rfl rfl) rfl rfl ?_)
  refine RX.nil (XX.next (V' := [(0, _), (1, _), (2, _), (3, _), (4, _), (10, .bool false), (19, _), (20, _), (21, _), (22, _), (23, _), (24, _), (25, _), (26, _), (27, _), (28, _), (29, _), (30, _)]) ⟨rfl, rfl, rfl, rfl, rfl, rfl, rfl, rfl, rfl, rfl, rfl, rfl, rfl, rfl, rfl, rfl, rfl, rfl, trivial⟩ ?_)
  refine CX.condT rfl ?_
  refine CX.seq ?_
  refine CX.region ?_
  refine RX.cons rfl rfl (op_w (yw_assign rfl rfl) rfl rfl ?_)
  refine RX.nil (XX.next (V' := [(10, .bool false)]) ⟨rfl, trivial⟩ ?_)
  refine CX.ret ?_
  refine XX.then_ret ?_
  exact ret_tmp rfl rfl fun w1 hw => ⟨rfl, hw.sub (List.nil_sublist _)⟩
 ·refine RX.consG rfl rfl rfl rfl rfl (op_w (yw_move rfl rfl) rfl rfl ?_)
  refine RX.consG rfl rfl rfl rfl rfl (op_w (yw_move rfl rfl) rfl rfl ?_)
  refine RX.consG rfl rfl rfl rfl rfl (op_w (yw_geq rfl rfl rfl) rfl rfl ?_)
  refine RX.cons rfl rfl (op_w (yw_pickF rfl rfl rfl) rfl rfl ?_)
  refine RX.cons rfl rfl (op_w (yw_move rfl rfl) rfl rfl ?_)
  refine RX.splitD (t := 26) (p := n ≤ i) rfl (fun d26 => ?_) (fun d26 => ?_)
  ·refine RX.skip rfl rfl rfl rfl rfl rfl rfl ?_
   refine RX.skip rfl rfl rfl rfl rfl rfl rfl ?_
   refine RX.skip rfl rfl rfl rfl rfl rfl rfl ?_
   refine RX.cons rfl rfl (op_w (yw_pickT rfl rfl rfl) rfl rfl ?_)
   refine RX.nil (XX.next (V' := [(0, _), (1, _), (2, _), (3, _), (4, _), (10, .bool false), (19, _), (20, _), (21, _), (22, _), (23, _), (24, _), (25, _), (26, _), (27, _), (28, _), (29, _), (30, _)]) ⟨rfl, rfl, rfl, rfl, rfl, rfl, rfl, rfl, rfl, rfl, rfl, rfl, rfl, rfl, rfl, rfl, rfl, rfl, trivial⟩ ?_)
   refine CX.condT rfl ?_
   refine CX.seq ?_
   refine CX.region ?_
   refine RX.cons rfl rfl (op_w (yw_assign rfl rfl) rfl rfl ?_)
   refine RX.nil (XX.next (V' := [(10, .bool false)]) ⟨rfl, trivial⟩ ?_)
   refine CX.ret ?_
   refine XX.then_ret ?_
   exact ret_tmp rfl rfl fun w1 hw => ⟨rfl, hw.sub (List.nil_sublist _)⟩
  ·exfalso; omega

theorem w_verifyZ {w : World} {A : Option Addr} {cap : Nat} (root : ByteArray) (n i : Int) (s : ByteArray) (p : List ByteArray) (hG : Rounds w) (hr : Rd w A 1 (p.map strC)) (hcap : p.length ≤ cap) (hl : p.length ≤ 1099511627776) (hs : s.size ≤ 4294967296) (hn : n ≤ 9223372036854775807) : Calls Tryz.prog 39 #[.string root, .int .i64 n, .int .i64 i, .string s, .slice A p.length cap] w (fun e w' => e = .returned (.bool (verZ root n i s p)) ∧ SL w [] w' []) := by
  by_cases h : 0 ≤ i ∧ i < n
  · obtain ⟨n', rfl⟩ := Int.eq_ofNat_of_zero_le (show 0 ≤ n by omega)
    obtain ⟨i', rfl⟩ := Int.eq_ofNat_of_zero_le h.1
    rw [verZ_in (by omega)]
    exact w_verify root n' i' s p hG hr hcap hl hs (by omega) (by omega)
  · rw [verZ_out (by omega)]
    exact w_verifyOut root n i s (by omega)
/-- What a proof of any integers is, in memory. -/
abbrev prZ (s : Stm) (i n : Int) (salt : ByteArray) (path : List ByteArray) (z : LZ) : Array Value := #[.int .i64 s.h, .int .i64 s.c, .slice z.1.1 s.ls.length z.1.2, .int .i64 i, .int .i64 n, .string salt, .slice z.2.1 path.length z.2.2]
/-- What Verify of a log answers. -/
def verL (root : ByteArray) (s : Stm) (i n : Int) (salt : ByteArray) (path : List ByteArray) : Bool := okS s && (decide (salt.size = 32) && verZ root n i (salt ++ encS s) path)
set_option maxRecDepth 100000 in
theorem w_logVerifyZ {w : World} (root : ByteArray) (s : Stm) (i n : Int) (salt : ByteArray) (path : List ByteArray) (z : LZ) (hG : Rounds w) (hr : Rd w z.1.1 3 (s.ls.map lnC)) (hl : s.ls.length ≤ 1000000) (hp : Rd w z.2.1 1 (path.map strC)) (hcp : path.length ≤ z.2.2) (hpl : path.length ≤ 1000000) (hn : n ≤ 9223372036854775807) :
    Calls Tryz.prog 19 #[.string root, .agg (prZ s i n salt path z)] w (fun e w' => e = .returned (.bool (verL root s i n salt path)) ∧ SL w [] w' []) := by
 refine calls_of_CX (O := []) (L := []) (args := [.string root, .agg (prZ s i n salt path z)]) Tryz.func19 rfl (by simp [Tryz.ntmps19]) (SL.refl w) ?_
 refine CX.sub (V' := [(0, .string root), (1, .agg (prZ s i n salt path z))]) ⟨rfl, rfl, trivial⟩ ?_
 refine CX.seq ?_
 refine CX.region ?_
 refine RX.cons rfl rfl (op_box rfl rfl rfl rfl fun gp => ?_)
 refine RX.cons rfl rfl (op_w (yw_assign rfl rfl) rfl rfl ?_)
 refine RX.nil (XX.next (V' := [(0, _), (3, _)]) ⟨rfl, rfl, trivial⟩ ?_)
 refine CX.seq ?_
 by_cases hok : okS s = true
 ·refine CX.region ?_
  refine RX.cons rfl rfl (op_w (yw_field0 rfl fld_28_0 rfl) rfl rfl ?_)
  refine RX.cons rfl rfl (op_yld (y_loadP (i := 0) (vs := #[.int .i64 (Stm.h s), .int .i64 (Stm.c s), .slice z.1.1 (List.length (Stm.ls s)) z.1.2]) rfl rfl agg_25 rfl rfl (fun k hk => by match k, hk with | 0, _ => rfl | 1, _ => rfl | 2, _ => rfl)) rfl rfl ?_)
  refine RX.cons rfl rfl (op_callV (v := .tuple #[.string (encS s), .int .i64 0]) rfl rfl rfl rfl rfl ent_24 (fun w hw => by have h := w_encode (cap := z.1.2) s (hw.rd hr (by simp)) hl; rw [encR_ok hok] at h; exact h) ?_)
  refine RX.cons rfl rfl (op_w (yw_move rfl rfl) rfl rfl ?_)
  refine RX.cons rfl rfl (op_w (yw_extract rfl rfl rfl) rfl rfl ?_)
  refine RX.cons rfl rfl (op_w (yw_extract rfl rfl rfl) rfl rfl ?_)
  refine RX.cons rfl rfl (op_w (yw_assign rfl rfl) rfl rfl ?_)
  refine RX.cons rfl rfl (op_w (yw_assign rfl rfl) rfl rfl ?_)
  refine RX.nil (XX.next (V' := [(0, _), (3, _), (5, _), (6, _)]) ⟨rfl, rfl, rfl, rfl, trivial⟩ ?_)
  refine CX.seq ?_
  refine CX.region ?_
  refine RX.cons rfl rfl (op_w (yw_move rfl rfl) rfl rfl ?_)
  refine RX.cons rfl rfl (op_w (yw_eql rfl rfl rfl) rfl rfl ?_)
  refine RX.know (t := 14) (u := .bool true) rfl rfl ?_
  refine RX.cons rfl rfl (op_w (yw_move rfl rfl) rfl rfl ?_)
  refine RX.consG rfl rfl rfl rfl rfl (op_w (yw_fieldAddr rfl fld_28_3 rfl) rfl rfl ?_)
  refine RX.consG rfl rfl rfl rfl rfl (op_yld (y_load (i := 0) rfl rfl one_9 rfl rfl) rfl rfl ?_)
  refine RX.consG rfl rfl rfl rfl rfl (op_w (yw_lenStr rfl Tryz.underlying9 rfl) rfl rfl ?_)
  refine RX.consG rfl rfl rfl rfl rfl (op_w (yw_eql rfl rfl rfl) rfl rfl ?_)
  refine RX.cons rfl rfl (op_w (yw_pickT rfl rfl rfl) rfl rfl ?_)
  refine RX.cons rfl rfl (op_w (yw_move rfl rfl) rfl rfl ?_)
  refine RX.splitD (t := 21) (p := ((ByteArray.size salt : Nat) : Int) = 32) rfl (fun d21 => ?_) (fun d21 => ?_)
  ·refine RX.consG rfl rfl rfl rfl rfl (op_w (yw_move rfl rfl) rfl rfl ?_)
   refine RX.consG rfl rfl rfl rfl rfl (op_w (yw_fieldAddr rfl fld_28_2 rfl) rfl rfl ?_)
   refine RX.consG rfl rfl rfl rfl rfl (op_yld (y_load (i := 0) rfl rfl one_3 rfl rfl) rfl rfl ?_)
   refine RX.consG rfl rfl rfl rfl rfl (op_w (yw_fieldAddr rfl fld_28_1 rfl) rfl rfl ?_)
   refine RX.consG rfl rfl rfl rfl rfl (op_yld (y_load (i := 0) rfl rfl one_3 rfl rfl) rfl rfl ?_)
   refine RX.consG rfl rfl rfl rfl rfl (op_w (yw_fieldAddr rfl fld_28_3 rfl) rfl rfl ?_)
   refine RX.consG rfl rfl rfl rfl rfl (op_yld (y_load (i := 0) rfl rfl one_9 rfl rfl) rfl rfl ?_)
   refine RX.consG rfl rfl rfl rfl rfl (op_w (yw_move rfl rfl) rfl rfl ?_)
   refine RX.consG rfl rfl rfl rfl rfl (op_w (yw_stradd rfl rfl rfl (by have := word_le s hl salt (by omega); rw [ByteArray.size_append] at this; exact Nat.le_trans this (by decide))) rfl rfl ?_)
   refine RX.consG rfl rfl rfl rfl rfl (op_w (yw_fieldAddr rfl fld_28_4 rfl) rfl rfl ?_)
   refine RX.consG rfl rfl rfl rfl rfl (op_yld (y_load (i := 0) rfl rfl one_26 rfl rfl) rfl rfl ?_)
   refine RX.consG rfl rfl rfl rfl rfl (op_callV (v := .bool (verZ root n i (salt ++ (encS s)) path)) rfl rfl rfl rfl rfl ent_39 (fun w hw => w_verifyZ root n i (salt ++ (encS s)) path (hG.keep hw (by simp)) (hw.rd hp (by simp)) hcp (by omega) (word_le s hl salt (by omega)) hn) ?_)
   refine RX.cons rfl rfl (op_w (yw_pickT rfl rfl rfl) rfl rfl ?_)
   refine RX.cons rfl rfl (op_w (yw_assign rfl rfl) rfl rfl ?_)
   refine RX.nil (XX.next (V' := [(4, .bool (verZ root n i (salt ++ (encS s)) path))]) ⟨rfl, trivial⟩ ?_)
   refine CX.ret ?_
   exact ret_tmp rfl rfl fun w1 hw => ⟨by rw [verL, hok, decide_eq_true (show salt.size = 32 by omega), Bool.true_and, Bool.true_and], hw.sub (List.nil_sublist _)⟩
  ·refine RX.skip rfl rfl rfl rfl rfl rfl rfl ?_
   refine RX.skip rfl rfl rfl rfl rfl rfl rfl ?_
   refine RX.skip rfl rfl rfl rfl rfl rfl rfl ?_
   refine RX.skip rfl rfl rfl rfl rfl rfl rfl ?_
   refine RX.skip rfl rfl rfl rfl rfl rfl rfl ?_
   refine RX.skip rfl rfl rfl rfl rfl rfl rfl ?_
   refine RX.skip rfl rfl rfl rfl rfl rfl rfl ?_
   refine RX.skip rfl rfl rfl rfl rfl rfl rfl ?_
   refine RX.skip rfl rfl rfl rfl rfl rfl rfl ?_
   refine RX.skip rfl rfl rfl rfl rfl rfl rfl ?_
   refine RX.skip rfl rfl rfl rfl rfl rfl rfl ?_
   refine RX.skip rfl rfl rfl rfl rfl rfl rfl ?_
   refine RX.cons rfl rfl (op_w (yw_pickF rfl rfl rfl) rfl rfl ?_)
   refine RX.cons rfl rfl (op_w (yw_assign rfl rfl) rfl rfl ?_)
   refine RX.nil (XX.next (V' := [(4, .bool false)]) ⟨rfl, trivial⟩ ?_)
   refine CX.ret ?_
   exact ret_tmp rfl rfl fun w1 hw => ⟨by rw [verL, decide_eq_false (show ¬ salt.size = 32 by omega), Bool.false_and, Bool.and_false], hw.sub (List.nil_sublist _)⟩
 ·refine CX.region ?_
  refine RX.cons rfl rfl (op_w (yw_field0 rfl fld_28_0 rfl) rfl rfl ?_)
  refine RX.cons rfl rfl (op_yld (y_loadP (i := 0) (vs := #[.int .i64 (Stm.h s), .int .i64 (Stm.c s), .slice z.1.1 (List.length (Stm.ls s)) z.1.2]) rfl rfl agg_25 rfl rfl (fun k hk => by match k, hk with | 0, _ => rfl | 1, _ => rfl | 2, _ => rfl)) rfl rfl ?_)
  refine RX.cons rfl rfl (op_callV (v := .tuple #[.string .empty, .int .i64 190]) rfl rfl rfl rfl rfl ent_24 (fun w hw => by have h := w_encode (cap := z.1.2) s (hw.rd hr (by simp)) hl; rw [encR_bad (by simpa using hok)] at h; exact h) ?_)
  refine RX.cons rfl rfl (op_w (yw_move rfl rfl) rfl rfl ?_)
  refine RX.cons rfl rfl (op_w (yw_extract rfl rfl rfl) rfl rfl ?_)
  refine RX.cons rfl rfl (op_w (yw_extract rfl rfl rfl) rfl rfl ?_)
  refine RX.cons rfl rfl (op_w (yw_assign rfl rfl) rfl rfl ?_)
  refine RX.cons rfl rfl (op_w (yw_assign rfl rfl) rfl rfl ?_)
  refine RX.nil (XX.next (V' := [(0, _), (3, _), (5, _), (6, _)]) ⟨rfl, rfl, rfl, rfl, trivial⟩ ?_)
  refine CX.seq ?_
  refine CX.region ?_
  refine RX.cons rfl rfl (op_w (yw_move rfl rfl) rfl rfl ?_)
  refine RX.cons rfl rfl (op_w (yw_eql rfl rfl rfl) rfl rfl ?_)
  refine RX.know (t := 14) (u := .bool false) rfl rfl ?_
  refine RX.cons rfl rfl (op_w (yw_move rfl rfl) rfl rfl ?_)
  refine RX.skip rfl rfl rfl rfl rfl rfl rfl ?_
  refine RX.skip rfl rfl rfl rfl rfl rfl rfl ?_
  refine RX.skip rfl rfl rfl rfl rfl rfl rfl ?_
  refine RX.skip rfl rfl rfl rfl rfl rfl rfl ?_
  refine RX.cons rfl rfl (op_w (yw_pickF rfl rfl rfl) rfl rfl ?_)
  refine RX.cons rfl rfl (op_w (yw_move rfl rfl) rfl rfl ?_)
  refine RX.skip rfl rfl rfl rfl rfl rfl rfl ?_
  refine RX.skip rfl rfl rfl rfl rfl rfl rfl ?_
  refine RX.skip rfl rfl rfl rfl rfl rfl rfl ?_
  refine RX.skip rfl rfl rfl rfl rfl rfl rfl ?_
  refine RX.skip rfl rfl rfl rfl rfl rfl rfl ?_
  refine RX.skip rfl rfl rfl rfl rfl rfl rfl ?_
  refine RX.skip rfl rfl rfl rfl rfl rfl rfl ?_
  refine RX.skip rfl rfl rfl rfl rfl rfl rfl ?_
  refine RX.skip rfl rfl rfl rfl rfl rfl rfl ?_
  refine RX.skip rfl rfl rfl rfl rfl rfl rfl ?_
  refine RX.skip rfl rfl rfl rfl rfl rfl rfl ?_
  refine RX.skip rfl rfl rfl rfl rfl rfl rfl ?_
  refine RX.cons rfl rfl (op_w (yw_pickF rfl rfl rfl) rfl rfl ?_)
  refine RX.cons rfl rfl (op_w (yw_assign rfl rfl) rfl rfl ?_)
  refine RX.nil (XX.next (V' := [(4, .bool false)]) ⟨rfl, trivial⟩ ?_)
  refine CX.ret ?_
  exact ret_tmp rfl rfl fun w1 hw => ⟨by rw [verL, (by simpa using hok : okS s = false), Bool.false_and], hw.sub (List.nil_sublist _)⟩

end Go.Proofs.YtnadipjlhlbfoaaGreatDoor
