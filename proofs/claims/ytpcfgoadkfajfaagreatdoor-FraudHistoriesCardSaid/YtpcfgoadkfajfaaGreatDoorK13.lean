/- The order of keys: plain Lean. The base of a history: plain Lean. The library's sort of keys, by the shelf's contract, over a slice of the call's own. A range over a map. Walks, printed by a program. Histories of facts: what the law's walk leans on. Walks, printed by a program. -/
import Derived.Test.YtpcfgoadkfajfaaGreatDoorK12
import Derived.Shelf.SlSortCmp.Insertion
import Derived.Test.YtpcfgoadkfajfaaGreatDoorK8
import Derived.Shelf.SlSortCmp.NoneTotal
import Derived.Test.YtpcfgoadkfajfaaGreatDoorK6
import Derived.Maps.RangeRun
import Derived.Test.YtpcfgoadkfajfaaGreatDoorK7
import Derived.Test.YtpcfgoadkfajfaaGreatDoorK5
import Derived.Test.YtpcfgoadkfajfaaGreatDoorK10
namespace Go.Proofs.YtpcfgoadkfajfaaGreatDoor
set_option linter.all false
open Go Go.Proofs Go.RowKit Go.Lib Go.Sort Go.Shelf
/-- The order of keys. -/
def cf3 (x y : Int × Int × Int) : Int := cmpX (l3 x) (l3 y)
theorem cmpI_neg {a b : Int} : Lib.compareInt a b < 0 ↔ a < b := by
  unfold Lib.compareInt
  by_cases h1 : a < b
  · simp [h1]
  · by_cases h2 : b < a <;> simp [h1, h2]
def lt3 (x y : Int × Int × Int) : Bool := decide (x.1 < y.1 ∨ (x.1 = y.1 ∧ (x.2.1 < y.2.1 ∨ (x.2.1 = y.2.1 ∧ x.2.2 < y.2.2))))
theorem lt_cf3 (x y : Int × Int × Int) : ltOf cf3 x y = lt3 x y := by
  unfold ltOf cf3 lt3 l3
  rw [decide_eq_decide]
  unfold cmpX
  by_cases h1 : x.1 = y.1
  · rw [if_pos h1]
    unfold cmpX
    by_cases h2 : x.2.1 = y.2.1
    · rw [if_pos h2]
      unfold cmpX
      by_cases h3 : x.2.2 = y.2.2
      · rw [if_pos h3]; unfold cmpX; simp [h1, h2, h3]
      · rw [if_neg h3, cmpI_neg]; omega
    · rw [if_neg h2, cmpI_neg]; omega
  · rw [if_neg h1, cmpI_neg]; omega
theorem swo3 : SWO (ltOf cf3) where
  irrefl x := by rw [lt_cf3]; simp [lt3]
  trans x y z h1 h2 := by rw [lt_cf3] at *; simp only [lt3, decide_eq_true_iff] at *; omega
  ntrans x y z h1 h2 := by rw [lt_cf3] at *; simp only [lt3, decide_eq_false_iff_not] at *; omega
theorem tot3 (x y : Int × Int × Int) (h1 : ltOf cf3 x y = false) (h2 : ltOf cf3 y x = false) : x = y := by
  rw [lt_cf3] at *
  simp only [lt3, decide_eq_false_iff_not] at *
  refine Prod.ext ?_ (Prod.ext ?_ ?_) <;> omega
/-- The keys in their order. -/
def ksort (xs : List (Int × Int × Int)) : List (Int × Int × Int) := xs.mergeSort fun x y => !(ltOf cf3) y x
theorem ksort_perm (xs : List (Int × Int × Int)) : (ksort xs).Perm xs := List.mergeSort_perm xs _
theorem ksort_len (xs : List (Int × Int × Int)) : (ksort xs).length = xs.length := List.length_mergeSort xs
/-- The order of keys depends on which they are alone. -/
theorem ksort_eq {xs ys : List (Int × Int × Int)} (h : xs.Perm ys) : ksort xs = ksort ys := by
  have tr : ∀ (a b c : Int × Int × Int), (!(ltOf cf3) b a) = true → (!(ltOf cf3) c b) = true → (!(ltOf cf3) c a) = true := fun a b c h1 h2 => by
    rw [Bool.not_eq_true'] at *; exact swo3.ntrans c b a h2 h1
  have to : ∀ (a b : Int × Int × Int), ((!(ltOf cf3) b a) || (!(ltOf cf3) a b)) = true := fun a b => by
    cases h1 : ltOf cf3 b a
    · rfl
    · cases h2 : ltOf cf3 a b
      · rfl
      · have := swo3.trans a b a h2 h1
        rw [swo3.irrefl] at this; cases this
  refine List.Perm.eq_of_pairwise (le := fun x y => (!(ltOf cf3) y x) = true) (fun a b _ _ h1 h2 => ?_) (List.pairwise_mergeSort tr to xs) (List.pairwise_mergeSort tr to ys) (((ksort_perm xs).trans h).trans (ksort_perm ys).symm)
  rw [Bool.not_eq_true'] at h1 h2
  exact tot3 a b h2 h1
end Go.Proofs.YtpcfgoadkfajfaaGreatDoor
namespace Go.Proofs.YtpcfgoadkfajfaaGreatDoor
set_option linter.all false
open Go Go.RowKit
abbrev K3 := Int × Int × Int
abbrev fcVal (f : Fc) : Value := .agg (fcC f)
/-- A fact goes into the map of the facts that prevail. -/
def stepKV (kv : List (K3 × Fc)) (f : Fc) : List (K3 × Fc) := if validF f then (match kget (keyF f) kv with | none => kset (keyF f) f kv | some g => if prevF f g then kset (keyF f) f kv else kv) else kv
def kvOf (fs : List Fc) : List (K3 × Fc) := fs.foldl stepKV []
theorem kvOf_succ {fs : List Fc} {i : Nat} {x : Fc} (h : fs[i]? = some x) : kvOf (fs.take (i + 1)) = stepKV (kvOf (fs.take i)) x := by
  unfold kvOf; rw [take_succ h, List.foldl_append]; rfl
theorem step_bad {kv : List (K3 × Fc)} {f : Fc} (h : validF f = false) : stepKV kv f = kv := by simp [stepKV, h]
theorem step_new {kv : List (K3 × Fc)} {f : Fc} (h : validF f = true) (hk : kget (keyF f) kv = none) : stepKV kv f = kset (keyF f) f kv := by simp [stepKV, h, hk]
theorem step_win {kv : List (K3 × Fc)} {f g : Fc} (h : validF f = true) (hk : kget (keyF f) kv = some g) (hp : prevF f g = true) : stepKV kv f = kset (keyF f) f kv := by simp [stepKV, h, hk, hp]
theorem step_lose {kv : List (K3 × Fc)} {f g : Fc} (h : validF f = true) (hk : kget (keyF f) kv = some g) (hp : prevF f g = false) : stepKV kv f = kv := by simp [stepKV, h, hk, hp]
/-- What the map holds of the facts fs: at each key the fact that prevails over the others. -/
def KvOk (fs : List Fc) (kv : List (K3 × Fc)) : Prop := (kv.map Prod.fst).Nodup ∧ (∀ k g, kget k kv = some g → g ∈ fs ∧ validF g = true ∧ keyF g = k) ∧ ∀ f ∈ fs, validF f = true → ∃ g, kget (keyF f) kv = some g ∧ (g = f ∨ prevF g f = true)
theorem KvOk.step {fs : List Fc} {kv : List (K3 × Fc)} (h : KvOk fs kv) (f : Fc) : KvOk (fs ++ [f]) (stepKV kv f) := by
  obtain ⟨hn, h1, h2⟩ := h
  by_cases hv : validF f = true
  · have put : (∀ g, kget (keyF f) kv = some g → prevF f g = true) → KvOk (fs ++ [f]) (kset (keyF f) f kv) := by
      intro hg
      refine ⟨?_, ?_, ?_⟩
      · rw [kset_keys]
        split
        · exact hn
        · rename_i hm
          rw [List.nodup_append]
          exact ⟨hn, by simp, fun a ha b hb e => hm (by rw [List.mem_singleton] at hb; rw [← hb, ← e]; exact ha)⟩
      · intro k g hk
        rw [kget_kset] at hk
        split at hk
        · rename_i e; cases hk; exact ⟨by simp, hv, e.symm⟩
        · have := h1 k g hk; exact ⟨by simp [this.1], this.2⟩
      · intro x hx hxv
        rw [kget_kset]
        by_cases e : keyF x = keyF f
        · rw [if_pos e]
          refine ⟨f, rfl, ?_⟩
          rcases List.mem_append.1 hx with hx | hx
          · obtain ⟨g, hk, hgx⟩ := h2 x hx hxv
            rw [e] at hk
            have hp := hg g hk
            rcases hgx with rfl | hgx
            · exact .inr hp
            · exact .inr (prevF_trans hp hgx)
          · rw [List.mem_singleton] at hx; exact .inl hx.symm
        · rw [if_neg e]
          rcases List.mem_append.1 hx with hx | hx
          · exact h2 x hx hxv
          · rw [List.mem_singleton] at hx; subst hx; exact absurd rfl e
    cases hk : kget (keyF f) kv with
    | none => rw [step_new hv hk]; exact put (fun g h => by rw [hk] at h; cases h)
    | some g =>
      cases hp : prevF f g with
      | true => rw [step_win hv hk hp]; exact put (fun g' h => by rw [hk] at h; cases h; exact hp)
      | false =>
        rw [step_lose hv hk hp]
        refine ⟨hn, fun k g hk => ?_, fun x hx hxv => ?_⟩
        · have := h1 k g hk; exact ⟨by simp [this.1], this.2⟩
        · rcases List.mem_append.1 hx with hx | hx
          · exact h2 x hx hxv
          · rw [List.mem_singleton] at hx; subst hx
            refine ⟨g, hk, ?_⟩
            cases hq : prevF g x with
            | true => exact .inr rfl
            | false => exact .inl (prevF_total (h1 _ g hk).2.1 hxv hq hp)
  · rw [step_bad (by simpa using hv)]
    refine ⟨hn, fun k g hk => ?_, fun x hx hxv => ?_⟩
    · have := h1 k g hk; exact ⟨by simp [this.1], this.2⟩
    · rcases List.mem_append.1 hx with hx | hx
      · exact h2 x hx hxv
      · rw [List.mem_singleton] at hx; subst hx; exact absurd hxv hv
theorem kvOf_ok (fs : List Fc) : KvOk fs (kvOf fs) := by
  have : ∀ (fs gs : List Fc) (kv : List (K3 × Fc)), KvOk gs kv → KvOk (gs ++ fs) (fs.foldl stepKV kv) := by
    intro fs
    induction fs with
    | nil => intro gs kv h; rw [List.append_nil]; exact h
    | cons f fs ih => intro gs kv h; have := ih _ _ (h.step f); rwa [List.append_assoc] at this
  exact this fs [] [] ⟨by simp, fun k g h => (by cases h), fun f hf => (by cases hf)⟩
theorem kvOf_len (fs : List Fc) : (kvOf fs).length ≤ fs.length := by
  have : ∀ (fs : List Fc) (kv : List (K3 × Fc)), (fs.foldl stepKV kv).length ≤ kv.length + fs.length := by
    intro fs
    induction fs with
    | nil => intro kv; exact Nat.le_refl _
    | cons f fs ih =>
      intro kv
      have h1 := ih (stepKV kv f)
      have h2 : (stepKV kv f).length ≤ kv.length + 1 := by
        have hs := kset_length (keyF f) f kv
        unfold stepKV
        split
        · split
          · rw [hs]; split <;> omega
          · split
            · rw [hs]; split <;> omega
            · omega
        · omega
      rw [List.foldl_cons, List.length_cons]; omega
  have := this fs []
  unfold kvOf
  simpa using this
theorem kget_of_mem {kv : List (K3 × Fc)} {k : K3} (h : k ∈ kv.map Prod.fst) : ∃ g, kget k kv = some g := by
  induction kv with
  | nil => cases h
  | cons p kv ih =>
    unfold kget
    by_cases e : k = p.1
    · exact ⟨_, if_pos e⟩
    · rw [if_neg e]
      rcases List.mem_cons.1 h with h | h
      · exact absurd h e
      · exact ih h
theorem mem_of_kget {kv : List (K3 × Fc)} {k : K3} {g : Fc} (h : kget k kv = some g) : k ∈ kv.map Prod.fst := List.mem_map.2 ⟨_, kget_some_mem h, rfl⟩
/-- The facts of one kind, in the order of the keys. -/
def bkt (kv : List (K3 × Fc)) (ks : List K3) (j : Nat) : List Fc := (ks.filterMap fun k => kget k kv).filter fun g => decide (g.kind = (j : Int) + 1)
def baseOf (fs : List Fc) (j : Nat) : List Fc := bkt (kvOf fs) (ksort ((kvOf fs).map Prod.fst)) j
/-- The base depends on which facts there are alone. -/
theorem baseOf_set {fs gs : List Fc} (h : ∀ f, f ∈ fs ↔ f ∈ gs) (j : Nat) : baseOf fs j = baseOf gs j := by
  have half : ∀ {fs gs : List Fc}, (∀ f, f ∈ fs ↔ f ∈ gs) → ∀ k g, kget k (kvOf fs) = some g → kget k (kvOf gs) = some g := by
    intro fs gs h k g hk
    obtain ⟨hg, hv, hkey⟩ := (kvOf_ok fs).2.1 k g hk
    obtain ⟨g', hk', hw⟩ := (kvOf_ok gs).2.2 g ((h g).1 hg) hv
    rw [hkey] at hk'
    rw [hk']
    obtain ⟨hg', hv', hkey'⟩ := (kvOf_ok gs).2.1 k g' hk'
    obtain ⟨g'', hk'', hw'⟩ := (kvOf_ok fs).2.2 g' ((h g').2 hg') hv'
    rw [hkey', hk] at hk''
    obtain rfl := Option.some.inj hk''
    rcases hw with rfl | hw
    · rfl
    rcases hw' with rfl | hw'
    · rfl
    have := prevF_trans hw hw'
    rw [prevF_irrefl] at this; cases this
  have all : ∀ k, kget k (kvOf fs) = kget k (kvOf gs) := fun k => by
    cases h1 : kget k (kvOf fs) with
    | some g => exact (half h k g h1).symm
    | none =>
      cases h2 : kget k (kvOf gs) with
      | none => rfl
      | some g => rw [half (fun f => (h f).symm) k g h2] at h1; cases h1
  have hp : ((kvOf fs).map Prod.fst).Perm ((kvOf gs).map Prod.fst) := by
    refine (List.perm_ext_iff_of_nodup (kvOf_ok fs).1 (kvOf_ok gs).1).2 fun k => ⟨fun hm => ?_, fun hm => ?_⟩
    · obtain ⟨g, hg⟩ := kget_of_mem hm
      rw [all] at hg; exact mem_of_kget hg
    · obtain ⟨g, hg⟩ := kget_of_mem hm
      rw [← all] at hg; exact mem_of_kget hg
  unfold baseOf bkt
  rw [ksort_eq hp, show (fun k => kget k (kvOf fs)) = fun k => kget k (kvOf gs) from funext all]
theorem baseOf_len (fs : List Fc) (j : Nat) : (baseOf fs j).length ≤ fs.length := by
  unfold baseOf bkt
  refine Nat.le_trans (List.length_filter_le _ _) (Nat.le_trans (List.length_filterMap_le _ _) ?_)
  rw [ksort_len, List.length_map]; exact kvOf_len fs
theorem baseOf_mem {fs : List Fc} {j : Nat} {f : Fc} (h : f ∈ baseOf fs j) : f ∈ fs ∧ validF f = true ∧ f.kind = (j : Int) + 1 := by
  unfold baseOf bkt at h
  obtain ⟨h1, h2⟩ := List.mem_filter.1 h
  obtain ⟨k, _, hk⟩ := List.mem_filterMap.1 h1
  have := (kvOf_ok fs).2.1 k f hk
  exact ⟨this.1, this.2.1, by simpa using h2⟩
theorem bkt_succ {kv : List (K3 × Fc)} {ks : List K3} {i : Nat} {k : K3} {g : Fc} (h : ks[i]? = some k) (hg : kget k kv = some g) (j : Nat) : bkt kv (ks.take (i + 1)) j = bkt kv (ks.take i) j ++ if g.kind = (j : Int) + 1 then [g] else [] := by
  unfold bkt
  rw [take_succ h, List.filterMap_append, List.filter_append]
  congr 1
  simp only [List.filterMap_cons, hg, List.filterMap_nil, List.filter_cons, decide_eq_true_iff, List.filter_nil]
/-- A bucket: where it lies, and its facts. -/
abbrev Bk := (Option Addr × Nat) × List Fc
def bkV (b : Bk) : Value := .slice b.1.1 b.2.length b.1.2
def bkC (bs : List Bk) : Array Value := (bs.map bkV).toArray
def bkE (b : Bk) : Ent := .row b.1.1 b.1.2 27 18 (b.2.map fcC)
def bk0 : Bk := ((none, 0), [])
theorem bkC_get {bs : List Bk} {j : Nat} {b : Bk} (h : bs[j]? = some b) : (bkC bs)[j]? = some (bkV b) := by
  unfold bkC; rw [List.getElem?_toArray, List.getElem?_map, h]; rfl
theorem bkC_set (bs : List Bk) (j : Nat) (b : Bk) : (bkC bs).setIfInBounds j (bkV b) = bkC (bs.set j b) := by
  unfold bkC; rw [List.map_set, List.setIfInBounds_toArray]
theorem bkC_size (bs : List Bk) : (bkC bs).size = bs.length := by simp [bkC]
theorem bkE_out {bs : List Bk} {j : Nat} {b : Bk} (h : bs[j]? = some b) : (bs.map bkE).Perm (bkE b :: (bs.eraseIdx j).map bkE) := (perm_pick j h).map bkE
theorem bkE_in {bs : List Bk} {j : Nat} {b : Bk} (b' : Bk) (h : bs[j]? = some b) : ((bs.set j b').map bkE).Perm (bkE b' :: (bs.eraseIdx j).map bkE) := (set_perm b' h).map bkE
theorem bkC_plain (bs : List Bk) : ∀ u ∈ (bkC bs).toList, u.oneCell' = true := fun u hu => by
  obtain ⟨b, _, rfl⟩ := List.mem_map.1 (show u ∈ bs.map bkV from hu)
  rfl
theorem nilsPack {w0 w : World} {O : List Nat} {L : List Ent} (n : Nat) (h : SL w0 O w L) : SL w0 O w (pack ((List.replicate n bk0).map bkE) :: L) := by
  refine SL.pack ?_
  induction n with
  | zero => exact h
  | succ n ih => rw [List.replicate_succ, List.map_cons, List.cons_append]; exact ih.rowNil 27 18
theorem CX.packNils {P : Program} {r : Option Nat} {Q : Exit → Act → World → Prop} {w0 : World} {O : List Nat} {n : Nat} {D : List Deferred} {c : Code} {V : List (Nat × Value)} {L : List Ent} (m : Nat) (h : CX P r Q w0 O n D c V (pack ((List.replicate m bk0).map bkE) :: L)) : CX P r Q w0 O n D c V L := fun a w ha hw => h a w ha (nilsPack m hw)
/-- The map of the kinds' places. -/
def intoF (g : Nat) : Int → Option Value := fun k => if k = 10 then some (.pointer (some ⟨g, 9, none⟩)) else if k = 9 then some (.pointer (some ⟨g, 8, none⟩)) else if k = 8 then some (.pointer (some ⟨g, 7, none⟩)) else if k = 7 then some (.pointer (some ⟨g, 6, none⟩)) else if k = 6 then some (.pointer (some ⟨g, 5, none⟩)) else if k = 5 then some (.pointer (some ⟨g, 4, none⟩)) else if k = 4 then some (.pointer (some ⟨g, 3, none⟩)) else if k = 3 then some (.pointer (some ⟨g, 2, none⟩)) else if k = 2 then some (.pointer (some ⟨g, 1, none⟩)) else if k = 1 then some (.pointer (some ⟨g, 0, none⟩)) else none
theorem intoF_in (g : Nat) {k : Int} (h : 1 ≤ k ∧ k ≤ 10) : intoF g k = some (.pointer (some ⟨g, (k - 1).toNat, none⟩)) := by
  rcases kind_cases h with rfl | rfl | rfl | rfl | rfl | rfl | rfl | rfl | rfl | rfl <;> rfl
/-- The buckets hold what the first keys say. -/
def BkOk (kv : List (K3 × Fc)) (ks : List K3) (bs : List Bk) : Prop := bs.length = 10 ∧ ∀ j b, bs[j]? = some b → b.2 = bkt kv ks j
theorem BkOk.start (kv : List (K3 × Fc)) : BkOk kv [] (List.replicate 10 bk0) := by
  refine ⟨by simp, fun j b h => ?_⟩
  have := List.eq_of_mem_replicate (List.mem_of_getElem? h)
  subst this; rfl
theorem BkOk.step {kv : List (K3 × Fc)} {ks : List K3} {bs : List Bk} {i : Nat} {k : K3} {g : Fc} {b : Bk} (hk : ks[i]? = some k) (hg : kget k kv = some g) (h : BkOk kv (ks.take i) bs) (h1 : 1 ≤ g.kind ∧ g.kind ≤ 10) (hb : bs[(g.kind - 1).toNat]? = some b) (z : Option Addr × Nat) :
    BkOk kv (ks.take (i + 1)) (bs.set (g.kind - 1).toNat (z, b.2 ++ [g])) := by
  refine ⟨by rw [List.length_set]; exact h.1, fun j c hc => ?_⟩
  rw [bkt_succ hk hg]
  rw [List.getElem?_set] at hc
  split at hc
  · rename_i e
    split at hc
    · cases hc
      rw [if_pos (by omega), ← h.2 j b (by rw [← e]; exact hb)]
    · cases hc
  · rename_i e
    rw [if_neg (by omega), List.append_nil]
    exact h.2 j c hc
end Go.Proofs.YtpcfgoadkfajfaaGreatDoor
namespace Go.Proofs.YtpcfgoadkfajfaaGreatDoor
set_option linter.all false
open Go Go.Proofs Go.RowKit Go.Lib Go.Sort Go.Shelf
abbrev enc3 (x : Int × Int × Int) : List Value := (c3 x).toList
theorem flatK_c3 (xs : List (Int × Int × Int)) : (flatK enc3 3 xs.toArray).toList = flat (xs.map c3) := by
  have hs : ∀ c ∈ xs.map c3, c.size = 3 := by
    intro c hc
    obtain ⟨x, _, rfl⟩ := List.mem_map.1 hc
    rfl
  apply List.ext_getElem?
  intro t
  by_cases ht : t < xs.length * 3
  · have hk : t / 3 < xs.length := by omega
    have hj : t % 3 < 3 := by omega
    have h1 := flat_get hs (k := t / 3) (c := c3 xs[t / 3]) (j := t % 3) (by rw [List.getElem?_map, List.getElem?_eq_getElem hk]; rfl) hj
    rw [show t / 3 * 3 + t % 3 = t by omega] at h1
    rw [h1]
    have h2 := get_flatK enc3 3 xs.toArray t (by simpa using ht)
    have h3 : t < (flatK enc3 3 xs.toArray).size := by rw [size_flatK]; simpa using ht
    rw [Array.getElem?_toList, Array.getElem?_eq_getElem h3]
    rw [getElem!_pos _ t h3] at h2
    rw [h2, getElem!_pos xs.toArray (t / 3) (by simpa using hk)]
    have h4 : t % 3 < (enc3 xs.toArray[t / 3]).length := hj
    rw [getElem!_pos (enc3 xs.toArray[t / 3]) (t % 3) h4]
    have h5 : t % 3 < (c3 xs[t / 3]).size := hj
    rw [Array.getElem?_eq_getElem h5]
    rfl
  · rw [List.getElem?_eq_none (by simp; omega), List.getElem?_eq_none (by rw [flat_length hs]; simp; omega)]
theorem holds_block {w : World} {g : Nat} {cur F : Array Value} {e : TypeId} (hb : w.heap[g]? = some (.cells cur e (0, 0))) (ht : cur.toList.take F.size = F.toList) : Go.Sort.Holds id w g 0 F := by
  intro j hj
  refine ⟨?_, by simp [World.frozen?, hb]⟩
  have h1 : (cur.toList.take F.size)[j]? = F.toList[j]? := by rw [ht]
  rw [List.getElem?_take_of_lt hj, Array.getElem?_toList, Array.getElem?_toList] at h1
  rw [cell_of_row w g (0 + j) cur e (0, 0) hb, Nat.zero_add, h1, Array.getElem?_eq_getElem hj, getElem!_pos F j hj]
  rfl
theorem heap_put {w : World} {g n : Nat} {os : Array Obj} {cur : Array Value} {e : TypeId} {fr : Nat × Nat} (d : Array Value) (hb : w.heap[g]? = some (.cells cur e fr)) :
    (grow (putRow id (Sort.ahead w n) g 0 d) os).heap[g]? = some (.cells (putCells id 0 d cur) e fr) := by
  have hg : g < w.heap.size := (Array.getElem?_eq_some_iff.1 hb).1
  rw [heap_grow_old _ _ (by simpa using hg)]
  simp [putRow, mapBlock, Sort.ahead, Array.getElem?_modify, hb, onCells]
theorem grown_put {w : World} {g n : Nat} {os : Array Obj} (d : Array Value) : w.grownBy (grow (putRow id (Sort.ahead w n) g 0 d) os) (some g) := by
  refine ⟨rfl, rfl, rfl, by simp, fun k hk hne => ?_⟩
  rw [heap_grow_old _ _ (by simpa using hk)]
  have : g ≠ k := fun e => hne (by rw [e])
  simp [putRow, mapBlock, Sort.ahead, Array.getElem?_modify, this]
theorem take_put (cur F : Array Value) (h : F.size ≤ cur.size) : (putCells id 0 F cur).toList.take F.size = F.toList := by
  apply List.ext_getElem?
  intro j
  by_cases hj : j < F.size
  · rw [List.getElem?_take_of_lt hj, Array.getElem?_toList, Array.getElem?_toList]
    simp [putCells, hj, show j < cur.size by omega]
  · rw [List.getElem?_take_eq_none (by omega), List.getElem?_eq_none (by simp; omega)]
theorem run_isAgg48 (w : World) : (isAgg 48).run Tryz.prog w = .ok true w := by unfold isAgg; rw [Sem.run_bind, run_underlying Tryz.underlying48]; rfl
set_option maxRecDepth 100000 in
theorem run_size48 (w : World) : (Go.sizeOf 48).run Tryz.prog w = .ok 3 w := by
  have h := run_sizeOf (P := Tryz.prog) w (by kernel_rfl : Tryz.prog.info? 48 = some (Tryz.prog.info? 48).get!)
  rwa [(by kernel_rfl : Tryz.prog.cellsOf 48 = 3)] at h
set_option maxRecDepth 100000 in
theorem w_sortK {w : World} {A : Option Addr} {cap : Nat} (xs : List (Int × Int × Int)) (hs : SL w (Ent.row A cap 48 3 (xs.map c3)).blocks w [.row A cap 48 3 (xs.map c3)]) (hl : xs.length ≤ 1000000) :
    Calls Tryz.prog 18 #[.slice A xs.length cap, .func (.func 19) #[] #[]] w (fun e w' => e = .returned (.tuple #[]) ∧ SL w (Ent.row A cap 48 3 (xs.map c3)).blocks w' [.row A cap 48 3 ((ksort xs).map c3)]) := by
  have hsat : (Ent.row A cap 48 3 (xs.map c3)).sat w := hs.ents _ List.mem_cons_self
  obtain ⟨hown, _⟩ := hsat
  rw [List.length_map] at hown
  have hls := ksort_len xs
  have hsz : ∀ zs : List (Int × Int × Int), ∀ c ∈ zs.map c3, c.size = 3 := fun zs c hc => by
    obtain ⟨x, _, rfl⟩ := List.mem_map.1 hc
    rfl
  rcases hown.2 with ⟨h0, hx⟩ | ⟨g, cap', cur, hv, hbase, hb, h1, h2, h3, h4⟩
  · injection h0 with e1 e2 e3
    subst e1; subst e3
    obtain rfl := List.eq_nil_of_length_eq_zero e2
    refine (AnyF.slices_SortFunc_none Tryz.laysSortK none 0 _ w).mono ?_
    rintro e w' ⟨rfl, rfl⟩
    exact ⟨rfl, by rw [show ksort [] = [] from List.mergeSort_nil]; exact hs⟩
  · injection hv with e1 _ e3
    subst e1; subst e3
    have hF := flatK_c3 xs
    have hFs : (flatK enc3 3 xs.toArray).size = xs.length * 3 := by rw [size_flatK]; simp
    have hH : HoldsK enc3 3 w g 0 xs.toArray := holds_block hb (by rw [hFs, hF]; exact h4)
    have hg : g < w.heap.size := (Array.getElem?_eq_some_iff.1 hb).1
    have eg : ∀ args w, (callFunc 19 args).run Tryz.prog w = .ok (.enter 19 args) w := enters_of Tryz.func19 (by kernel_rfl) rfl
    have hc := AnyQ.slices_SortFunc_total Tryz.laysSortK 3 (fun w => run_isAgg48 w) (fun w => run_size48 w) enc3 (fun _ => rfl) (fun x v hv => by simp [enc3] at hv; rcases hv with rfl | rfl | rfl <;> rfl) cf3 swo3 19 #[] g 0 cap xs.toArray w eg (fun m os dk _ x y => k_of1 x y _) hH hg (by simp; omega) tot3
    change Calls Tryz.prog 18 _ _ _ at hc
    refine hc.mono ?_
    rintro e w' ⟨rfl, n, os, rfl⟩
    refine ⟨rfl, ?_⟩
    have hK : (ksort xs).toArray = (xs.toArray.toList.mergeSort fun x y => !(ltOf cf3) y x).toArray := rfl
    have hF2 := flatK_c3 (ksort xs)
    have hFs2 : (flatK enc3 3 (ksort xs).toArray).size = xs.length * 3 := by rw [size_flatK]; simp [hls]
    have hgr := grown_put (w := w) (g := g) (n := n) (os := os) (flatK enc3 3 (ksort xs).toArray)
    refine hs.setI (i := 0) (p' := .row (some ⟨g, 0, none⟩) cap 48 3 ((ksort xs).map c3)) rfl hgr.os hgr.tape hgr.output hgr.size ⟨?_, ?_⟩ row_blocks_nodup (fun b hb => .inl hb) (fun k hk hkb => hgr.block k hk (fun e => hkb (by cases e; simp [Ent.blocks])))
    · rw [List.length_map, hls]
      refine ⟨by rw [flat_length (hsz _), List.length_map, hls], .inr ⟨g, cap, putCells id 0 (flatK enc3 3 (ksort xs).toArray) cur, rfl, Nat.zero_le _, heap_put _ hb, h1, h2, by simpa [putCells] using h3, ?_⟩⟩
      rw [← hF2, ← hFs2]
      exact take_put _ _ (by rw [hFs2, h3]; omega)
    · intro c hc
      obtain ⟨x, _, rfl⟩ := List.mem_map.1 hc
      exact ⟨rfl, fun u hu => by simp at hu; rcases hu with rfl | rfl | rfl <;> rfl⟩
end Go.Proofs.YtpcfgoadkfajfaaGreatDoor
namespace Go.Proofs.YtpcfgoadkfajfaaGreatDoor
set_option linter.all false
open Go Go.RowKit Go.ChangeMaps
theorem filter_born : ∀ {l : List MapEntry} {i : Nat} {e : MapEntry}, (l.map (·.born)).Nodup → l[i]? = some e → l.filter (fun x => !(x.born == e.born)) = l.eraseIdx i
  | [], i, e, _, h => by simp at h
  | a :: l, 0, e, hn, h => by
    obtain rfl : a = e := by simpa using h
    rw [List.map_cons, List.nodup_cons] at hn
    rw [List.filter_cons]
    simp only [beq_self_eq_true, Bool.not_true, Bool.false_eq_true, if_false, List.eraseIdx_cons_zero]
    rw [List.filter_eq_self]
    intro x hx
    have : x.born ≠ a.born := fun e => hn.1 (e ▸ List.mem_map.2 ⟨x, hx, rfl⟩)
    simpa using this
  | a :: l, i + 1, e, hn, h => by
    rw [List.map_cons, List.nodup_cons] at hn
    have he : l[i]? = some e := by simpa using h
    have : a.born ≠ e.born := fun q => hn.1 (q ▸ List.mem_map.2 ⟨e, List.mem_of_getElem? he, rfl⟩)
    rw [List.filter_cons, if_pos (by simpa using this), filter_born hn.2 he, List.eraseIdx_cons_succ]
theorem perm_erase {β : Type} {l : List β} {i : Nat} {x : β} (h : l[i]? = some x) : (x :: l.eraseIdx i).Perm l := by
  have hi := (List.getElem?_eq_some_iff.1 h).1
  have e : l = l.take i ++ x :: l.drop (i + 1) := by
    conv => lhs; rw [← List.take_append_drop i l]
    rw [List.drop_eq_getElem_cons hi, (List.getElem?_eq_some_iff.1 h).2]
  rw [List.eraseIdx_eq_take_drop_succ]
  exact List.Perm.trans List.perm_middle.symm (List.Perm.of_eq e.symm)
section
variable {κ α : Type} [DecidableEq κ] {P : Program} {encK : κ → Value} {encV : α → Value}
/-- The map g and an iterator r over it that has given the keys ks. -/
def IAt (encK : κ → Value) (encV : α → Value) (w : World) (g r : Nat) (kv : List (κ × α)) (ks : List κ) : Prop :=
  ∃ es clock since seen rest, w.heap[g]? = some (.map es clock) ∧ Ents encK encV es.toList kv ∧ Births es.toList clock ∧ w.heap[r]? = some (.mapIter (some g) since seen clock) ∧ (∀ x ∈ es.toList, x.born < since) ∧ since ≤ clock ∧
    Ents encK encV (es.toList.filter fun x => !seen.contains x.born) rest ∧ (ks ++ rest.map Prod.fst).Perm (kv.map Prod.fst) ∧ ∀ k, ks.getLast? = some k → ∃ e ∈ es.toList, ∃ seen' : Array Nat, seen = seen'.push e.born ∧ e.key = encK k
def kiter (encK : κ → Value) (encV : α → Value) (g r : Nat) (kv : List (κ × α)) (ks : List κ) : Ent :=
  .gen [g, r] (fun w => IAt encK encV w g r kv ks)
    (fun w ⟨_, _, _, _, _, h, _, _, h2, _⟩ b hb => by
      rcases List.mem_cons.1 hb with rfl | hb
      · exact (Array.getElem?_eq_some_iff.1 h).1
      · obtain rfl := List.mem_singleton.1 hb
        exact (Array.getElem?_eq_some_iff.1 h2).1)
    (fun w w' ⟨es, c, s, sn, rs, h, h1, h2, h3, h4⟩ hk => ⟨es, c, s, sn, rs, by rw [hk g List.mem_cons_self]; exact h, h1, h2, by rw [hk r (List.mem_cons_of_mem _ List.mem_cons_self)]; exact h3, h4⟩)
end
section
variable {P : Program} {w0 : World} {O : List Nat} {n : Nat} {D : List Deferred} {o : Oper} {V : List (Nat × Value)} {L : List Ent} {T : List (Nat × Value) → List Ent → Prop} {κ α : Type} [DecidableEq κ] {encK : κ → Value} {encV : α → Value} {Q : Exit → Act → World → Prop} {c : Code} {rr : Option Nat}
theorem op_krange {t : TypeId} {m : Operand} {g i d : Nat} {kv : List (κ × α)} {z : Value} (ho : o.op = .range t m) (hd : o.dst = some d) (hdn : Nat.blt d n = true) (hm : ev V m = some (.map (some g))) (ht : KMapT P encK t z) (hL : L[i]? = some (kmap encK encV g kv))
    (hT : ∀ r, T ((d, .pointer (some ⟨r, 0, none⟩)) :: V) (L.set i (kiter encK encV g r kv []))) : OpS P w0 O n D o V L T := by
  intro a w ha hw
  obtain ⟨kt, et, ii, h1, h2, h3, h4⟩ := ht
  obtain ⟨es, clock, hg, hk, hb⟩ : KAt encK encV w g kv := hw.ents _ (List.mem_of_getElem? hL)
  have hlt : g < w.heap.size := (Array.getElem?_eq_some_iff.1 hg).1
  have hr : (execOp a.eval o).run P w = .ok (.value (.pointer (some ⟨w.heap.size, 0, none⟩))) (w.alloc (.mapIter (some g) clock #[] clock)) := by
    simp [execOp, ho, ha.eval hm, run_range_map w t kt et g es clock h1 hg]
  unfold Does
  rw [hr, hd]
  refine ⟨_, _, hT w.heap.size, ha.put hdn _, ?_⟩
  refine hw.setI hL rfl rfl rfl (by simp) (show IAt encK encV _ g w.heap.size kv [] from ?_) (by simp [Ent.blocks, kiter]; omega) (fun b hb => ?_) (fun k hk1 _ => Below.heap_alloc w _ k hk1)
  · refine ⟨es, clock, clock, #[], kv, (Below.heap_alloc w _ g hlt).trans hg, hk, hb, heap_alloc_new w _, hb.2, Nat.le_refl _, ?_, List.Perm.refl _, by simp⟩
    rw [List.filter_eq_self.2 (by simp)]
    exact hk
  · rcases List.mem_cons.1 hb with rfl | hb
    · exact .inl (by simp [Ent.blocks, kmap])
    · obtain rfl := List.mem_singleton.1 hb
      exact .inr (Nat.le_refl _)
theorem op_knext {m : Operand} {g i d r : Nat} {kv : List (κ × α)} {ks : List κ} (ho : o.op = .next m false) (hd : o.dst = some d) (hdn : Nat.blt d n = true) (hm : ev V m = some (.pointer (some ⟨r, 0, none⟩))) (hL : L[i]? = some (kiter encK encV g r kv ks))
    (hT : ∀ (b : Bool) (v : Array Value) (ks' : List κ), v[0]? = some (.bool b) → (b = false → ks' = ks ∧ ks.Perm (kv.map Prod.fst)) → (b = true → ks.length < kv.length ∧ ∃ k, ks' = ks ++ [k]) → T ((d, .tuple v) :: V) (L.set i (kiter encK encV g r kv ks'))) : OpS P w0 O n D o V L T := by
  intro a w ha hw
  have hsat : IAt encK encV w g r kv ks := hw.ents _ (List.mem_of_getElem? hL)
  obtain ⟨es, clock, since, seen, rest, hg, hk, hb, hr, hold, hsc, hrest, hp, hlast⟩ := hsat
  have hf : (leftOf es seen).toList = es.toList.filter fun x => !seen.contains x.born := by unfold leftOf; rw [← Array.toList_filter]
  have hset : L.set i (kiter encK encV g r kv ks) = L := by
    apply List.ext_getElem?
    intro j
    rw [List.getElem?_set]
    split
    · rename_i h; subst h; rw [hL]; split <;> simp_all
    · rfl
  rcases run_next_at (P := P) w o.type r g since clock seen es clock hr hg hold hsc with ⟨h0, hrun⟩ | ⟨e, he, w1, hal, hrun⟩
  · have hrr : (execOp a.eval o).run P w = .ok (.value (.tuple #[.bool false])) w := by simp [execOp, ho, ha.eval hm, hrun]
    unfold Does
    rw [hrr, hd]
    have hl0 : (leftOf es seen).toList = [] := by rw [Array.eq_empty_of_size_eq_zero h0]
    rw [← hf, hl0] at hrest
    have hr0 : rest = [] := by cases rest with
      | nil => rfl
      | cons x r => simp [Ents] at hrest
    subst hr0
    rw [List.map_nil, List.append_nil] at hp
    refine ⟨_, _, hT false #[.bool false] ks rfl (fun _ => ⟨rfl, hp⟩) (fun h => by cases h), ha.put hdn _, by rw [hset]; exact hw⟩
  · have hrr : (execOp a.eval o).run P w = .ok (.value (.tuple #[.bool true, e.key, e.val])) (setBlock w1 r (.mapIter (some g) since (seen.push e.born) clock)) := by simp [execOp, ho, ha.eval hm, hrun]
    unfold Does
    rw [hrr, hd]
    rw [hf] at he
    obtain ⟨j, hj⟩ := List.getElem?_of_mem he
    have hem := (List.mem_filter.1 he).1
    have h9 := congrArg (·[j]?) hrest
    simp only [List.getElem?_map, hj, Option.map_some] at h9
    obtain ⟨p, hpj, hpe⟩ : ∃ p, rest[j]? = some p ∧ e.key = encK p.1 := by
      cases hq : rest[j]? with
      | none => rw [hq] at h9; cases h9
      | some p =>
        rw [hq, Option.map_some, Option.some.injEq, Prod.mk.injEq] at h9
        exact ⟨p, rfl, h9.1⟩
    have hlen : ks.length < kv.length := by
      have := hp.length_eq
      have := (List.getElem?_eq_some_iff.1 hpj).1
      simp at *
      omega
    have hr1 : w1.heap[r]? = some (.mapIter (some g) since seen clock) := by rcases hal with rfl | rfl <;> exact hr
    have hg1 : w1.heap[g]? = some (.map es clock) := by rcases hal with rfl | rfl <;> exact hg
    have hne : g ≠ r := fun e2 => by rw [e2, hr] at hg; cases hg
    have hs2 := MapKept.heap_set (o' := .mapIter (some g) since (seen.push e.born) clock) hr1
    refine ⟨_, _, hT true #[.bool true, e.key, e.val] (ks ++ [p.1]) rfl (fun h => by cases h) (fun _ => ⟨hlen, p.1, rfl⟩), ha.put hdn _, ?_⟩
    refine hw.setI hL ?_ ?_ ?_ ?_ (show IAt encK encV _ g r kv (ks ++ [p.1]) from ?_) (by simp [Ent.blocks, kiter, hne]) (fun b hb => .inl hb) (fun k _ hkb => ?_)
    · rcases hal with rfl | rfl <;> rfl
    · rcases hal with rfl | rfl <;> rfl
    · rcases hal with rfl | rfl <;> rfl
    · rcases hal with rfl | rfl <;> simp [setBlock]
    · refine ⟨es, clock, since, seen.push e.born, rest.eraseIdx j, (hs2.2 g hne).trans hg1, hk, hb, hs2.1, hold, hsc, ?_, ?_, ?_⟩
      · have h5 : (es.toList.filter fun x => !(seen.push e.born).contains x.born) = (es.toList.filter fun x => !seen.contains x.born).eraseIdx j := by
          rw [← filter_born (hb.1.sublist (List.Sublist.map _ List.filter_sublist)) hj, List.filter_filter]
          congr 1
          funext x
          rw [contains_push, Bool.not_or, Bool.and_comm]
        rw [h5]
        unfold Ents at hrest ⊢
        rw [map_eraseIdx, map_eraseIdx, hrest]
      · rw [List.append_assoc]
        refine List.Perm.trans (List.Perm.append_left _ ?_) hp
        rw [List.singleton_append]
        exact List.Perm.trans (List.Perm.of_eq (by rw [map_eraseIdx])) (perm_erase (by rw [List.getElem?_map, hpj]; rfl))
      · intro k hk2
        rw [List.getLast?_concat] at hk2
        cases hk2
        exact ⟨e, hem, seen, rfl, hpe⟩
    · have hkr : k ≠ r := fun e2 => hkb (by rw [e2]; simp [Ent.blocks, kiter])
      refine (hs2.2 k hkr).trans ?_
      rcases hal with rfl | rfl <;> rfl
theorem op_kiterEntry {m : Operand} {g i d r : Nat} {kv : List (κ × α)} {ks : List κ} {k : κ} (ho : o.op = .entry m) (hd : o.dst = some d) (hdn : Nat.blt d n = true) (hm : ev V m = some (.pointer (some ⟨r, 0, none⟩))) (hL : L[i]? = some (kiter encK encV g r kv (ks ++ [k])))
    (hT : ∀ v, T ((d, .tuple #[encK k, v]) :: V) L) : OpS P w0 O n D o V L T := by
  intro a w ha hw
  have hsat : IAt encK encV w g r kv (ks ++ [k]) := hw.ents _ (List.mem_of_getElem? hL)
  obtain ⟨es, clock, since, seen, rest, hg, hk, hb, hr, hold, hsc, hrest, hp, hlast⟩ := hsat
  obtain ⟨e, he, seen', rfl, hek⟩ := hlast k (List.getLast?_concat ..)
  have hrun := run_entry_at (P := P) w r g since seen' es clock e hr hg he hb.1
  rw [hek] at hrun
  have hrr : (execOp a.eval o).run P w = .ok (.value (.tuple #[encK k, e.val])) w := by simp [execOp, ho, ha.eval hm, hrun]
  unfold Does
  rw [hrr, hd]
  exact ⟨_, _, hT e.val, ha.put hdn _, hw⟩
/-- The iterator is put away. -/
theorem CX.kiterEnd {g i r : Nat} {kv : List (κ × α)} {ks : List κ} (hL : L[i]? = some (kiter encK encV g r kv ks)) (h : CX P rr Q w0 O n D c V (L.set i (kmap encK encV g kv))) : CX P rr Q w0 O n D c V L := fun a w ha hw => h a w ha (by
  obtain ⟨es, clock, since, seen, rest, hg, hk, hb, _⟩ : IAt encK encV w g r kv ks := hw.ents _ (List.mem_of_getElem? hL)
  exact hw.setI hL rfl rfl rfl (Nat.le_refl _) (show KAt encK encV w g kv from ⟨es, clock, hg, hk, hb⟩) (by simp [Ent.blocks, kmap]) (fun b hb => .inl (by
    obtain rfl := List.mem_singleton.1 hb
    simp [Ent.blocks, kiter])) (fun _ _ _ => rfl))
end
end Go.Proofs.YtpcfgoadkfajfaaGreatDoor
namespace Go.Proofs.YtpcfgoadkfajfaaGreatDoor
set_option linter.all false
open Go Go.RowKit
set_option maxRecDepth 100000
theorem zero_30 : Zero Tryz.prog 30 (.agg (#[.slice none 0 0, .slice none 0 0, .slice none 0 0, .slice none 0 0, .slice none 0 0, .slice none 0 0, .slice none 0 0, .slice none 0 0, .slice none 0 0, .slice none 0 0])) := ⟨(Tryz.prog.info? 30).get!, by kernel_rfl, by kernel_rfl⟩
theorem kmapt_46 : KMapT Tryz.prog key3 46 (.agg (#[.int .i64 0, .int .i64 0, .int .i64 0, .int .i64 0, .int .i64 0, .int .i64 0, .int .i64 0, .int .i64 0, .int .i64 0, .int .i64 0, .int .i64 0, .int .i64 0, .int .i64 0, .int .i64 0, .int .i64 0, .int .i64 0, .int .i64 0, .string .empty])) := ⟨_, _, (Tryz.prog.info? 27).get!, Tryz.underlying46, (keyOk_three Tryz.underlying48 Tryz.underlying3 (by kernel_rfl : Tryz.prog.info? 3 = some (Tryz.prog.info? 3).get!) (by kernel_rfl)), by kernel_rfl, by kernel_rfl⟩
theorem ent_17 : ∀ args w, (callFunc 17 args).run Tryz.prog w = .ok (.enter 17 args) w := enters_of Tryz.func17 (by kernel_rfl) rfl
theorem slb_52 : SlB Tryz.prog 52 48 3 24 (.agg (#[.int .i64 0, .int .i64 0, .int .i64 0])) := ⟨Tryz.underlying52, ⟨(Tryz.prog.info? 48).get!, by kernel_rfl, by kernel_rfl, by kernel_rfl, by kernel_rfl⟩, by decide, by decide⟩
theorem ent_18 : ∀ args w, (callFunc 18 args).run Tryz.prog w = .ok (.enter 18 args) w := enters_of Tryz.func18 (by kernel_rfl) rfl
theorem fld_30_0 : Fld Tryz.prog 30 0 0 := ⟨_, _, (Tryz.prog.info? 22).get!, Tryz.underlying30, rfl, rfl, by kernel_rfl, by decide +kernel⟩
theorem mapt_57 : MapT Tryz.prog 57 (.pointer none) := ⟨_, _, (Tryz.prog.info? 56).get!, Tryz.underlying57, Tryz.underlying3, by kernel_rfl, by kernel_rfl⟩
theorem fld_30_2 : Fld Tryz.prog 30 2 2 := ⟨_, _, (Tryz.prog.info? 22).get!, Tryz.underlying30, rfl, rfl, by kernel_rfl, by decide +kernel⟩
theorem fld_30_3 : Fld Tryz.prog 30 3 3 := ⟨_, _, (Tryz.prog.info? 22).get!, Tryz.underlying30, rfl, rfl, by kernel_rfl, by decide +kernel⟩
theorem fld_30_4 : Fld Tryz.prog 30 4 4 := ⟨_, _, (Tryz.prog.info? 22).get!, Tryz.underlying30, rfl, rfl, by kernel_rfl, by decide +kernel⟩
theorem fld_30_5 : Fld Tryz.prog 30 5 5 := ⟨_, _, (Tryz.prog.info? 22).get!, Tryz.underlying30, rfl, rfl, by kernel_rfl, by decide +kernel⟩
theorem fld_30_6 : Fld Tryz.prog 30 6 6 := ⟨_, _, (Tryz.prog.info? 22).get!, Tryz.underlying30, rfl, rfl, by kernel_rfl, by decide +kernel⟩
theorem fld_30_7 : Fld Tryz.prog 30 7 7 := ⟨_, _, (Tryz.prog.info? 22).get!, Tryz.underlying30, rfl, rfl, by kernel_rfl, by decide +kernel⟩
theorem fld_30_8 : Fld Tryz.prog 30 8 8 := ⟨_, _, (Tryz.prog.info? 22).get!, Tryz.underlying30, rfl, rfl, by kernel_rfl, by decide +kernel⟩
theorem fld_30_9 : Fld Tryz.prog 30 9 9 := ⟨_, _, (Tryz.prog.info? 22).get!, Tryz.underlying30, rfl, rfl, by kernel_rfl, by decide +kernel⟩
theorem slt_52 : SlT Tryz.prog 52 48 3 := ⟨(Tryz.prog.info? 48).get!, Tryz.underlying52, by kernel_rfl, by kernel_rfl⟩
theorem szt_22 : SzT Tryz.prog 22 1 := ⟨(Tryz.prog.info? 22).get!, by kernel_rfl, by kernel_rfl⟩
theorem szt_30 : SzT Tryz.prog 30 10 := ⟨(Tryz.prog.info? 30).get!, by kernel_rfl, by kernel_rfl⟩
theorem bkt_len {kv : List (K3 × Fc)} {ks : List K3} {n : Nat} {j : Nat} (h : ks.length ≤ n) {i : Nat} : (bkt kv (ks.take i) j).length ≤ n := by
  unfold bkt
  refine Nat.le_trans (List.length_filter_le _ _) (Nat.le_trans (List.length_filterMap_le _ _) ?_)
  rw [List.length_take]; omega
set_option maxRecDepth 100000 in
theorem w_ofB {w : World} {A0 : Option Addr} {cap0 : Nat} (fs : List Fc) (hr0 : Rd w A0 18 (fs.map fcC)) (hl : fs.length ≤ 1000) :
    Calls Tryz.prog 6 #[.slice A0 fs.length cap0] w (fun e w' => ∃ bs : List Bk, (bs.length = 10 ∧ ∀ j b, bs[j]? = some b → b.2 = baseOf fs j) ∧ e = .returned (.agg (bkC bs)) ∧ SL w [] w' [pack (List.map bkE bs)]) := by
 refine calls_of_CX (O := []) (L := []) (args := [.slice A0 fs.length cap0]) Tryz.func6 rfl (by simp [Tryz.ntmps6]) (SL.refl w) ?_
 refine CX.sub (V' := [(0, .slice A0 fs.length cap0)]) ⟨rfl, trivial⟩ ?_
 refine CX.seq ?_
 refine CX.region ?_
 refine RX.cons rfl rfl (op_alloc rfl rfl rfl zero_30 fun gR => ?_)
 refine RX.nil (XX.next (V' := [(0, _), (2, .pointer (some ⟨gR, 0, none⟩))]) ⟨rfl, rfl, trivial⟩ ?_)
 refine CX.seq ?_
 refine CX.region ?_
 refine RX.cons rfl rfl (op_kmake key3 fcVal rfl rfl rfl fun mk => ?_)
 refine RX.cons rfl rfl (op_w (yw_assign rfl rfl) rfl rfl ?_)
 refine RX.nil (XX.next (V' := [(0, _), (2, .pointer (some ⟨gR, 0, none⟩)), (3, _)]) ⟨rfl, rfl, rfl, trivial⟩ ?_)
 refine CX.seq ?_
 refine CX.seq ?_
 refine CX.region ?_
 refine RX.cons rfl rfl (op_w (yw_move rfl rfl) rfl rfl ?_)
 refine RX.cons rfl rfl (op_w (yw_lenS rfl Tryz.underlying22 rfl) rfl rfl ?_)
 refine RX.cons rfl rfl (op_w (yw_move rfl rfl) rfl rfl ?_)
 refine RX.nil (XX.next (V' := [(2, .pointer (some ⟨gR, 0, none⟩)), (3, _), (17, _), (18, _), (19, _)]) ⟨rfl, rfl, rfl, rfl, rfl, trivial⟩ ?_)
 refine CX.block ?_
 refine CX.loop (σ := Nat × List (K3 × Fc)) (fun z => [(2, .pointer (some ⟨gR, 0, none⟩)), (3, .map (some mk)), (17, .slice A0 fs.length cap0), (18, .int .i64 ((fs.length : Nat) : Int)), (19, .int .i64 ((z.1 : Nat) : Int))]) (fun z => [kmap key3 fcVal mk z.2, .blk gR (.cells (#[.slice none 0 0, .slice none 0 0, .slice none 0 0, .slice none 0 0, .slice none 0 0, .slice none 0 0, .slice none 0 0, .slice none 0 0, .slice none 0 0, .slice none 0 0]) 30 (0, 0))]) (fun z => z.1 ≤ fs.length ∧ z.2 = kvOf (fs.take z.1)) (fun z => fs.length - z.1) (0, []) ⟨Nat.zero_le _, rfl⟩ ⟨rfl, rfl, rfl, rfl, rfl, trivial⟩ rfl (fun z hI => ?_)
 obtain ⟨i, kv⟩ := z
 dsimp only at hI ⊢
 obtain ⟨hi, hkv⟩ := hI
 refine CX.seq ?_
 refine CX.region ?_
 refine RX.cons rfl rfl (op_w (yw_lss rfl rfl rfl) rfl rfl ?_)
 refine RX.nil (XX.next (V' := [(2, .pointer (some ⟨gR, 0, none⟩)), (3, _), (17, _), (18, _), (19, _), (20, _)]) ⟨rfl, rfl, rfl, rfl, rfl, rfl, trivial⟩ ?_)
 refine CX.seq ?_
 refine CX.condD (p := ((i : Nat) : Int) < ((fs.length : Nat) : Int)) rfl (fun c20 => ?_) (fun c20 => ?_)
 ·obtain ⟨x0, hx0⟩ := get_some (l := fs) (k := i) (by omega)
  have hx0m := List.mem_of_getElem? hx0
  have hA0 : ∃ b j, A0 = some ⟨b, j, none⟩ := hr0.some (k := 0) (by simp; omega)
  refine CX.skip (XX.next (V' := [(2, .pointer (some ⟨gR, 0, none⟩)), (3, _), (17, _), (18, _), (19, _)]) ⟨rfl, rfl, rfl, rfl, rfl, trivial⟩ ?_)
  refine CX.seq ?_
  refine CX.block ?_
  refine CX.seq ?_
  refine CX.region ?_
  refine RX.cons rfl rfl (op_w (yw_index (k := i) rfl slt_22 rfl rfl (by omega) (by omega) hA0) rfl rfl ?_)
  refine RX.cons rfl rfl (op_yld (y_elem rfl rfl agg_27 hr0 (by simp) (map_get hx0)) rfl rfl ?_)
  refine RX.cons rfl rfl (op_alloc rfl rfl rfl zero_27 fun g5 => ?_)
  refine RX.cons rfl rfl (op_storeAll (i := 0) rfl rfl rfl rfl szt_27 rfl (plain_of rfl) rfl rfl ?_)
  refine RX.nil (XX.next (V' := [(2, .pointer (some ⟨gR, 0, none⟩)), (3, _), (5, _), (17, _), (18, _), (19, _)]) ⟨rfl, rfl, rfl, rfl, rfl, rfl, trivial⟩ ?_)
  refine CX.seq ?_
  refine CX.seq ?_
  refine CX.region ?_
  refine RX.cons rfl rfl (op_yld (y_loadA (i := 0) rfl rfl agg_27 rfl rfl) rfl rfl ?_)
  refine RX.cons rfl rfl (op_callV (v := .bool (validF x0)) rfl rfl rfl rfl rfl ent_15 (fun w _ => w_valid x0) ?_)
  refine RX.cons rfl rfl (op_w (yw_not rfl rfl) rfl rfl ?_)
  refine RX.nil (XX.next (V' := [(2, .pointer (some ⟨gR, 0, none⟩)), (3, _), (5, _), (17, _), (18, _), (19, _), (25, _)]) ⟨rfl, rfl, rfl, rfl, rfl, rfl, rfl, trivial⟩ ?_)
  refine CX.cond (b := !(validF x0)) rfl (fun c25 => ?_) (fun c25 => ?_)
  ·refine CX.exit ?_
   refine XX.then_exit ?_
   refine XX.block_exit ?_
   refine XX.next (V' := [(2, .pointer (some ⟨gR, 0, none⟩)), (3, _), (17, _), (18, _), (19, _)]) ⟨rfl, rfl, rfl, rfl, rfl, trivial⟩ ?_
   refine CX.region ?_
   refine RX.cons rfl rfl (op_w (yw_add rfl rfl rfl (by omega) (by omega)) rfl rfl ?_)
   refine RX.cons rfl rfl (op_w (yw_move rfl rfl) rfl rfl ?_)
   refine RX.nil (XX.againP ([.blk g5 (.cells (fcC x0) 27 (0, 0))]) (i + 1, kv) (by dsimp only; omega) ⟨by dsimp only; omega, by dsimp only; rw [kvOf_succ hx0, ← hkv, step_bad (by simpa using c25)]⟩ ⟨rfl, rfl, rfl, rfl, rfl, trivial⟩ ((perm_pick 1 rfl).trans (List.Perm.cons _ ((perm_pick 1 rfl).trans (List.Perm.cons _ (List.Perm.refl _))))))
  ·have hv : validF x0 = true := by simpa using c25
   refine CX.skip (XX.next (V' := [(2, .pointer (some ⟨gR, 0, none⟩)), (3, _), (5, _), (17, _), (18, _), (19, _)]) ⟨rfl, rfl, rfl, rfl, rfl, rfl, trivial⟩ ?_)
   refine CX.seq ?_
   refine CX.region ?_
   refine RX.cons rfl rfl (op_yld (y_loadA (i := 0) rfl rfl agg_27 rfl rfl) rfl rfl ?_)
   refine RX.cons rfl rfl (op_callV (v := .agg (c3 (keyF x0))) rfl rfl rfl rfl rfl ent_16 (fun w _ => w_key x0 (valid_parts hv).1) ?_)
   refine RX.cons rfl rfl (op_alloc rfl rfl rfl zero_48 fun g6 => ?_)
   refine RX.cons rfl rfl (op_storeAll (i := 0) rfl rfl rfl rfl szt_48 rfl (plain_of rfl) rfl rfl ?_)
   refine RX.nil (XX.next (V' := [(2, .pointer (some ⟨gR, 0, none⟩)), (3, _), (5, _), (6, _), (17, _), (18, _), (19, _)]) ⟨rfl, rfl, rfl, rfl, rfl, rfl, rfl, trivial⟩ ?_)
   refine CX.seq ?_
   rcases hkg : kget (keyF x0) kv with _ | g0
   ·refine CX.region ?_
    refine RX.cons rfl rfl (op_w (yw_move rfl rfl) rfl rfl ?_)
    refine RX.cons rfl rfl (op_yld (y_loadA (i := 0) rfl rfl agg_48 rfl rfl) rfl rfl ?_)
    refine RX.cons rfl rfl (op_yld (y_klookupOk (i := 2) (k := (keyF x0)) (kv := kv) (encK := key3) (encV := fcVal) rfl rfl rfl kmapt_46 rfl) rfl rfl ?_)
    refine RX.know (t := 31) (u := .tuple #[.agg (fcC fc0), .bool false]) rfl (by rw [hkg]; rfl) ?_
    refine RX.cons rfl rfl (op_w (yw_move rfl rfl) rfl rfl ?_)
    refine RX.cons rfl rfl (op_w (yw_extract rfl rfl rfl) rfl rfl ?_)
    refine RX.cons rfl rfl (op_w (yw_extract rfl rfl rfl) rfl rfl ?_)
    refine RX.cons rfl rfl (op_alloc rfl rfl rfl zero_27 fun g7 => ?_)
    refine RX.cons rfl rfl (op_storeAll (i := 0) rfl rfl rfl rfl szt_27 rfl (plain_of rfl) rfl rfl ?_)
    refine RX.cons rfl rfl (op_w (yw_assign rfl rfl) rfl rfl ?_)
    refine RX.nil (XX.next (V' := [(2, .pointer (some ⟨gR, 0, none⟩)), (3, _), (5, _), (6, _), (7, _), (8, _), (17, _), (18, _), (19, _)]) ⟨rfl, rfl, rfl, rfl, rfl, rfl, rfl, rfl, rfl, trivial⟩ ?_)
    refine CX.seq ?_
    refine CX.region ?_
    refine RX.cons rfl rfl (op_w (yw_move rfl rfl) rfl rfl ?_)
    refine RX.cons rfl rfl (op_w (yw_not rfl rfl) rfl rfl ?_)
    refine RX.cons rfl rfl (op_w (yw_move rfl rfl) rfl rfl ?_)
    refine RX.skip rfl rfl rfl rfl rfl rfl rfl ?_
    refine RX.skip rfl rfl rfl rfl rfl rfl rfl ?_
    refine RX.skip rfl rfl rfl rfl rfl rfl rfl ?_
    refine RX.cons rfl rfl (op_w (yw_pickT rfl rfl rfl) rfl rfl ?_)
    refine RX.nil (XX.next (V' := [(2, .pointer (some ⟨gR, 0, none⟩)), (3, _), (5, _), (6, _), (17, _), (18, _), (19, _), (40, _)]) ⟨rfl, rfl, rfl, rfl, rfl, rfl, rfl, rfl, trivial⟩ ?_)
    refine CX.condT rfl ?_
    refine CX.region ?_
    refine RX.cons rfl rfl (op_w (yw_move rfl rfl) rfl rfl ?_)
    refine RX.cons rfl rfl (op_yld (y_loadA (i := 1) rfl rfl agg_48 rfl rfl) rfl rfl ?_)
    refine RX.cons rfl rfl (op_yld (y_loadA (i := 2) rfl rfl agg_27 rfl rfl) rfl rfl ?_)
    refine RX.cons rfl rfl (op_kupdate (i := 3) (k := (keyF x0)) (u := x0) (kv := kv) (encK := key3) (encV := fcVal) (.inl rfl) rfl rfl rfl rfl kmapt_46 rfl ?_)
    refine RX.nil (XX.inBlock (V' := [(2, .pointer (some ⟨gR, 0, none⟩)), (3, _), (17, _), (18, _), (19, _)]) ⟨rfl, rfl, rfl, rfl, rfl, trivial⟩ ?_)
    refine XX.next (V' := [(2, .pointer (some ⟨gR, 0, none⟩)), (3, _), (17, _), (18, _), (19, _)]) ⟨rfl, rfl, rfl, rfl, rfl, trivial⟩ ?_
    refine CX.region ?_
    refine RX.cons rfl rfl (op_w (yw_add rfl rfl rfl (by omega) (by omega)) rfl rfl ?_)
    refine RX.cons rfl rfl (op_w (yw_move rfl rfl) rfl rfl ?_)
    refine RX.nil (XX.againP ([.blk g7 (.cells (fcC fc0) 27 (0, 0)), .blk g6 (.cells (c3 (keyF x0)) 48 (0, 0)), .blk g5 (.cells (fcC x0) 27 (0, 0))]) (i + 1, kset (keyF x0) x0 kv) (by dsimp only; omega) ⟨by dsimp only; omega, by dsimp only; rw [kvOf_succ hx0, ← hkv, step_new hv hkg]⟩ ⟨rfl, rfl, rfl, rfl, rfl, trivial⟩ ((perm_pick 3 rfl).trans (List.Perm.cons _ ((perm_pick 3 rfl).trans (List.Perm.cons _ (List.Perm.refl _))))))
   ·have hg0 := (kvOf_ok _).2.1 _ _ (hkv ▸ hkg)
    refine CX.region ?_
    refine RX.cons rfl rfl (op_w (yw_move rfl rfl) rfl rfl ?_)
    refine RX.cons rfl rfl (op_yld (y_loadA (i := 0) rfl rfl agg_48 rfl rfl) rfl rfl ?_)
    refine RX.cons rfl rfl (op_yld (y_klookupOk (i := 2) (k := (keyF x0)) (kv := kv) (encK := key3) (encV := fcVal) rfl rfl rfl kmapt_46 rfl) rfl rfl ?_)
    refine RX.know (t := 31) (u := .tuple #[.agg (fcC g0), .bool true]) rfl (by rw [hkg]; rfl) ?_
    refine RX.cons rfl rfl (op_w (yw_move rfl rfl) rfl rfl ?_)
    refine RX.cons rfl rfl (op_w (yw_extract rfl rfl rfl) rfl rfl ?_)
    refine RX.cons rfl rfl (op_w (yw_extract rfl rfl rfl) rfl rfl ?_)
    refine RX.cons rfl rfl (op_alloc rfl rfl rfl zero_27 fun g7 => ?_)
    refine RX.cons rfl rfl (op_storeAll (i := 0) rfl rfl rfl rfl szt_27 rfl (plain_of rfl) rfl rfl ?_)
    refine RX.cons rfl rfl (op_w (yw_assign rfl rfl) rfl rfl ?_)
    refine RX.nil (XX.next (V' := [(2, .pointer (some ⟨gR, 0, none⟩)), (3, _), (5, _), (6, _), (7, _), (8, _), (17, _), (18, _), (19, _)]) ⟨rfl, rfl, rfl, rfl, rfl, rfl, rfl, rfl, rfl, trivial⟩ ?_)
    refine CX.seq ?_
    refine CX.region ?_
    refine RX.cons rfl rfl (op_w (yw_move rfl rfl) rfl rfl ?_)
    refine RX.cons rfl rfl (op_w (yw_not rfl rfl) rfl rfl ?_)
    refine RX.cons rfl rfl (op_w (yw_move rfl rfl) rfl rfl ?_)
    refine RX.consG rfl rfl rfl rfl rfl (op_yld (y_loadA (i := 2) rfl rfl agg_27 rfl rfl) rfl rfl ?_)
    refine RX.consG rfl rfl rfl rfl rfl (op_yld (y_loadA (i := 0) rfl rfl agg_27 rfl rfl) rfl rfl ?_)
    refine RX.consG rfl rfl rfl rfl rfl (op_callV (v := .bool (prevF x0 g0)) rfl rfl rfl rfl rfl ent_17 (fun w _ => w_prev x0 g0 hv hg0.2.1 hg0.2.2.symm) ?_)
    refine RX.cons rfl rfl (op_w (yw_pickF rfl rfl rfl) rfl rfl ?_)
    refine RX.nil (XX.next (V' := [(2, .pointer (some ⟨gR, 0, none⟩)), (3, _), (5, _), (6, _), (17, _), (18, _), (19, _), (40, _)]) ⟨rfl, rfl, rfl, rfl, rfl, rfl, rfl, rfl, trivial⟩ ?_)
    refine CX.cond (b := prevF x0 g0) rfl (fun c40 => ?_) (fun c40 => ?_)
    ·refine CX.region ?_
     refine RX.cons rfl rfl (op_w (yw_move rfl rfl) rfl rfl ?_)
     refine RX.cons rfl rfl (op_yld (y_loadA (i := 1) rfl rfl agg_48 rfl rfl) rfl rfl ?_)
     refine RX.cons rfl rfl (op_yld (y_loadA (i := 2) rfl rfl agg_27 rfl rfl) rfl rfl ?_)
     refine RX.cons rfl rfl (op_kupdate (i := 3) (k := (keyF x0)) (u := x0) (kv := kv) (encK := key3) (encV := fcVal) (.inl rfl) rfl rfl rfl rfl kmapt_46 rfl ?_)
     refine RX.nil (XX.inBlock (V' := [(2, .pointer (some ⟨gR, 0, none⟩)), (3, _), (17, _), (18, _), (19, _)]) ⟨rfl, rfl, rfl, rfl, rfl, trivial⟩ ?_)
     refine XX.next (V' := [(2, .pointer (some ⟨gR, 0, none⟩)), (3, _), (17, _), (18, _), (19, _)]) ⟨rfl, rfl, rfl, rfl, rfl, trivial⟩ ?_
     refine CX.region ?_
     refine RX.cons rfl rfl (op_w (yw_add rfl rfl rfl (by omega) (by omega)) rfl rfl ?_)
     refine RX.cons rfl rfl (op_w (yw_move rfl rfl) rfl rfl ?_)
     refine RX.nil (XX.againP ([.blk g7 (.cells (fcC g0) 27 (0, 0)), .blk g6 (.cells (c3 (keyF x0)) 48 (0, 0)), .blk g5 (.cells (fcC x0) 27 (0, 0))]) (i + 1, kset (keyF x0) x0 kv) (by dsimp only; omega) ⟨by dsimp only; omega, by dsimp only; rw [kvOf_succ hx0, ← hkv, step_win hv hkg c40]⟩ ⟨rfl, rfl, rfl, rfl, rfl, trivial⟩ ((perm_pick 3 rfl).trans (List.Perm.cons _ ((perm_pick 3 rfl).trans (List.Perm.cons _ (List.Perm.refl _))))))
    ·refine CX.skip (XX.inBlock (V' := [(2, .pointer (some ⟨gR, 0, none⟩)), (3, _), (17, _), (18, _), (19, _)]) ⟨rfl, rfl, rfl, rfl, rfl, trivial⟩ ?_)
     refine XX.next (V' := [(2, .pointer (some ⟨gR, 0, none⟩)), (3, _), (17, _), (18, _), (19, _)]) ⟨rfl, rfl, rfl, rfl, rfl, trivial⟩ ?_
     refine CX.region ?_
     refine RX.cons rfl rfl (op_w (yw_add rfl rfl rfl (by omega) (by omega)) rfl rfl ?_)
     refine RX.cons rfl rfl (op_w (yw_move rfl rfl) rfl rfl ?_)
     refine RX.nil (XX.againP ([.blk g7 (.cells (fcC g0) 27 (0, 0)), .blk g6 (.cells (c3 (keyF x0)) 48 (0, 0)), .blk g5 (.cells (fcC x0) 27 (0, 0))]) (i + 1, kv) (by dsimp only; omega) ⟨by dsimp only; omega, by dsimp only; rw [kvOf_succ hx0, ← hkv, step_lose hv hkg (by simpa using c40)]⟩ ⟨rfl, rfl, rfl, rfl, rfl, trivial⟩ ((perm_pick 3 rfl).trans (List.Perm.cons _ ((perm_pick 3 rfl).trans (List.Perm.cons _ (List.Perm.refl _))))))
 ·rw [List.take_of_length_le (by omega)] at hkv
  have hkl := kvOf_len fs
  rw [← hkv] at hkl
  refine CX.exit ?_
  refine XX.then_exit ?_
  refine XX.then_exit ?_
  refine XX.block_exit ?_
  refine XX.next (V' := [(2, .pointer (some ⟨gR, 0, none⟩)), (3, _)]) ⟨rfl, rfl, trivial⟩ ?_
  refine CX.seq ?_
  refine CX.region ?_
  refine RX.cons rfl rfl (op_w (yw_assign rfl rfl) rfl rfl ?_)
  refine RX.nil (XX.next (V' := [(2, .pointer (some ⟨gR, 0, none⟩)), (3, _), (9, _)]) ⟨rfl, rfl, rfl, trivial⟩ ?_)
  refine CX.seq ?_
  refine CX.seq ?_
  refine CX.region ?_
  refine RX.cons rfl rfl (op_w (yw_move rfl rfl) rfl rfl ?_)
  refine RX.cons rfl rfl (op_krange (i := 0) (kv := kv) (encK := key3) (encV := fcVal) rfl rfl rfl rfl kmapt_46 rfl fun it => ?_)
  refine RX.nil (XX.next (V' := [(2, .pointer (some ⟨gR, 0, none⟩)), (3, _), (9, _), (46, _)]) ⟨rfl, rfl, rfl, rfl, trivial⟩ ?_)
  refine CX.block ?_
  refine CX.rowNil 48 3 ?_
  refine CX.loop (σ := (Option Addr × Nat) × List K3) (fun z => [(2, .pointer (some ⟨gR, 0, none⟩)), (3, .map (some mk)), (9, .slice z.1.1 (List.length (z.2 : List K3)) z.1.2), (46, .pointer (some ⟨it, 0, none⟩))]) (fun z => [.row z.1.1 z.1.2 48 3 (List.map c3 z.2), kiter key3 fcVal mk it kv z.2, .blk gR (.cells (#[.slice none 0 0, .slice none 0 0, .slice none 0 0, .slice none 0 0, .slice none 0 0, .slice none 0 0, .slice none 0 0, .slice none 0 0, .slice none 0 0, .slice none 0 0]) 30 (0, 0))]) (fun z => z.2.length ≤ kv.length) (fun z => kv.length - z.2.length) ((none, 0), []) (Nat.zero_le _) ⟨rfl, rfl, rfl, rfl, trivial⟩ rfl (fun z hI => ?_)
  obtain ⟨⟨A4, c4⟩, ks⟩ := z
  dsimp only at hI ⊢
  refine CX.seq ?_
  refine CX.region ?_
  refine RX.cons rfl rfl (op_knext (i := 1) (kv := kv) (ks := ks) (encK := key3) (encV := fcVal) rfl rfl rfl rfl rfl fun nb nv ks' hn0 hnF hnT => ?_)
  refine RX.cons rfl rfl (op_w (yw_extract rfl rfl hn0) rfl rfl ?_)
  refine RX.nil (XX.next (V' := [(2, .pointer (some ⟨gR, 0, none⟩)), (3, _), (9, _), (46, _), (48, _)]) ⟨rfl, rfl, rfl, rfl, rfl, trivial⟩ ?_)
  refine CX.seq ?_
  refine CX.cond (b := nb) rfl (fun c48 => ?_) (fun c48 => ?_)
  ·obtain ⟨hlt, k, hks⟩ := hnT c48
   subst hks
   refine CX.skip (XX.next (V' := [(2, .pointer (some ⟨gR, 0, none⟩)), (3, _), (9, _), (46, _)]) ⟨rfl, rfl, rfl, rfl, trivial⟩ ?_)
   refine CX.block ?_
   refine CX.seq ?_
   refine CX.region ?_
   refine RX.cons rfl rfl (op_kiterEntry (i := 1) (kv := kv) (ks := ks) (k := k) (encK := key3) (encV := fcVal) rfl rfl rfl rfl rfl fun nu => ?_)
   refine RX.cons rfl rfl (op_w (yw_extract rfl rfl rfl) rfl rfl ?_)
   refine RX.cons rfl rfl (op_alloc rfl rfl rfl zero_48 fun g10 => ?_)
   refine RX.cons rfl rfl (op_storeAll (i := 0) rfl rfl rfl rfl szt_48 rfl (plain_of rfl) rfl rfl ?_)
   refine RX.nil (XX.next (V' := [(2, .pointer (some ⟨gR, 0, none⟩)), (3, _), (9, _), (10, _), (46, _)]) ⟨rfl, rfl, rfl, rfl, rfl, trivial⟩ ?_)
   refine CX.region ?_
   refine RX.cons rfl rfl (op_w (yw_move rfl rfl) rfl rfl ?_)
   refine RX.cons rfl rfl (op_yld (y_loadA (i := 0) rfl rfl agg_48 rfl rfl) rfl rfl ?_)
   refine RX.cons rfl rfl (op_buildSlice rfl rfl rfl slb_52 rfl rfl (by intro v hv; simp only [List.mem_cons, List.not_mem_nil, or_false] at hv; subst hv; exact ⟨rfl, (plain_of rfl)⟩) (by decide) fun g11 => ?_)
   refine RX.cons rfl rfl (op_appendM c3 (i := 2) (j := 0) (xs := ks) ([k]) rfl rfl rfl slb_52 rfl rfl rfl rfl rfl rfl (by simp; omega) (by simp; omega) fun A5 c5 => ?_)
   refine RX.cons rfl rfl (op_w (yw_assign rfl rfl) rfl rfl ?_)
   refine RX.nil (XX.inBlock (V' := [(2, .pointer (some ⟨gR, 0, none⟩)), (3, _), (9, _), (46, _)]) ⟨rfl, rfl, rfl, rfl, trivial⟩ ?_)
   refine XX.againP ([.row (some ⟨g11, 0, none⟩) 1 48 3 (List.map c3 ([k])), .blk g10 (.cells (c3 k) 48 (0, 0))]) ((A5, c5), ks ++ [k]) (by dsimp only; rw [List.length_append, List.length_singleton]; omega) (by dsimp only; rw [List.length_append, List.length_singleton]; omega) ⟨rfl, rfl, rfl, rfl, trivial⟩ ((perm_pick 2 rfl).trans (List.Perm.cons _ ((perm_pick 2 rfl).trans (List.Perm.cons _ ((perm_pick 2 rfl).trans (List.Perm.cons _ (List.Perm.refl _)))))))
  ·obtain ⟨hks, hperm⟩ := hnF c48
   subst ks'
   have hkn := ksort_len ks
   have hn2 : (ksort ks).length ≤ fs.length := by rw [ksort_len]; omega
   refine CX.exit ?_
   refine XX.then_exit ?_
   refine XX.then_exit ?_
   refine XX.block_exit ?_
   refine XX.next (V' := [(2, .pointer (some ⟨gR, 0, none⟩)), (3, _), (9, _)]) ⟨rfl, rfl, rfl, trivial⟩ ?_
   refine CX.seq ?_
   refine CX.kiterEnd (i := 1) rfl ?_
   refine CX.region ?_
   refine RX.cons rfl rfl (op_w (yw_move rfl rfl) rfl rfl ?_)
   refine RX.cons rfl rfl (op_callP [.row A4 c4 48 3 (List.map c3 ks)] [kmap key3 fcVal mk kv, .blk gR (.cells (#[.slice none 0 0, .slice none 0 0, .slice none 0 0, .slice none 0 0, .slice none 0 0, .slice none 0 0, .slice none 0 0, .slice none 0 0, .slice none 0 0, .slice none 0 0]) 30 (0, 0))] rfl rfl rfl rfl rfl ent_18 ((perm_pick 0 rfl).trans (List.Perm.cons _ (List.Perm.refl _))) (σ := Unit) (val := fun _ => .tuple #[]) (LL := fun _ => [.row A4 c4 48 3 (List.map c3 (ksort ks))]) (post := fun _ => True) (fun w hw hs => (w_sortK ks (by simpa using hs) (by omega)).mono fun e w' h => ⟨(), trivial, h.1, by simpa using h.2⟩) (fun _ _ => ?_))
   refine RX.nil (XX.next (V' := [(2, .pointer (some ⟨gR, 0, none⟩)), (3, _), (9, _)]) ⟨rfl, rfl, rfl, trivial⟩ ?_)
   refine CX.seq ?_
   refine CX.region ?_
   refine RX.cons rfl rfl (op_alloc rfl rfl rfl zero_30 fun gB => ?_)
   refine RX.nil (XX.next (V' := [(2, .pointer (some ⟨gR, 0, none⟩)), (3, _), (9, _), (11, _)]) ⟨rfl, rfl, rfl, rfl, trivial⟩ ?_)
   refine CX.seq ?_
   refine CX.region ?_
   refine RX.cons rfl rfl (op_makeMap rfl rfl rfl fun mi => ?_)
   refine RX.cons rfl rfl (op_w (yw_field0 rfl fld_30_0 rfl) rfl rfl ?_)
   refine RX.cons rfl rfl (op_mapUpdate (i := 0) (.inr rfl) rfl rfl rfl rfl mapt_57 rfl ?_)
   refine RX.cons rfl rfl (op_w (yw_fieldAddr rfl fld_30_1 rfl) rfl rfl ?_)
   refine RX.cons rfl rfl (op_mapUpdate (i := 0) (.inr rfl) rfl rfl rfl rfl mapt_57 rfl ?_)
   refine RX.cons rfl rfl (op_w (yw_fieldAddr rfl fld_30_2 rfl) rfl rfl ?_)
   refine RX.cons rfl rfl (op_mapUpdate (i := 0) (.inr rfl) rfl rfl rfl rfl mapt_57 rfl ?_)
   refine RX.cons rfl rfl (op_w (yw_fieldAddr rfl fld_30_3 rfl) rfl rfl ?_)
   refine RX.cons rfl rfl (op_mapUpdate (i := 0) (.inr rfl) rfl rfl rfl rfl mapt_57 rfl ?_)
   refine RX.cons rfl rfl (op_w (yw_fieldAddr rfl fld_30_4 rfl) rfl rfl ?_)
   refine RX.cons rfl rfl (op_mapUpdate (i := 0) (.inr rfl) rfl rfl rfl rfl mapt_57 rfl ?_)
   refine RX.cons rfl rfl (op_w (yw_fieldAddr rfl fld_30_5 rfl) rfl rfl ?_)
   refine RX.cons rfl rfl (op_mapUpdate (i := 0) (.inr rfl) rfl rfl rfl rfl mapt_57 rfl ?_)
   refine RX.cons rfl rfl (op_w (yw_fieldAddr rfl fld_30_6 rfl) rfl rfl ?_)
   refine RX.cons rfl rfl (op_mapUpdate (i := 0) (.inr rfl) rfl rfl rfl rfl mapt_57 rfl ?_)
   refine RX.cons rfl rfl (op_w (yw_fieldAddr rfl fld_30_7 rfl) rfl rfl ?_)
   refine RX.cons rfl rfl (op_mapUpdate (i := 0) (.inr rfl) rfl rfl rfl rfl mapt_57 rfl ?_)
   refine RX.cons rfl rfl (op_w (yw_fieldAddr rfl fld_30_8 rfl) rfl rfl ?_)
   refine RX.cons rfl rfl (op_mapUpdate (i := 0) (.inr rfl) rfl rfl rfl rfl mapt_57 rfl ?_)
   refine RX.cons rfl rfl (op_w (yw_fieldAddr rfl fld_30_9 rfl) rfl rfl ?_)
   refine RX.cons rfl rfl (op_mapUpdate (i := 0) (.inr rfl) rfl rfl rfl rfl mapt_57 rfl ?_)
   refine RX.know1 0 (q := .imap mi (intoF gB)) rfl rfl ?_
   refine RX.cons rfl rfl (op_w (yw_move rfl rfl) rfl rfl ?_)
   refine RX.cons rfl rfl (op_w (yw_assign rfl rfl) rfl rfl ?_)
   refine RX.nil (XX.next (V' := [(2, .pointer (some ⟨gR, 0, none⟩)), (3, _), (9, _), (11, _), (12, _)]) ⟨rfl, rfl, rfl, rfl, rfl, trivial⟩ ?_)
   refine CX.seq ?_
   refine CX.seq ?_
   refine CX.region ?_
   refine RX.cons rfl rfl (op_w (yw_move rfl rfl) rfl rfl ?_)
   refine RX.cons rfl rfl (op_w (yw_lenS rfl Tryz.underlying52 rfl) rfl rfl ?_)
   refine RX.cons rfl rfl (op_w (yw_move rfl rfl) rfl rfl ?_)
   refine RX.nil (XX.next (V' := [(2, .pointer (some ⟨gR, 0, none⟩)), (3, _), (11, _), (12, _), (69, _), (70, _), (71, _)]) ⟨rfl, rfl, rfl, rfl, rfl, rfl, rfl, trivial⟩ ?_)
   refine CX.block ?_
   refine CX.packNils 10 ?_
   refine CX.loop (σ := Nat × List Bk) (fun z => [(2, .pointer (some ⟨gR, 0, none⟩)), (3, .map (some mk)), (11, .pointer (some ⟨gB, 0, none⟩)), (12, .map (some mi)), (69, .slice A4 (List.length (ks : List K3)) c4), (70, .int .i64 ((List.length (ks : List K3) : Nat) : Int)), (71, .int .i64 ((z.1 : Nat) : Int))]) (fun z => [pack (List.map bkE z.2), .imap mi (intoF gB), .blk gB (.cells (bkC z.2) 30 (0, 0)), .row A4 c4 48 3 (List.map c3 (ksort ks)), kmap key3 fcVal mk kv, .blk gR (.cells (#[.slice none 0 0, .slice none 0 0, .slice none 0 0, .slice none 0 0, .slice none 0 0, .slice none 0 0, .slice none 0 0, .slice none 0 0, .slice none 0 0, .slice none 0 0]) 30 (0, 0))]) (fun z => z.1 ≤ (ksort ks).length ∧ BkOk kv ((ksort ks).take z.1) z.2) (fun z => (ksort ks).length - z.1) (0, List.replicate 10 bk0) ⟨Nat.zero_le _, BkOk.start kv⟩ ⟨rfl, rfl, rfl, rfl, rfl, rfl, rfl, trivial⟩ rfl (fun z hI => ?_)
   obtain ⟨i, bs⟩ := z
   dsimp only at hI ⊢
   obtain ⟨hi, hB⟩ := hI
   refine CX.seq ?_
   refine CX.region ?_
   refine RX.cons rfl rfl (op_w (yw_lss rfl rfl rfl) rfl rfl ?_)
   refine RX.nil (XX.next (V' := [(2, .pointer (some ⟨gR, 0, none⟩)), (3, _), (11, _), (12, _), (69, _), (70, _), (71, _), (72, _)]) ⟨rfl, rfl, rfl, rfl, rfl, rfl, rfl, rfl, trivial⟩ ?_)
   refine CX.seq ?_
   refine CX.condD (p := ((i : Nat) : Int) < ((List.length (ks : List K3) : Nat) : Int)) rfl (fun c72 => ?_) (fun c72 => ?_)
   ·obtain ⟨k0, hk0⟩ := get_some (l := ksort ks) (k := i) (by omega)
    have hk0m := List.mem_of_getElem? hk0
    obtain ⟨g0, hg0⟩ := kget_of_mem (hperm.mem_iff.1 ((ksort_perm ks).mem_iff.1 hk0m))
    have hgk := (valid_parts ((kvOf_ok _).2.1 _ _ (hkv ▸ hg0)).2.1).1
    refine CX.rowSome 3 rfl (by rw [List.length_map]; omega) (fun hAk => ?_)
    refine CX.skip (XX.next (V' := [(2, .pointer (some ⟨gR, 0, none⟩)), (3, _), (11, _), (12, _), (69, _), (70, _), (71, _)]) ⟨rfl, rfl, rfl, rfl, rfl, rfl, rfl, trivial⟩ ?_)
    refine CX.seq ?_
    refine CX.block ?_
    refine CX.seq ?_
    refine CX.region ?_
    refine RX.cons rfl rfl (op_w (yw_index (k := i) rfl slt_52 rfl rfl (by omega) (by omega) hAk) rfl rfl ?_)
    refine RX.cons rfl rfl (op_yld (y_rowElem (i := 3) rfl rfl agg_48 rfl (map_get hk0)) rfl rfl ?_)
    refine RX.cons rfl rfl (op_alloc rfl rfl rfl zero_48 fun g14 => ?_)
    refine RX.cons rfl rfl (op_storeAll (i := 0) rfl rfl rfl rfl szt_48 rfl (plain_of rfl) rfl rfl ?_)
    refine RX.nil (XX.next (V' := [(2, .pointer (some ⟨gR, 0, none⟩)), (3, _), (11, _), (12, _), (14, _), (69, _), (70, _), (71, _)]) ⟨rfl, rfl, rfl, rfl, rfl, rfl, rfl, rfl, trivial⟩ ?_)
    refine CX.seq ?_
    refine CX.region ?_
    refine RX.cons rfl rfl (op_w (yw_move rfl rfl) rfl rfl ?_)
    refine RX.cons rfl rfl (op_yld (y_loadA (i := 0) rfl rfl agg_48 rfl rfl) rfl rfl ?_)
    refine RX.cons rfl rfl (op_yld (y_klookup (i := 5) (k := k0) (kv := kv) (encK := key3) (encV := fcVal) rfl rfl rfl kmapt_46 rfl) rfl rfl ?_)
    refine RX.know (t := 77) (u := .agg (fcC g0)) rfl (by rw [hg0]; rfl) ?_
    refine RX.cons rfl rfl (op_alloc rfl rfl rfl zero_27 fun g15 => ?_)
    refine RX.cons rfl rfl (op_storeAll (i := 0) rfl rfl rfl rfl szt_27 rfl (plain_of rfl) rfl rfl ?_)
    refine RX.nil (XX.next (V' := [(2, .pointer (some ⟨gR, 0, none⟩)), (3, _), (11, _), (12, _), (15, _), (69, _), (70, _), (71, _)]) ⟨rfl, rfl, rfl, rfl, rfl, rfl, rfl, rfl, trivial⟩ ?_)
    obtain ⟨⟨⟨A6, c6⟩, ys⟩, hb6⟩ := get_some (l := bs) (k := (Int.toNat (Fc.kind g0 - 1))) (by rw [hB.1]; omega)
    have hy6 : ys = bkt kv (List.take i (ksort ks)) (Int.toNat (Fc.kind g0 - 1)) := hB.2 _ _ hb6
    have hyl : ys.length ≤ fs.length := by rw [hy6]; exact bkt_len hn2
    refine CX.packOut (e := .row A6 c6 27 18 (List.map fcC ys)) (es' := List.map bkE (bs.eraseIdx (Int.toNat (Fc.kind g0 - 1)))) (L' := [.blk g15 (.cells (fcC g0) 27 (0, 0)), .blk g14 (.cells (c3 k0) 48 (0, 0)), .imap mi (intoF gB), .blk gB (.cells (bkC bs) 30 (0, 0)), .row A4 c4 48 3 (List.map c3 (ksort ks)), kmap key3 fcVal mk kv, .blk gR (.cells (#[.slice none 0 0, .slice none 0 0, .slice none 0 0, .slice none 0 0, .slice none 0 0, .slice none 0 0, .slice none 0 0, .slice none 0 0, .slice none 0 0, .slice none 0 0]) 30 (0, 0))]) ((perm_pick 2 rfl).trans (List.Perm.cons _ (List.Perm.refl _))) (bkE_out hb6) ?_
    refine CX.drawL 14 ([pack (List.map bkE (bs.eraseIdx (Int.toNat (Fc.kind g0 - 1)))), .blk g15 (.cells (fcC g0) 27 (0, 0)), .blk g14 (.cells (c3 k0) 48 (0, 0)), .imap mi (intoF gB), .blk gB (.cells (bkC bs) 30 (0, 0)), .row A4 c4 48 3 (List.map c3 (ksort ks)), kmap key3 fcVal mk kv, .blk gR (.cells (#[.slice none 0 0, .slice none 0 0, .slice none 0 0, .slice none 0 0, .slice none 0 0, .slice none 0 0, .slice none 0 0, .slice none 0 0, .slice none 0 0, .slice none 0 0]) 30 (0, 0))]) [(0, 4096, 302231454903657293676544), (0, 32768, 604462909807314587353088), (2, 604462909807314587353088, 1208925819614629174706176), (5, 1511157274518286468382720, 2417851639229258349412352), (0, 4096, 4835703278458516698824704), (0, 32768, 9671406556917033397649408), (32, 9671406556917033397649408, 19342813113834066795298816), (80, 24178516392292583494123520, 38685626227668133590597632), (128, 38685626227668133590597632, 77371252455336267181195264), (256, 77371252455336267181195264, 154742504910672534362390528), (0, 32768, 309485009821345068724781056), (1024, 309485009821345068724781056, 618970019642690137449562112), (2560, 773712524553362671811952640, 1237940039285380274899124224), (8191, 2417851639229258349412352, 2475880078570760549798248448), (16383, 3713820117856140824697372672, 0)] (by kernel_rfl) (by kernel_rfl) (by kernel_rfl) ?_
    refine DX.takeW 0 1 (by kernel_rfl) rfl rfl rfl rfl rfl (yw_move rfl rfl) ?_
    refine DX.takeW 1 3 (by kernel_rfl) rfl rfl rfl rfl rfl (yw_field0 rfl fld_27_0 rfl) ?_
    refine DX.take 2 7 (by kernel_rfl) rfl rfl rfl rfl rfl (List.Sublist.cons _ (List.Sublist.refl _)) (y_load (i := 1) rfl rfl one_3 rfl rfl) ?_
    refine DX.take 3 15 (by kernel_rfl) rfl rfl rfl rfl rfl (List.Sublist.cons _ (List.Sublist.refl _)) (y_lookupE (i := 3) (v := .pointer (some ⟨gB, (Int.toNat (Fc.kind g0 - 1)), none⟩)) rfl rfl rfl mapt_57 rfl (by rw [intoF_in gB hgk]; rfl)) ?_
    refine DX.takeW 4 31 (by kernel_rfl) rfl rfl rfl rfl rfl (yw_move rfl rfl) ?_
    refine DX.takeW 5 63 (by kernel_rfl) rfl rfl rfl rfl rfl (yw_field0 rfl fld_27_0 rfl) ?_
    refine DX.take 6 127 (by kernel_rfl) rfl rfl rfl rfl rfl (List.Sublist.cons _ (List.Sublist.refl _)) (y_load (i := 1) rfl rfl one_3 rfl rfl) ?_
    refine DX.take 7 255 (by kernel_rfl) rfl rfl rfl rfl rfl (List.Sublist.cons _ (List.Sublist.refl _)) (y_lookupE (i := 3) (v := .pointer (some ⟨gB, (Int.toNat (Fc.kind g0 - 1)), none⟩)) rfl rfl rfl mapt_57 rfl (by rw [intoF_in gB hgk]; rfl)) ?_
    refine DX.takeW 8 511 (by kernel_rfl) rfl rfl rfl rfl rfl (yw_nilCheck rfl rfl) ?_
    refine DX.take 9 1023 (by kernel_rfl) rfl rfl rfl rfl rfl (List.Sublist.cons _ (List.Sublist.refl _)) (y_load (i := 4) (v := .slice A6 (List.length ys) c6) rfl rfl one_22 rfl (bkC_get hb6)) ?_
    refine DX.take 10 2047 (by kernel_rfl) rfl rfl rfl rfl rfl (List.Sublist.cons _ (List.Sublist.refl _)) (y_loadA (i := 1) rfl rfl agg_27 rfl rfl) ?_
    refine DX.step 11 4095 (by kernel_rfl) rfl rfl rfl (op_buildSlice rfl rfl rfl slb_22 rfl rfl (by intro v hv; simp only [List.mem_cons, List.not_mem_nil, or_false] at hv; subst hv; exact ⟨rfl, (plain_of rfl)⟩) (by decide) fun g16 => (DXs.mk (List.Sublist.cons _ (List.Sublist.cons _ (List.Sublist.refl _))) ?_))
    refine DX.step 12 8191 (by kernel_rfl) rfl rfl rfl (op_appendM fcC (i := 1) (j := 0) (xs := ys) ([g0]) rfl rfl rfl slb_22 rfl rfl rfl rfl rfl rfl (by rw [List.length_singleton]; omega) (by rw [List.length_singleton]; omega) fun A7 c7 => (DXs.mk (List.Sublist.cons _ (List.Sublist.cons _ (List.Sublist.refl _))) ?_))
    refine DX.takeW 13 16383 (by kernel_rfl) rfl rfl rfl rfl rfl (yw_nilCheck rfl rfl) ?_
    refine DX.stepT 14 32767 (by kernel_rfl) rfl rfl rfl rfl (op_store1 (i := 6) (j := (Int.toNat (Fc.kind g0 - 1))) (cs' := bkC (List.set bs (Int.toNat (Fc.kind g0 - 1)) ((A7, c7), ys ++ [g0]))) rfl rfl rfl rfl szt_22 rfl rfl (by rw [Nat.blt_eq, bkC_size, hB.1]; omega) (bkC_set bs (Int.toNat (Fc.kind g0 - 1)) ((A7, c7), ys ++ [g0])) ?_)
    refine DX.done (by kernel_rfl) (XX.inBlock (V' := [(2, .pointer (some ⟨gR, 0, none⟩)), (3, _), (11, _), (12, _), (69, _), (70, _), (71, _)]) ⟨rfl, rfl, rfl, rfl, rfl, rfl, rfl, trivial⟩ ?_)
    refine XX.next (V' := [(2, .pointer (some ⟨gR, 0, none⟩)), (3, _), (11, _), (12, _), (69, _), (70, _), (71, _)]) ⟨rfl, rfl, rfl, rfl, rfl, rfl, rfl, trivial⟩ ?_
    refine CX.packIn (e := .row A7 c7 27 18 (List.map fcC (ys ++ [g0]))) (es := List.map bkE (List.set bs (Int.toNat (Fc.kind g0 - 1)) ((A7, c7), ys ++ [g0]))) (es' := List.map bkE (bs.eraseIdx (Int.toNat (Fc.kind g0 - 1)))) (L' := [.row (some ⟨g16, 0, none⟩) 1 27 18 (List.map fcC ([g0])), .blk g15 (.cells (fcC g0) 27 (0, 0)), .blk g14 (.cells (c3 k0) 48 (0, 0)), .imap mi (intoF gB), .blk gB (.cells (bkC (List.set bs (Int.toNat (Fc.kind g0 - 1)) ((A7, c7), ys ++ [g0]))) 30 (0, 0)), .row A4 c4 48 3 (List.map c3 (ksort ks)), kmap key3 fcVal mk kv, .blk gR (.cells (#[.slice none 0 0, .slice none 0 0, .slice none 0 0, .slice none 0 0, .slice none 0 0, .slice none 0 0, .slice none 0 0, .slice none 0 0, .slice none 0 0, .slice none 0 0]) 30 (0, 0))]) ((perm_pick 1 rfl).trans (List.Perm.cons _ ((perm_pick 1 rfl).trans (List.Perm.cons _ (List.Perm.refl _))))) (bkE_in ((A7, c7), ys ++ [g0]) hb6) ?_
    refine CX.region ?_
    refine RX.cons rfl rfl (op_w (yw_add rfl rfl rfl (by omega) (by omega)) rfl rfl ?_)
    refine RX.cons rfl rfl (op_w (yw_move rfl rfl) rfl rfl ?_)
    refine RX.nil (XX.againP ([.row (some ⟨g16, 0, none⟩) 1 27 18 (List.map fcC ([g0])), .blk g15 (.cells (fcC g0) 27 (0, 0)), .blk g14 (.cells (c3 k0) 48 (0, 0))]) (i + 1, List.set bs (Int.toNat (Fc.kind g0 - 1)) ((A7, c7), ys ++ [g0])) (by dsimp only; omega) ⟨by dsimp only; omega, hB.step hk0 hg0 hgk hb6 (A7, c7)⟩ ⟨rfl, rfl, rfl, rfl, rfl, rfl, rfl, trivial⟩ ((perm_pick 0 rfl).trans (List.Perm.cons _ ((perm_pick 3 rfl).trans (List.Perm.cons _ ((perm_pick 3 rfl).trans (List.Perm.cons _ ((perm_pick 3 rfl).trans (List.Perm.cons _ ((perm_pick 3 rfl).trans (List.Perm.cons _ ((perm_pick 3 rfl).trans (List.Perm.cons _ (List.Perm.refl _))))))))))))))
   ·rw [List.take_of_length_le (by omega)] at hB
    refine CX.exit ?_
    refine XX.then_exit ?_
    refine XX.then_exit ?_
    refine XX.block_exit ?_
    refine XX.next (V' := [(2, .pointer (some ⟨gR, 0, none⟩)), (11, _)]) ⟨rfl, rfl, trivial⟩ ?_
    refine CX.seq ?_
    refine CX.region ?_
    refine RX.cons rfl rfl (op_yld (y_loadA (i := 2) rfl rfl agg_30 rfl ((bkC_size bs).trans hB.1)) rfl rfl ?_)
    refine RX.cons rfl rfl (op_storeAll (i := 5) rfl rfl rfl rfl szt_30 ((bkC_size bs).trans hB.1) (bkC_plain bs) rfl rfl ?_)
    refine RX.nil (XX.next (V' := [(2, .pointer (some ⟨gR, 0, none⟩))]) ⟨rfl, trivial⟩ ?_)
    refine CX.ret ?_
    exact ret_cell (i := 5) rfl rfl agg_30 rfl ((bkC_size bs).trans hB.1) fun w1 hw => ⟨bs, ⟨hB.1, fun j b hb => by rw [hB.2 j b hb, baseOf, ← hkv, ksort_eq hperm]⟩, rfl, hw.pick ((perm_pick 0 rfl).trans (List.Perm.cons _ (List.Perm.refl _)))⟩

end Go.Proofs.YtpcfgoadkfajfaaGreatDoor
namespace Go.Proofs.YtpcfgoadkfajfaaGreatDoor
set_option linter.all false
open Go Go.RowKit
def toT (f : Fc) : Se.Fct := ⟨f.kind, f.id, f.ver, f.per, f.sec, f.acc, f.dev, f.song, f.ter, f.hol, f.role, f.since, f.till, f.amt, f.shr, f.cur, f.mark, f.text⟩
def ofS (s : Se.Strm) : Sm := ⟨s.device, s.id, s.account, s.recording, s.territory, s.second, s.period, s.session, s.mark⟩
theorem cells_toT (ps : List Fc) : (ps.map toT).map Se.Fct.cells = ps.map fcC := by rw [List.map_map]; rfl
theorem cells_ofS (ss : List Se.Strm) : (ss.map ofS).map smC = ss.map Se.Strm.cells := by rw [List.map_map]; rfl
/-- The streams of plays. -/
def strmZ (ps : List Fc) : List Sm := (Se.streams (ps.map toT)).map ofS
theorem counted_len : ∀ (l : List Se.Fct) (x : Se.Plr), (Se.counted x l).length ≤ l.length
  | [], _ => Nat.le_refl _
  | p :: r, x => by
    have := counted_len r (x.look p).1
    unfold Se.counted
    split <;> simp <;> omega
theorem strmZ_len (ps : List Fc) : (strmZ ps).length ≤ ps.length := by
  unfold strmZ Se.streams
  rw [List.length_map]
  refine Nat.le_trans (counted_len _ _) (Nat.le_trans (Se.ordered_length _) ?_)
  rw [List.length_map]; exact Nat.le_refl _
theorem w_streamsZ {w : World} {A : Option Addr} {cap : Nat} (ps : List Fc) (hr : Rd w A 18 (ps.map fcC)) (hn : ps.length ≤ 1000) (hG : Se.Lens w) :
    Calls Tryz.prog 10 #[.slice A ps.length cap] w (fun e w' => ∃ z : Option Addr × Nat, True ∧ e = .returned (.slice z.1 (List.length (strmZ ps)) z.2) ∧ SL w [] w' [.row z.1 z.2 39 9 (List.map smC (strmZ ps))]) := by
  have h := Se.w_streams (w := w) (A := A) (cap := cap) (ps.map toT) (by rw [cells_toT]; exact hr) (by rw [List.length_map]; exact hn) hG
  rw [List.length_map] at h
  refine h.mono ?_
  rintro e w' ⟨z, _, he, hw⟩
  refine ⟨z, trivial, ?_, ?_⟩
  · rw [he, strmZ, List.length_map]
  · rw [strmZ, cells_ofS]; exact hw
def cutZ (f : Fc) : Fc := { f with text := f.text.extract 0 (min f.text.size 100) }
theorem swapZ {l : List Fc} {a b : Nat} {x y : Fc} (hx : l[a]? = some x) (hy : l[b]? = some y) : ∀ f, f ∈ (l.set a y).set b x ↔ f ∈ l := by
  intro f
  constructor
  · intro hf
    rcases List.mem_or_eq_of_mem_set hf with hf | rfl
    · rcases List.mem_or_eq_of_mem_set hf with hf | rfl
      · exact hf
      · exact List.mem_of_getElem? hy
    · exact List.mem_of_getElem? hx
  · intro hf
    obtain ⟨k, hk⟩ := List.getElem?_of_mem hf
    have ha := (List.getElem?_eq_some_iff.1 hx).1
    have hb := (List.getElem?_eq_some_iff.1 hy).1
    by_cases e1 : k = a
    · subst e1
      rw [hx] at hk; cases hk
      exact List.mem_of_getElem? (i := b) (by rw [List.getElem?_set, if_pos rfl, if_pos (by rw [List.length_set]; exact hb)])
    · by_cases e2 : k = b
      · subst e2
        rw [hy] at hk; cases hk
        exact List.mem_of_getElem? (i := a) (by
          rw [List.getElem?_set]
          rw [if_neg (fun h => e1 h), List.getElem?_set, if_pos rfl, if_pos ha])
      · exact List.mem_of_getElem? (i := k) (by rw [List.getElem?_set, if_neg (fun h => e2 h.symm), List.getElem?_set, if_neg (fun h => e1 h.symm)]; exact hk)
theorem moreZ {M l : List Fc} {k : Nat} {x : Fc} (h : ∀ f, f ∈ M ↔ f ∈ l) (hx : M[k]? = some x) : ∀ f, f ∈ M ++ [x] ↔ f ∈ l := by
  intro f
  rw [← h f, List.mem_append, List.mem_singleton]
  constructor
  · rintro (hf | rfl)
    · exact hf
    · exact List.mem_of_getElem? hx
  · exact .inl
theorem wrap_in (x : Int) : -9223372036854775808 ≤ IntKind.i64.wrap x ∧ IntKind.i64.wrap x ≤ 9223372036854775807 := by simp [IntKind.wrap, IntKind.bits, IntKind.signed]; omega
theorem map_setZ (Y : List Fc) (k : Nat) (x : Fc) : (List.map fcC Y).set k (fcC x) = List.map fcC (Y.set k x) := by rw [List.map_set]
theorem ten_of {α : Type} {l : List α} (h : l.length = 10) : ∃ x0 x1 x2 x3 x4 x5 x6 x7 x8 x9, l = [x0, x1, x2, x3, x4, x5, x6, x7, x8, x9] := by
  match l, h with
  | [x0, x1, x2, x3, x4, x5, x6, x7, x8, x9], _ => exact ⟨_, _, _, _, _, _, _, _, _, _, rfl⟩
theorem w_shortE {w : World} {A : Option Addr} {cap : Nat} (n : Nat) {k : Nat} (hk : min n 12 = k) (hc : n ≤ cap) (h8 : n ≤ 9223372036854775807) : Calls Tryz.prog 7 #[.slice A n cap] w (fun e w' => e = .returned (.slice A k cap) ∧ SL w [] w' []) := hk ▸ w_short n hc h8
end Go.Proofs.YtpcfgoadkfajfaaGreatDoor
namespace Go.Proofs.YtpcfgoadkfajfaaGreatDoor
set_option linter.all false
open Go Go.RowKit
set_option maxRecDepth 100000
theorem ent_4 : ∀ args w, (callFunc 4 args).run Tryz.prog w = .ok (.enter 4 args) w := enters_of Tryz.func4 (by kernel_rfl) rfl
theorem ent_5 : ∀ args w, (callFunc 5 args).run Tryz.prog w = .ok (.enter 5 args) w := enters_of Tryz.func5 (by kernel_rfl) rfl
theorem ent_6 : ∀ args w, (callFunc 6 args).run Tryz.prog w = .ok (.enter 6 args) w := enters_of Tryz.func6 (by kernel_rfl) rfl
theorem ent_7 : ∀ args w, (callFunc 7 args).run Tryz.prog w = .ok (.enter 7 args) w := enters_of Tryz.func7 (by kernel_rfl) rfl
theorem ent_10 : ∀ args w, (callFunc 10 args).run Tryz.prog w = .ok (.enter 10 args) w := enters_of Tryz.func10 (by kernel_rfl) rfl
theorem ent_8 : ∀ args w, (callFunc 8 args).run Tryz.prog w = .ok (.enter 8 args) w := enters_of Tryz.func8 (by kernel_rfl) rfl
set_option maxRecDepth 100000 in
theorem w_lawHi {w : World} {A0 : Option Addr} {cap0 : Nat} (fs0 : List Fc) (hr0 : Rd w A0 18 (fs0.map fcC)) (h80 : fs0.length ≤ 9223372036854775807) {AR : Option Addr} {capR : Nat} (rs0 : List Ru) (hrR0 : Rd w AR 4 (rs0.map ruC)) (hcR : rs0.length ≤ capR) (h8R : rs0.length ≤ 9223372036854775807) {AO : Option Addr} {capO : Nat} (os0 : List Int) (hrO : Rd w AO 1 (os0.map iR)) (h8O : os0.length ≤ 9223372036854775807) (hgO : ∀ x ∈ os0, -9223372036854775808 ≤ x ∧ x ≤ 9223372036854775807) (hG : Se.Lens w) :
    Calls Tryz.prog 3 #[.slice A0 fs0.length cap0, .slice AR rs0.length capR, .slice AO os0.length capO] w (fun e w' => e = .returned (.bool true) ∧ SL w [] w' []) := by
 obtain ⟨rs, hrs⟩ : ∃ rs, rs = rs0.take 12 := ⟨_, rfl⟩
 have hrR : Rd w AR 4 (rs.map ruC) := by rw [hrs]; exact hrR0.takeM 12
 have hminR : min rs0.length 12 = rs.length := by rw [hrs, List.length_take]; omega
 have hr12 : rs.length ≤ 12 := by omega
 have hlR : rs.length ≤ 1000000 := by omega
 refine calls_of_CX (O := []) (L := []) (args := [.slice A0 fs0.length cap0, .slice AR rs0.length capR, .slice AO os0.length capO]) Tryz.func3 rfl (by simp [Tryz.ntmps3]) (SL.refl w) ?_
 refine CX.sub (V' := [(0, .slice A0 fs0.length cap0), (1, .slice AR rs0.length capR), (2, .slice AO os0.length capO)]) ⟨rfl, rfl, rfl, trivial⟩ ?_
 refine CX.seq ?_
 refine CX.region ?_
 refine RX.cons rfl rfl (op_w (yw_assign rfl rfl) rfl rfl ?_)
 refine RX.nil (XX.next (V' := [(0, _), (1, _), (2, _)]) ⟨rfl, rfl, rfl, trivial⟩ ?_)
 refine CX.seq ?_
 refine CX.region ?_
 refine RX.cons rfl rfl (op_callV (v := .bool true) rfl rfl rfl rfl rfl ent_4 (fun w hw => w_sane) ?_)
 refine RX.cons rfl rfl (op_w (yw_assign rfl rfl) rfl rfl ?_)
 refine RX.nil (XX.next (V' := [(0, _), (1, _), (2, _), (7, _)]) ⟨rfl, rfl, rfl, rfl, trivial⟩ ?_)
 refine CX.seq ?_
 refine CX.region ?_
 refine RX.cons rfl rfl (op_w (yw_assign rfl rfl) rfl rfl ?_)
 refine RX.nil (XX.next (V' := [(0, _), (1, _), (2, _), (7, _), (8, _)]) ⟨rfl, rfl, rfl, rfl, rfl, trivial⟩ ?_)
 refine CX.cut (σ := (Option Addr × Nat) × List Fc) (fun z => [(1, .slice AR rs0.length capR), (2, .slice AO os0.length capO), (7, .bool true), (8, .slice z.1.1 (List.length (z.2 : List Fc)) z.1.2)]) (fun z => [.row z.1.1 z.1.2 27 18 (List.map fcC z.2)]) (fun z => z.2.length ≤ 40) ?_ (fun z hI => ?_)
 ·refine CX.seq ?_
  refine CX.region ?_
  refine RX.cons rfl rfl (op_w (yw_assign rfl rfl) rfl rfl ?_)
  refine RX.nil (XX.next (V' := [(0, _), (1, _), (2, _), (7, _), (8, _), (9, _)]) ⟨rfl, rfl, rfl, rfl, rfl, rfl, trivial⟩ ?_)
  refine CX.block ?_
  refine CX.rowNil 27 18 ?_
  refine CX.loop (σ := Nat × (Option Addr × Nat) × List Fc) (fun z => [(0, .slice A0 fs0.length cap0), (1, .slice AR rs0.length capR), (2, .slice AO os0.length capO), (7, .bool true), (8, .slice z.2.1.1 (List.length (z.2.2 : List Fc)) z.2.1.2), (9, .int .i64 ((z.1 : Nat) : Int))]) (fun z => [.row z.2.1.1 z.2.1.2 27 18 (List.map fcC z.2.2)]) (fun z => z.1 ≤ fs0.length ∧ z.1 ≤ 40 ∧ z.2.2.length = z.1) (fun z => 40 - z.1) (0, (none, 0), []) ⟨Nat.zero_le _, Nat.zero_le _, rfl⟩ ⟨rfl, rfl, rfl, rfl, rfl, rfl, trivial⟩ rfl (fun z hI => ?_)
  obtain ⟨i, ⟨A4, c4⟩, ys⟩ := z
  dsimp only at hI ⊢
  obtain ⟨hi, hi40, hyn⟩ := hI
  refine CX.seq ?_
  refine CX.seq ?_
  refine CX.region ?_
  refine RX.cons rfl rfl (op_w (yw_move rfl rfl) rfl rfl ?_)
  refine RX.cons rfl rfl (op_w (yw_move rfl rfl) rfl rfl ?_)
  refine RX.cons rfl rfl (op_w (yw_lenS rfl Tryz.underlying22 rfl) rfl rfl ?_)
  refine RX.cons rfl rfl (op_w (yw_lss rfl rfl rfl) rfl rfl ?_)
  refine RX.cons rfl rfl (op_w (yw_move rfl rfl) rfl rfl ?_)
  refine RX.splitD (t := 22) (p := ((i : Nat) : Int) < ((fs0.length : Nat) : Int)) rfl (fun d22 => ?_) (fun d22 => ?_)
  ·refine RX.consG rfl rfl rfl rfl rfl (op_w (yw_move rfl rfl) rfl rfl ?_)
   refine RX.consG rfl rfl rfl rfl rfl (op_w (yw_lss rfl rfl rfl) rfl rfl ?_)
   refine RX.cons rfl rfl (op_w (yw_pickT rfl rfl rfl) rfl rfl ?_)
   refine RX.nil (XX.next (V' := [(0, _), (1, _), (2, _), (7, _), (8, _), (9, _), (25, _)]) ⟨rfl, rfl, rfl, rfl, rfl, rfl, rfl, trivial⟩ ?_)
   refine CX.condD (p := ((i : Nat) : Int) < 40) rfl (fun c25 => ?_) (fun c25 => ?_)
   ·obtain ⟨x0, hx0⟩ := get_some (l := fs0) (k := i) (by omega)
    have hx0m := List.mem_of_getElem? hx0
    have hA0 : ∃ b j, A0 = some ⟨b, j, none⟩ := hr0.some (k := 0) (by simp; omega)
    refine CX.skip (XX.next (V' := [(0, _), (1, _), (2, _), (7, _), (8, _), (9, _)]) ⟨rfl, rfl, rfl, rfl, rfl, rfl, trivial⟩ ?_)
    refine CX.seq ?_
    refine CX.block ?_
    refine CX.seq ?_
    refine CX.region ?_
    refine RX.cons rfl rfl (op_w (yw_move rfl rfl) rfl rfl ?_)
    refine RX.cons rfl rfl (op_w (yw_move rfl rfl) rfl rfl ?_)
    refine RX.cons rfl rfl (op_w (yw_index (k := i) rfl slt_22 rfl rfl (by omega) (by omega) hA0) rfl rfl ?_)
    refine RX.cons rfl rfl (op_yld (y_elem rfl rfl agg_27 hr0 (by simp) (map_get hx0)) rfl rfl ?_)
    refine RX.cons rfl rfl (op_alloc rfl rfl rfl zero_27 fun g10 => ?_)
    refine RX.cons rfl rfl (op_storeAll (i := 0) rfl rfl rfl rfl szt_27 rfl (plain_of rfl) rfl rfl ?_)
    refine RX.nil (XX.next (V' := [(0, _), (1, _), (2, _), (7, _), (8, _), (9, _), (10, _)]) ⟨rfl, rfl, rfl, rfl, rfl, rfl, rfl, trivial⟩ ?_)
    refine CX.seq ?_
    refine CX.region ?_
    refine RX.cons rfl rfl (op_w (yw_fieldAddr rfl fld_27_17 rfl) rfl rfl ?_)
    refine RX.cons rfl rfl (op_yld (y_load (i := 0) rfl rfl one_9 rfl rfl) rfl rfl ?_)
    refine RX.cons rfl rfl (op_w (yw_fieldAddr rfl fld_27_17 rfl) rfl rfl ?_)
    refine RX.cons rfl rfl (op_yld (y_load (i := 0) rfl rfl one_9 rfl rfl) rfl rfl ?_)
    refine RX.cons rfl rfl (op_w (yw_lenStr rfl Tryz.underlying9 rfl) rfl rfl ?_)
    refine RX.cons rfl rfl (op_w (yw_min rfl rfl rfl) rfl rfl ?_)
    refine RX.know (t := 37) (u := .int .i64 (((min (ByteArray.size (Fc.text x0)) 100) : Nat) : Int)) rfl (congrArg (Value.int .i64) (by omega)) ?_
    refine RX.cons rfl rfl (op_w (yw_strTo (k := (min (ByteArray.size (Fc.text x0)) 100)) rfl Tryz.underlying9 rfl rfl (by omega) (by omega)) rfl rfl ?_)
    refine RX.cons rfl rfl (op_w (yw_fieldAddr rfl fld_27_17 rfl) rfl rfl ?_)
    refine RX.cons rfl rfl (op_store1 (i := 0) (cs' := fcC (cutZ x0)) rfl rfl rfl rfl szt_9 rfl rfl rfl rfl ?_)
    refine RX.nil (XX.next (V' := [(0, _), (1, _), (2, _), (7, _), (8, _), (9, _), (10, _)]) ⟨rfl, rfl, rfl, rfl, rfl, rfl, rfl, trivial⟩ ?_)
    refine CX.region ?_
    refine RX.cons rfl rfl (op_w (yw_move rfl rfl) rfl rfl ?_)
    refine RX.cons rfl rfl (op_yld (y_loadA (i := 0) rfl rfl agg_27 rfl rfl) rfl rfl ?_)
    refine RX.cons rfl rfl (op_buildSlice rfl rfl rfl slb_22 rfl rfl (by intro v hv; simp only [List.mem_cons, List.not_mem_nil, or_false] at hv; subst hv; exact ⟨rfl, (plain_of rfl)⟩) (by decide) fun g11 => ?_)
    refine RX.cons rfl rfl (op_appendM fcC (i := 2) (j := 0) (xs := ys) ([cutZ x0]) rfl rfl rfl slb_22 rfl rfl rfl rfl rfl rfl (by rw [List.length_singleton]; omega) (by rw [List.length_singleton]; omega) fun A5 c5 => ?_)
    refine RX.cons rfl rfl (op_w (yw_assign rfl rfl) rfl rfl ?_)
    refine RX.nil (XX.inBlock (V' := [(0, _), (1, _), (2, _), (7, _), (8, _), (9, _)]) ⟨rfl, rfl, rfl, rfl, rfl, rfl, trivial⟩ ?_)
    refine XX.next (V' := [(0, _), (1, _), (2, _), (7, _), (8, _), (9, _)]) ⟨rfl, rfl, rfl, rfl, rfl, rfl, trivial⟩ ?_
    refine CX.region ?_
    refine RX.cons rfl rfl (op_w (yw_move rfl rfl) rfl rfl ?_)
    refine RX.cons rfl rfl (op_w (yw_add rfl rfl rfl (by omega) (by omega)) rfl rfl ?_)
    refine RX.cons rfl rfl (op_w (yw_assign rfl rfl) rfl rfl ?_)
    refine RX.nil (XX.againP ([.row (some ⟨g11, 0, none⟩) 1 27 18 (List.map fcC ([cutZ x0])), .blk g10 (.cells (fcC (cutZ x0)) 27 (0, 0))]) (i + 1, (A5, c5), ys ++ [cutZ x0]) (by dsimp only; omega) ⟨by dsimp only; omega, by dsimp only; omega, by dsimp only; rw [List.length_append, hyn]; rfl⟩ ⟨rfl, rfl, rfl, rfl, rfl, rfl, trivial⟩ ((perm_pick 2 rfl).trans (List.Perm.cons _ (List.Perm.refl _))))
   ·refine CX.exit ?_
    refine XX.then_exit ?_
    refine XX.then_exit ?_
    refine XX.block_exit ?_
    refine XX.meetP ([]) ((A4, c4), ys) (by dsimp only; omega) ⟨rfl, rfl, rfl, rfl, trivial⟩ ((perm_pick 0 rfl).trans (List.Perm.cons _ (List.Perm.refl _)))
  ·refine RX.skip rfl rfl rfl rfl rfl rfl rfl ?_
   refine RX.skip rfl rfl rfl rfl rfl rfl rfl ?_
   refine RX.cons rfl rfl (op_w (yw_pickF rfl rfl rfl) rfl rfl ?_)
   refine RX.nil (XX.next (V' := [(0, _), (1, _), (2, _), (7, _), (8, _), (9, _), (25, _)]) ⟨rfl, rfl, rfl, rfl, rfl, rfl, rfl, trivial⟩ ?_)
   refine CX.condF rfl ?_
   refine CX.exit ?_
   refine XX.then_exit ?_
   refine XX.then_exit ?_
   refine XX.block_exit ?_
   refine XX.meetP ([]) ((A4, c4), ys) (by dsimp only; omega) ⟨rfl, rfl, rfl, rfl, trivial⟩ ((perm_pick 0 rfl).trans (List.Perm.cons _ (List.Perm.refl _)))
 ·obtain ⟨⟨A4, c4⟩, ys⟩ := z
  dsimp only at hI ⊢
  refine CX.seq ?_
  refine CX.region ?_
  refine RX.cons rfl rfl (op_buildSlice rfl rfl rfl slb_22 rfl rfl (by intro v hv; simp at hv) (by decide) fun mr => ?_)
  refine RX.cons rfl rfl (op_w (yw_move rfl rfl) rfl rfl ?_)
  refine RX.cons rfl rfl (op_appendM fcC (i := 0) (j := 1) (xs := []) ys rfl rfl rfl slb_22 rfl rfl rfl rfl rfl rfl (by simp; omega) (by simp; omega) fun A5 c5 => ?_)
  refine RX.cons rfl rfl (op_w (yw_assign rfl rfl) rfl rfl ?_)
  refine RX.nil (XX.next (V' := [(1, _), (2, _), (7, _), (8, _), (11, _)]) ⟨rfl, rfl, rfl, rfl, rfl, trivial⟩ ?_)
  refine CX.cut (σ := (Option Addr × Nat) × List Fc) (fun z => [(1, .slice AR rs0.length capR), (7, .bool true), (8, .slice A4 (List.length (ys : List Fc)) c4), (11, .slice z.1.1 (List.length (z.2 : List Fc)) z.1.2)]) (fun z => [.row z.1.1 z.1.2 27 18 (List.map fcC z.2), .row A4 c4 27 18 (List.map fcC ys)]) (fun z => z.2.length ≤ 100 ∧ ∀ f, f ∈ z.2 ↔ f ∈ ys) ?_ (fun z hI2 => ?_)
  ·refine CX.seq ?_
   refine CX.region ?_
   refine RX.cons rfl rfl (op_w (yw_assign rfl rfl) rfl rfl ?_)
   refine RX.nil (XX.next (V' := [(1, _), (2, _), (7, _), (8, _), (11, _), (12, _)]) ⟨rfl, rfl, rfl, rfl, rfl, rfl, trivial⟩ ?_)
   refine CX.block ?_
   refine CX.loop (σ := Nat × (Option Addr × Nat) × List Fc) (fun z => [(1, .slice AR rs0.length capR), (2, .slice AO os0.length capO), (7, .bool true), (8, .slice A4 (List.length (ys : List Fc)) c4), (11, .slice z.2.1.1 (List.length (z.2.2 : List Fc)) z.2.1.2), (12, .int .i64 ((z.1 : Nat) : Int))]) (fun z => [.row z.2.1.1 z.2.1.2 27 18 (List.map fcC z.2.2), .row A4 c4 27 18 (List.map fcC ys)]) (fun z => z.1 ≤ os0.length ∧ z.1 ≤ 60 ∧ z.2.2.length ≤ 40 + z.1 ∧ ∀ f, f ∈ z.2.2 ↔ f ∈ ys) (fun z => 60 - z.1) (0, (A5, c5), ys) ⟨Nat.zero_le _, Nat.zero_le _, by dsimp only; omega, fun f => Iff.rfl⟩ ⟨rfl, rfl, rfl, rfl, rfl, rfl, trivial⟩ rfl (fun z hI => ?_)
   obtain ⟨i, ⟨A6, c6⟩, ms⟩ := z
   dsimp only at hI ⊢
   obtain ⟨hi, hi60, hml, hS⟩ := hI
   refine CX.seq ?_
   refine CX.seq ?_
   refine CX.region ?_
   refine RX.cons rfl rfl (op_w (yw_move rfl rfl) rfl rfl ?_)
   refine RX.cons rfl rfl (op_w (yw_move rfl rfl) rfl rfl ?_)
   refine RX.cons rfl rfl (op_w (yw_lenS rfl Tryz.underlying24 rfl) rfl rfl ?_)
   refine RX.cons rfl rfl (op_w (yw_lss rfl rfl rfl) rfl rfl ?_)
   refine RX.cons rfl rfl (op_w (yw_move rfl rfl) rfl rfl ?_)
   refine RX.splitD (t := 51) (p := ((i : Nat) : Int) < ((os0.length : Nat) : Int)) rfl (fun d51 => ?_) (fun d51 => ?_)
   ·refine RX.consG rfl rfl rfl rfl rfl (op_w (yw_move rfl rfl) rfl rfl ?_)
    refine RX.consG rfl rfl rfl rfl rfl (op_w (yw_lss rfl rfl rfl) rfl rfl ?_)
    refine RX.cons rfl rfl (op_w (yw_pickT rfl rfl rfl) rfl rfl ?_)
    refine RX.cons rfl rfl (op_w (yw_move rfl rfl) rfl rfl ?_)
    refine RX.splitD (t := 55) (p := ((i : Nat) : Int) < 60) rfl (fun d55 => ?_) (fun d55 => ?_)
    ·refine RX.consG rfl rfl rfl rfl rfl (op_w (yw_move rfl rfl) rfl rfl ?_)
     refine RX.consG rfl rfl rfl rfl rfl (op_w (yw_lenS rfl Tryz.underlying22 rfl) rfl rfl ?_)
     refine RX.consG rfl rfl rfl rfl rfl (op_w (yw_gtr rfl rfl rfl) rfl rfl ?_)
     refine RX.cons rfl rfl (op_w (yw_pickT rfl rfl rfl) rfl rfl ?_)
     refine RX.nil (XX.next (V' := [(1, _), (2, _), (7, _), (8, _), (11, _), (12, _), (59, _)]) ⟨rfl, rfl, rfl, rfl, rfl, rfl, rfl, trivial⟩ ?_)
     refine CX.condD (p := 0 < ((List.length (ms : List Fc) : Nat) : Int)) rfl (fun c59 => ?_) (fun c59 => ?_)
     ·obtain ⟨o0, ho0⟩ := get_some (l := os0) (k := i) (by omega)
      have ho0m := List.mem_of_getElem? ho0
      have hAO : ∃ b j, AO = some ⟨b, j, none⟩ := hrO.some (k := 0) (by simp; omega)
      have hgo := hgO o0 ho0m
      have hw7 := wrap_in (Int.tdiv o0 7)
      have ha1 := pickN_lt o0 (n := ms.length) (by omega)
      have hb1 := pickN_lt (IntKind.i64.wrap (Int.tdiv o0 7)) (n := ms.length) (by omega)
      obtain ⟨xa, hxa⟩ := get_some (l := ms) (k := (pickN o0 (List.length ms))) (by omega)
      obtain ⟨xb, hxb⟩ := get_some (l := ms) (k := (pickN (IntKind.i64.wrap (Int.tdiv o0 7)) (List.length ms))) (by omega)
      refine CX.rowSome 0 rfl (by rw [List.length_map]; omega) (fun hA6 => ?_)
      refine CX.skip (XX.next (V' := [(1, _), (2, _), (7, _), (8, _), (11, _), (12, _)]) ⟨rfl, rfl, rfl, rfl, rfl, rfl, trivial⟩ ?_)
      refine CX.seq ?_
      refine CX.block ?_
      refine CX.seq ?_
      refine CX.region ?_
      refine RX.cons rfl rfl (op_w (yw_move rfl rfl) rfl rfl ?_)
      refine RX.cons rfl rfl (op_w (yw_move rfl rfl) rfl rfl ?_)
      refine RX.cons rfl rfl (op_w (yw_index (k := i) rfl slt_24 rfl rfl (by omega) (by omega) hAO) rfl rfl ?_)
      refine RX.cons rfl rfl (op_yld (y_elem1 rfl rfl one_3 hrO (by simp) (map_get ho0)) rfl rfl ?_)
      refine RX.cons rfl rfl (op_w (yw_move rfl rfl) rfl rfl ?_)
      refine RX.cons rfl rfl (op_w (yw_lenS rfl Tryz.underlying22 rfl) rfl rfl ?_)
      refine RX.cons rfl rfl (op_callV (v := .int .i64 ((pickN o0 (List.length (ms : List Fc)) : Nat) : Int)) rfl rfl rfl rfl rfl ent_5 (fun w hw => w_pick o0 (List.length (ms : List Fc)) (by omega) (by omega) (by omega)) ?_)
      refine RX.cons rfl rfl (op_w (yw_assign rfl rfl) rfl rfl ?_)
      refine RX.nil (XX.next (V' := [(1, _), (2, _), (7, _), (8, _), (11, _), (12, _), (13, _)]) ⟨rfl, rfl, rfl, rfl, rfl, rfl, rfl, trivial⟩ ?_)
      refine CX.seq ?_
      refine CX.region ?_
      refine RX.cons rfl rfl (op_w (yw_move rfl rfl) rfl rfl ?_)
      refine RX.cons rfl rfl (op_w (yw_move rfl rfl) rfl rfl ?_)
      refine RX.cons rfl rfl (op_w (yw_index (k := i) rfl slt_24 rfl rfl (by omega) (by omega) hAO) rfl rfl ?_)
      refine RX.cons rfl rfl (op_yld (y_elem1 rfl rfl one_3 hrO (by simp) (map_get ho0)) rfl rfl ?_)
      refine RX.cons rfl rfl (op_w (yw_quow rfl rfl rfl (by decide)) rfl rfl ?_)
      refine RX.cons rfl rfl (op_w (yw_move rfl rfl) rfl rfl ?_)
      refine RX.cons rfl rfl (op_w (yw_lenS rfl Tryz.underlying22 rfl) rfl rfl ?_)
      refine RX.cons rfl rfl (op_callV (v := .int .i64 ((pickN (IntKind.i64.wrap (Int.tdiv o0 7)) (List.length (ms : List Fc)) : Nat) : Int)) rfl rfl rfl rfl rfl ent_5 (fun w hw => w_pick (IntKind.i64.wrap (Int.tdiv o0 7)) (List.length (ms : List Fc)) hw7.1 hw7.2 (by omega)) ?_)
      refine RX.cons rfl rfl (op_w (yw_assign rfl rfl) rfl rfl ?_)
      refine RX.nil (XX.next (V' := [(1, _), (2, _), (7, _), (8, _), (11, _), (12, _), (13, _), (14, _)]) ⟨rfl, rfl, rfl, rfl, rfl, rfl, rfl, rfl, trivial⟩ ?_)
      refine CX.seq ?_
      refine CX.draw 13 [(0, 2048, 151115727451828646838272), (0, 8192, 302231454903657293676544), (0, 2048, 604462909807314587353088), (0, 16384, 1208925819614629174706176), (0, 2048, 2417851639229258349412352), (0, 16384, 4835703278458516698824704), (48, 7253554917687775048237056, 9671406556917033397649408), (64, 9671406556917033397649408, 19342813113834066795298816), (0, 2048, 38685626227668133590597632), (0, 8192, 77371252455336267181195264), (768, 116056878683004400771792896, 154742504910672534362390528), (1024, 154742504910672534362390528, 309485009821345068724781056), (2291, 453347182355485940514816, 618970019642690137449562112), (6387, 638312832756524204244860928, 0), (16383, 1813388729421943762059264, 1237940039285380274899124224), (32767, 1547425049106725343623905280, 0)] (by kernel_rfl) (by kernel_rfl) (by kernel_rfl) ?_
      refine DX.takeW 0 1 (by kernel_rfl) rfl rfl rfl rfl rfl (yw_move rfl rfl) ?_
      refine DX.takeW 1 3 (by kernel_rfl) rfl rfl rfl rfl rfl (yw_move rfl rfl) ?_
      refine DX.takeW 2 7 (by kernel_rfl) rfl rfl rfl rfl rfl (yw_move rfl rfl) ?_
      refine DX.takeW 3 15 (by kernel_rfl) rfl rfl rfl rfl rfl (yw_move rfl rfl) ?_
      refine DX.takeW 4 31 (by kernel_rfl) rfl rfl rfl rfl rfl (yw_move rfl rfl) ?_
      refine DX.takeW 5 63 (by kernel_rfl) rfl rfl rfl rfl rfl (yw_move rfl rfl) ?_
      refine DX.takeW 6 127 (by kernel_rfl) rfl rfl rfl rfl rfl (yw_index (k := (pickN (IntKind.i64.wrap (Int.tdiv o0 7)) (List.length (ms : List Fc)))) rfl slt_22 rfl rfl (by omega) (by first | omega | (rw [List.length_set]; omega)) hA6) ?_
      refine DX.take 7 255 (by kernel_rfl) rfl rfl rfl rfl rfl (List.Sublist.refl _) (y_rowElem (i := 0) rfl rfl agg_27 rfl (map_get hxb)) ?_
      refine DX.takeW 8 511 (by kernel_rfl) rfl rfl rfl rfl rfl (yw_move rfl rfl) ?_
      refine DX.takeW 9 1023 (by kernel_rfl) rfl rfl rfl rfl rfl (yw_move rfl rfl) ?_
      refine DX.takeW 10 2047 (by kernel_rfl) rfl rfl rfl rfl rfl (yw_index (k := (pickN o0 (List.length (ms : List Fc)))) rfl slt_22 rfl rfl (by omega) (by first | omega | (rw [List.length_set]; omega)) hA6) ?_
      refine DX.take 11 4095 (by kernel_rfl) rfl rfl rfl rfl rfl (List.Sublist.refl _) (y_rowElem (i := 0) rfl rfl agg_27 rfl (map_get hxa)) ?_
      refine DX.takeW 12 8191 (by kernel_rfl) rfl rfl rfl rfl rfl (yw_index (k := (pickN o0 (List.length (ms : List Fc)))) rfl slt_22 rfl rfl (by omega) (by first | omega | (rw [List.length_set]; omega)) hA6) ?_
      refine DX.stepT 13 16383 (by kernel_rfl) rfl rfl rfl rfl (op_storeElemE (i := 0) (k := (pickN o0 (List.length (ms : List Fc)))) (ys := List.map fcC (ms.set (pickN o0 (List.length ms)) xb)) rfl rfl rfl rfl szt_27 rfl (plain_of rfl) rfl (by rw [List.length_map]; omega) (map_setZ _ _ _) ?_)
      refine DX.takeW 14 32767 (by kernel_rfl) rfl rfl rfl rfl rfl (yw_index (k := (pickN (IntKind.i64.wrap (Int.tdiv o0 7)) (List.length (ms : List Fc)))) rfl slt_22 rfl rfl (by omega) (by first | omega | (rw [List.length_set]; omega)) hA6) ?_
      refine DX.stepT 15 65535 (by kernel_rfl) rfl rfl rfl rfl (op_storeElemE (i := 0) (k := (pickN (IntKind.i64.wrap (Int.tdiv o0 7)) (List.length (ms : List Fc)))) (ys := List.map fcC ((ms.set (pickN o0 (List.length ms)) xb).set (pickN (IntKind.i64.wrap (Int.tdiv o0 7)) (List.length ms)) xa)) rfl rfl rfl rfl szt_27 rfl (plain_of rfl) rfl (by rw [List.length_map, List.length_set]; omega) (map_setZ _ _ _) ?_)
      refine DX.done (by kernel_rfl) (XX.next (V' := [(1, _), (2, _), (7, _), (8, _), (11, _), (12, _), (13, _)]) ⟨rfl, rfl, rfl, rfl, rfl, rfl, rfl, trivial⟩ ?_)
      refine CX.seq ?_
      refine CX.know (t := 11) (u := .slice A6 (List.length (((ms.set (pickN o0 (List.length ms)) xb).set (pickN (IntKind.i64.wrap (Int.tdiv o0 7)) (List.length ms)) xa) : List Fc)) c6) rfl (by rw [List.length_set, List.length_set]) ?_
      refine CX.region ?_
      refine RX.cons rfl rfl (op_w (yw_move rfl rfl) rfl rfl ?_)
      refine RX.cons rfl rfl (op_w (yw_move rfl rfl) rfl rfl ?_)
      refine RX.cons rfl rfl (op_w (yw_index (k := i) rfl slt_24 rfl rfl (by omega) (by omega) hAO) rfl rfl ?_)
      refine RX.cons rfl rfl (op_yld (y_elem1 rfl rfl one_3 hrO (by simp) (map_get ho0)) rfl rfl ?_)
      refine RX.cons rfl rfl (op_callV (v := .int .i64 ((pickN o0 4 : Nat) : Int)) rfl rfl rfl rfl rfl ent_5 (fun w hw => w_pick o0 4 (by omega) (by omega) (by omega)) ?_)
      refine RX.cons rfl rfl (op_w (yw_eql rfl rfl rfl) rfl rfl ?_)
      refine RX.nil (XX.next (V' := [(1, _), (2, _), (7, _), (8, _), (11, _), (12, _), (13, _), (96, _)]) ⟨rfl, rfl, rfl, rfl, rfl, rfl, rfl, rfl, trivial⟩ ?_)
      refine CX.condD (p := ((pickN o0 4 : Nat) : Int) = 0) rfl (fun c96 => ?_) (fun c96 => ?_)
      ·obtain ⟨xc, hxc⟩ := get_some (l := ((ms.set (pickN o0 (List.length ms)) xb).set (pickN (IntKind.i64.wrap (Int.tdiv o0 7)) (List.length ms)) xa)) (k := (pickN o0 (List.length ms))) (by rw [List.length_set, List.length_set]; omega)
       refine CX.region ?_
       refine RX.cons rfl rfl (op_w (yw_move rfl rfl) rfl rfl ?_)
       refine RX.cons rfl rfl (op_w (yw_move rfl rfl) rfl rfl ?_)
       refine RX.cons rfl rfl (op_w (yw_move rfl rfl) rfl rfl ?_)
       refine RX.cons rfl rfl (op_w (yw_index (k := (pickN o0 (List.length (ms : List Fc)))) rfl slt_22 rfl rfl (by omega) (by rw [List.length_set, List.length_set]; omega) hA6) rfl rfl ?_)
       refine RX.cons rfl rfl (op_yld (y_rowElem (i := 0) rfl rfl agg_27 rfl (map_get hxc)) rfl rfl ?_)
       refine RX.cons rfl rfl (op_buildSlice rfl rfl rfl slb_22 rfl rfl (by intro v hv; simp only [List.mem_cons, List.not_mem_nil, or_false] at hv; subst hv; exact ⟨rfl, (plain_of rfl)⟩) (by decide) fun g12 => ?_)
       refine RX.cons rfl rfl (op_appendM fcC (i := 1) (j := 0) (xs := ((ms.set (pickN o0 (List.length ms)) xb).set (pickN (IntKind.i64.wrap (Int.tdiv o0 7)) (List.length ms)) xa)) ([xc]) rfl rfl rfl slb_22 rfl rfl rfl rfl rfl rfl (by rw [List.length_set, List.length_set, List.length_singleton]; omega) (by rw [List.length_set, List.length_set, List.length_singleton]; omega) fun A7 c7 => ?_)
       refine RX.cons rfl rfl (op_w (yw_assign rfl rfl) rfl rfl ?_)
       refine RX.nil (XX.inBlock (V' := [(1, _), (2, _), (7, _), (8, _), (11, _), (12, _)]) ⟨rfl, rfl, rfl, rfl, rfl, rfl, trivial⟩ ?_)
       refine XX.next (V' := [(1, _), (2, _), (7, _), (8, _), (11, _), (12, _)]) ⟨rfl, rfl, rfl, rfl, rfl, rfl, trivial⟩ ?_
       refine CX.region ?_
       refine RX.cons rfl rfl (op_w (yw_move rfl rfl) rfl rfl ?_)
       refine RX.cons rfl rfl (op_w (yw_add rfl rfl rfl (by omega) (by omega)) rfl rfl ?_)
       refine RX.cons rfl rfl (op_w (yw_assign rfl rfl) rfl rfl ?_)
       refine RX.nil (XX.againP ([.row (some ⟨g12, 0, none⟩) 1 27 18 (List.map fcC ([xc]))]) (i + 1, (A7, c7), ((ms.set (pickN o0 (List.length ms)) xb).set (pickN (IntKind.i64.wrap (Int.tdiv o0 7)) (List.length ms)) xa) ++ [xc]) (by dsimp only; omega) ⟨by dsimp only; omega, by dsimp only; omega, by dsimp only; rw [List.length_append, List.length_set, List.length_set, List.length_singleton]; omega, moreZ (fun f => (swapZ hxa hxb f).trans (hS f)) hxc⟩ ⟨rfl, rfl, rfl, rfl, rfl, rfl, trivial⟩ ((perm_pick 1 rfl).trans (List.Perm.cons _ ((perm_pick 1 rfl).trans (List.Perm.cons _ (List.Perm.refl _))))))
      ·refine CX.skip (XX.inBlock (V' := [(1, _), (2, _), (7, _), (8, _), (11, _), (12, _)]) ⟨rfl, rfl, rfl, rfl, rfl, rfl, trivial⟩ ?_)
       refine XX.next (V' := [(1, _), (2, _), (7, _), (8, _), (11, _), (12, _)]) ⟨rfl, rfl, rfl, rfl, rfl, rfl, trivial⟩ ?_
       refine CX.region ?_
       refine RX.cons rfl rfl (op_w (yw_move rfl rfl) rfl rfl ?_)
       refine RX.cons rfl rfl (op_w (yw_add rfl rfl rfl (by omega) (by omega)) rfl rfl ?_)
       refine RX.cons rfl rfl (op_w (yw_assign rfl rfl) rfl rfl ?_)
       refine RX.nil (XX.againP ([]) (i + 1, (A6, c6), ((ms.set (pickN o0 (List.length ms)) xb).set (pickN (IntKind.i64.wrap (Int.tdiv o0 7)) (List.length ms)) xa)) (by dsimp only; omega) ⟨by dsimp only; omega, by dsimp only; omega, by dsimp only; rw [List.length_set, List.length_set]; omega, fun f => (swapZ hxa hxb f).trans (hS f)⟩ ⟨rfl, rfl, rfl, rfl, rfl, rfl, trivial⟩ ((perm_pick 0 rfl).trans (List.Perm.cons _ ((perm_pick 0 rfl).trans (List.Perm.cons _ (List.Perm.refl _))))))
     ·refine CX.exit ?_
      refine XX.then_exit ?_
      refine XX.then_exit ?_
      refine XX.block_exit ?_
      refine XX.meetP ([]) ((A6, c6), ms) ⟨by dsimp only; omega, hS⟩ ⟨rfl, rfl, rfl, rfl, trivial⟩ ((perm_pick 0 rfl).trans (List.Perm.cons _ ((perm_pick 0 rfl).trans (List.Perm.cons _ (List.Perm.refl _)))))
    ·refine RX.skip rfl rfl rfl rfl rfl rfl rfl ?_
     refine RX.skip rfl rfl rfl rfl rfl rfl rfl ?_
     refine RX.skip rfl rfl rfl rfl rfl rfl rfl ?_
     refine RX.cons rfl rfl (op_w (yw_pickF rfl rfl rfl) rfl rfl ?_)
     refine RX.nil (XX.next (V' := [(1, _), (2, _), (7, _), (8, _), (11, _), (12, _), (59, _)]) ⟨rfl, rfl, rfl, rfl, rfl, rfl, rfl, trivial⟩ ?_)
     refine CX.condF rfl ?_
     refine CX.exit ?_
     refine XX.then_exit ?_
     refine XX.then_exit ?_
     refine XX.block_exit ?_
     refine XX.meetP ([]) ((A6, c6), ms) ⟨by dsimp only; omega, hS⟩ ⟨rfl, rfl, rfl, rfl, trivial⟩ ((perm_pick 0 rfl).trans (List.Perm.cons _ ((perm_pick 0 rfl).trans (List.Perm.cons _ (List.Perm.refl _)))))
   ·refine RX.skip rfl rfl rfl rfl rfl rfl rfl ?_
    refine RX.skip rfl rfl rfl rfl rfl rfl rfl ?_
    refine RX.cons rfl rfl (op_w (yw_pickF rfl rfl rfl) rfl rfl ?_)
    refine RX.cons rfl rfl (op_w (yw_move rfl rfl) rfl rfl ?_)
    refine RX.skip rfl rfl rfl rfl rfl rfl rfl ?_
    refine RX.skip rfl rfl rfl rfl rfl rfl rfl ?_
    refine RX.skip rfl rfl rfl rfl rfl rfl rfl ?_
    refine RX.cons rfl rfl (op_w (yw_pickF rfl rfl rfl) rfl rfl ?_)
    refine RX.nil (XX.next (V' := [(1, _), (2, _), (7, _), (8, _), (11, _), (12, _), (59, _)]) ⟨rfl, rfl, rfl, rfl, rfl, rfl, rfl, trivial⟩ ?_)
    refine CX.condF rfl ?_
    refine CX.exit ?_
    refine XX.then_exit ?_
    refine XX.then_exit ?_
    refine XX.block_exit ?_
    refine XX.meetP ([]) ((A6, c6), ms) ⟨by dsimp only; omega, hS⟩ ⟨rfl, rfl, rfl, rfl, trivial⟩ ((perm_pick 0 rfl).trans (List.Perm.cons _ ((perm_pick 0 rfl).trans (List.Perm.cons _ (List.Perm.refl _)))))
  ·obtain ⟨⟨A6, c6⟩, ms⟩ := z
   dsimp only at hI2 ⊢
   obtain ⟨hml, hS⟩ := hI2
   refine CX.seq ?_
   refine CX.region ?_
   refine RX.cons rfl rfl (op_w (yw_move rfl rfl) rfl rfl ?_)
   refine RX.cons rfl rfl (op_callE rfl rfl rfl rfl rfl ent_6 (fun w hw => w_ofB ys (Ent.rd (hw.ents _ (List.mem_of_getElem? (i := 1) rfl))) (by omega)) (fun ps hp => ?_))
   obtain ⟨p0, p1, p2, p3, p4, p5, p6, p7, p8, p9, rfl⟩ := ten_of hp.1
   refine RX.know (t := 105) (u := .agg (#[.slice (Prod.fst (Prod.fst p0)) (List.length (Prod.snd p0)) (Prod.snd (Prod.fst p0)), .slice (Prod.fst (Prod.fst p1)) (List.length (Prod.snd p1)) (Prod.snd (Prod.fst p1)), .slice (Prod.fst (Prod.fst p2)) (List.length (Prod.snd p2)) (Prod.snd (Prod.fst p2)), .slice (Prod.fst (Prod.fst p3)) (List.length (Prod.snd p3)) (Prod.snd (Prod.fst p3)), .slice (Prod.fst (Prod.fst p4)) (List.length (Prod.snd p4)) (Prod.snd (Prod.fst p4)), .slice (Prod.fst (Prod.fst p5)) (List.length (Prod.snd p5)) (Prod.snd (Prod.fst p5)), .slice (Prod.fst (Prod.fst p6)) (List.length (Prod.snd p6)) (Prod.snd (Prod.fst p6)), .slice (Prod.fst (Prod.fst p7)) (List.length (Prod.snd p7)) (Prod.snd (Prod.fst p7)), .slice (Prod.fst (Prod.fst p8)) (List.length (Prod.snd p8)) (Prod.snd (Prod.fst p8)), .slice (Prod.fst (Prod.fst p9)) (List.length (Prod.snd p9)) (Prod.snd (Prod.fst p9))])) rfl rfl ?_
   refine RX.cons rfl rfl (op_alloc rfl rfl rfl zero_30 fun g15 => ?_)
   refine RX.cons rfl rfl (op_storeAll (i := 0) rfl rfl rfl rfl szt_30 rfl (plain_of rfl) rfl rfl ?_)
   refine RX.nil (XX.next (V' := [(1, _), (7, _), (11, _), (15, _)]) ⟨rfl, rfl, rfl, rfl, trivial⟩ ?_)
   refine CX.seq ?_
   refine CX.region ?_
   refine RX.cons rfl rfl (op_w (yw_move rfl rfl) rfl rfl ?_)
   refine RX.cons rfl rfl (op_callE rfl rfl rfl rfl rfl ent_6 (fun w hw => w_ofB ms (Ent.rd (hw.ents _ (List.mem_of_getElem? (i := 2) rfl))) (by omega)) (fun qs hq => ?_))
   obtain ⟨q0, q1, q2, q3, q4, q5, q6, q7, q8, q9, rfl⟩ := ten_of hq.1
   refine RX.know (t := 107) (u := .agg (#[.slice (Prod.fst (Prod.fst q0)) (List.length (Prod.snd q0)) (Prod.snd (Prod.fst q0)), .slice (Prod.fst (Prod.fst q1)) (List.length (Prod.snd q1)) (Prod.snd (Prod.fst q1)), .slice (Prod.fst (Prod.fst q2)) (List.length (Prod.snd q2)) (Prod.snd (Prod.fst q2)), .slice (Prod.fst (Prod.fst q3)) (List.length (Prod.snd q3)) (Prod.snd (Prod.fst q3)), .slice (Prod.fst (Prod.fst q4)) (List.length (Prod.snd q4)) (Prod.snd (Prod.fst q4)), .slice (Prod.fst (Prod.fst q5)) (List.length (Prod.snd q5)) (Prod.snd (Prod.fst q5)), .slice (Prod.fst (Prod.fst q6)) (List.length (Prod.snd q6)) (Prod.snd (Prod.fst q6)), .slice (Prod.fst (Prod.fst q7)) (List.length (Prod.snd q7)) (Prod.snd (Prod.fst q7)), .slice (Prod.fst (Prod.fst q8)) (List.length (Prod.snd q8)) (Prod.snd (Prod.fst q8)), .slice (Prod.fst (Prod.fst q9)) (List.length (Prod.snd q9)) (Prod.snd (Prod.fst q9))])) rfl rfl ?_
   refine RX.cons rfl rfl (op_alloc rfl rfl rfl zero_30 fun g16 => ?_)
   refine RX.cons rfl rfl (op_storeAll (i := 0) rfl rfl rfl rfl szt_30 rfl (plain_of rfl) rfl rfl ?_)
   refine RX.nil (XX.next (V' := [(1, _), (7, _), (15, _), (16, _)]) ⟨rfl, rfl, rfl, rfl, trivial⟩ ?_)
   refine CX.seq ?_
   refine CX.region ?_
   refine RX.cons rfl rfl (op_w (yw_move rfl rfl) rfl rfl ?_)
   refine RX.cons rfl rfl (op_callV (v := .slice AR rs.length capR) rfl rfl rfl rfl rfl ent_7 (fun w hw => w_shortE rs0.length hminR hcR h8R) ?_)
   refine RX.cons rfl rfl (op_w (yw_assign rfl rfl) rfl rfl ?_)
   refine RX.nil (XX.next (V' := [(1, _), (7, _), (15, _), (16, _)]) ⟨rfl, rfl, rfl, rfl, trivial⟩ ?_)
   refine CX.seq ?_
   have lp0 : (Prod.snd p0).length ≤ 100 := by rw [hp.2 0 p0 rfl]; exact Nat.le_trans (baseOf_len _ _) (by omega)
   have lp1 : (Prod.snd p1).length ≤ 100 := by rw [hp.2 1 p1 rfl]; exact Nat.le_trans (baseOf_len _ _) (by omega)
   have np := strmZ_len (Prod.snd p0)
   have lq0 : (Prod.snd q0).length ≤ 100 := by rw [hq.2 0 q0 rfl]; exact Nat.le_trans (baseOf_len _ _) (by omega)
   have lq1 : (Prod.snd q1).length ≤ 100 := by rw [hq.2 1 q1 rfl]; exact Nat.le_trans (baseOf_len _ _) (by omega)
   have nq := strmZ_len (Prod.snd q0)
   refine CX.drawL 17 ([.blk g16 (.cells (#[.slice (Prod.fst (Prod.fst q0)) (List.length (Prod.snd q0)) (Prod.snd (Prod.fst q0)), .slice (Prod.fst (Prod.fst q1)) (List.length (Prod.snd q1)) (Prod.snd (Prod.fst q1)), .slice (Prod.fst (Prod.fst q2)) (List.length (Prod.snd q2)) (Prod.snd (Prod.fst q2)), .slice (Prod.fst (Prod.fst q3)) (List.length (Prod.snd q3)) (Prod.snd (Prod.fst q3)), .slice (Prod.fst (Prod.fst q4)) (List.length (Prod.snd q4)) (Prod.snd (Prod.fst q4)), .slice (Prod.fst (Prod.fst q5)) (List.length (Prod.snd q5)) (Prod.snd (Prod.fst q5)), .slice (Prod.fst (Prod.fst q6)) (List.length (Prod.snd q6)) (Prod.snd (Prod.fst q6)), .slice (Prod.fst (Prod.fst q7)) (List.length (Prod.snd q7)) (Prod.snd (Prod.fst q7)), .slice (Prod.fst (Prod.fst q8)) (List.length (Prod.snd q8)) (Prod.snd (Prod.fst q8)), .slice (Prod.fst (Prod.fst q9)) (List.length (Prod.snd q9)) (Prod.snd (Prod.fst q9))]) 30 (0, 0)), pack (List.map bkE [q0, q1, q2, q3, q4, q5, q6, q7, q8, q9]), .blk g15 (.cells (#[.slice (Prod.fst (Prod.fst p0)) (List.length (Prod.snd p0)) (Prod.snd (Prod.fst p0)), .slice (Prod.fst (Prod.fst p1)) (List.length (Prod.snd p1)) (Prod.snd (Prod.fst p1)), .slice (Prod.fst (Prod.fst p2)) (List.length (Prod.snd p2)) (Prod.snd (Prod.fst p2)), .slice (Prod.fst (Prod.fst p3)) (List.length (Prod.snd p3)) (Prod.snd (Prod.fst p3)), .slice (Prod.fst (Prod.fst p4)) (List.length (Prod.snd p4)) (Prod.snd (Prod.fst p4)), .slice (Prod.fst (Prod.fst p5)) (List.length (Prod.snd p5)) (Prod.snd (Prod.fst p5)), .slice (Prod.fst (Prod.fst p6)) (List.length (Prod.snd p6)) (Prod.snd (Prod.fst p6)), .slice (Prod.fst (Prod.fst p7)) (List.length (Prod.snd p7)) (Prod.snd (Prod.fst p7)), .slice (Prod.fst (Prod.fst p8)) (List.length (Prod.snd p8)) (Prod.snd (Prod.fst p8)), .slice (Prod.fst (Prod.fst p9)) (List.length (Prod.snd p9)) (Prod.snd (Prod.fst p9))]) 30 (0, 0)), pack (List.map bkE [p0, p1, p2, p3, p4, p5, p6, p7, p8, p9])]) [(0, 128, 1298074214633706907132624082305024), (1, 1298074214633706907132624082305024, 2596148429267413814265248164610048), (2, 2596148429267413814265248164642816, 5192296858534827628530496329220096), (2, 2596148429267413814265248164610050, 10384593717069655257060992658440192), (2, 2596148429267413814265248164642816, 20769187434139310514121985316880384), (18, 23365335863406724328387233481490432, 41538374868278621028243970633760768), (34, 44134523297546034842509218798370816, 83076749736557242056487941267521536), (78, 101249788741429138756344678419791872, 166153499473114484112975882535043072), (2, 2596148429267413814265248164675584, 332306998946228968225951765070086144), (2, 2596148429267413814265248164610050, 664613997892457936451903530140172288), (2, 2596148429267413814265248164675584, 1329227995784915872903807060280344576), (1026, 1331824144214183286718072308444954624, 2658455991569831745807614120560689152), (2178, 2661052139999099159621879368725299200, 5316911983139663491615228241121378304), (4866, 6316429128407617810107348784496246784, 10633823966279326983230456482242756608), (8322, 10802573614181708881157697612942409728, 21267647932558653966460912964485513216), (16386, 21270244080987921380275178212650123264, 42535295865117307932921825928971026432), (65535, 42535295865117307932921825928971026432, 64)] (by kernel_rfl) (by kernel_rfl) (by kernel_rfl) ?_
   refine DX.takeW 0 1 (by kernel_rfl) rfl rfl rfl rfl rfl (yw_move rfl rfl) ?_
   refine DX.takeW 1 3 (by kernel_rfl) rfl rfl rfl rfl rfl (yw_move rfl rfl) ?_
   refine DX.takeG 2 7 (by kernel_rfl) rfl rfl rfl rfl rfl rfl rfl rfl (List.Sublist.cons_cons _ (List.Sublist.cons_cons _ (List.Sublist.cons_cons _ (List.Sublist.cons_cons _ (List.nil_sublist _))))) (y_loadA (i := 2) rfl rfl agg_30 rfl rfl) ?_
   refine DX.takeWG 3 15 (by kernel_rfl) rfl rfl rfl rfl rfl rfl rfl rfl (yw_move rfl rfl) ?_
   refine DX.takeWG 4 31 (by kernel_rfl) rfl rfl rfl rfl rfl rfl rfl rfl (yw_field0 rfl fld_30_0 rfl) ?_
   refine DX.takeG 5 63 (by kernel_rfl) rfl rfl rfl rfl rfl rfl rfl rfl (List.Sublist.cons_cons _ (List.Sublist.cons_cons _ (List.Sublist.cons_cons _ (List.Sublist.cons_cons _ (List.nil_sublist _))))) (y_load (i := 2) rfl rfl one_22 rfl rfl) ?_
   refine DX.takeG 8 319 (by kernel_rfl) rfl rfl rfl rfl rfl rfl rfl rfl (List.Sublist.cons_cons _ (List.Sublist.cons_cons _ (List.Sublist.cons_cons _ (List.Sublist.cons_cons _ (List.nil_sublist _))))) (y_loadA (i := 0) rfl rfl agg_30 rfl rfl) ?_
   refine DX.takeWG 9 831 (by kernel_rfl) rfl rfl rfl rfl rfl rfl rfl rfl (yw_move rfl rfl) ?_
   refine DX.takeWG 10 1855 (by kernel_rfl) rfl rfl rfl rfl rfl rfl rfl rfl (yw_field0 rfl fld_30_0 rfl) ?_
   refine DX.takeG 11 3903 (by kernel_rfl) rfl rfl rfl rfl rfl rfl rfl rfl (List.Sublist.cons_cons _ (List.Sublist.cons_cons _ (List.Sublist.cons_cons _ (List.Sublist.cons_cons _ (List.nil_sublist _))))) (y_load (i := 0) rfl rfl one_22 rfl rfl) ?_
   refine DX.stepG 6 3967 (by kernel_rfl) rfl rfl rfl rfl rfl rfl (op_callE rfl rfl rfl rfl rfl ent_10 (fun w hw => w_streamsZ (Prod.snd p0) (hw.packRd (i := 3) (es := List.map bkE [p0, p1, p2, p3, p4, p5, p6, p7, p8, p9]) rfl (List.mem_map.2 ⟨p0, by simp, rfl⟩)) (by omega) (hG.keep hw (by simp))) (fun ⟨B1, d1⟩ _ => (DXs.mk (List.Sublist.cons _ (List.Sublist.cons_cons _ (List.Sublist.cons_cons _ (List.Sublist.cons_cons _ (List.Sublist.cons_cons _ (List.nil_sublist _)))))) ?_)))
   refine DX.stepG 7 4095 (by kernel_rfl) rfl rfl rfl rfl rfl rfl (op_callE rfl rfl rfl rfl rfl ent_9 (fun w hw => w_Apply (Prod.snd p1) rs (strmZ (Prod.snd p0)) (hw.packRd (i := 4) (es := List.map bkE [p0, p1, p2, p3, p4, p5, p6, p7, p8, p9]) rfl (List.mem_map.2 ⟨p1, by simp, rfl⟩)) (hw.rd hrR (by simp)) (Ent.rd (hw.ents _ (List.mem_of_getElem? (i := 0) rfl))) (by omega) (by omega) (by omega)) (fun ⟨A2, c2⟩ _ => (DXs.mk (List.Sublist.cons _ (List.Sublist.cons _ (List.Sublist.cons_cons _ (List.Sublist.cons_cons _ (List.Sublist.cons_cons _ (List.Sublist.cons_cons _ (List.nil_sublist _))))))) ?_)))
   refine DX.stepG 12 8191 (by kernel_rfl) rfl rfl rfl rfl rfl rfl (op_callE rfl rfl rfl rfl rfl ent_10 (fun w hw => w_streamsZ (Prod.snd q0) (hw.packRd (i := 3) (es := List.map bkE [q0, q1, q2, q3, q4, q5, q6, q7, q8, q9]) rfl (List.mem_map.2 ⟨q0, by simp, rfl⟩)) (by omega) (hG.keep hw (by simp))) (fun ⟨B3, d3⟩ _ => (DXs.mk (List.Sublist.cons _ (List.Sublist.cons _ (List.Sublist.cons _ (List.Sublist.cons_cons _ (List.Sublist.cons_cons _ (List.Sublist.cons_cons _ (List.Sublist.cons_cons _ (List.nil_sublist _)))))))) ?_)))
   refine DX.stepG 13 16383 (by kernel_rfl) rfl rfl rfl rfl rfl rfl (op_callE rfl rfl rfl rfl rfl ent_9 (fun w hw => w_Apply (Prod.snd q1) rs (strmZ (Prod.snd q0)) (hw.packRd (i := 4) (es := List.map bkE [q0, q1, q2, q3, q4, q5, q6, q7, q8, q9]) rfl (List.mem_map.2 ⟨q1, by simp, rfl⟩)) (hw.rd hrR (by simp)) (Ent.rd (hw.ents _ (List.mem_of_getElem? (i := 0) rfl))) (by omega) (by omega) (by omega)) (fun ⟨A4, c4⟩ _ => (DXs.mk (List.Sublist.cons _ (List.Sublist.cons _ (List.Sublist.cons _ (List.Sublist.cons _ (List.Sublist.cons_cons _ (List.Sublist.cons_cons _ (List.Sublist.cons_cons _ (List.Sublist.cons_cons _ (List.nil_sublist _))))))))) ?_)))
   refine DX.stepG 14 32767 (by kernel_rfl) rfl rfl rfl rfl rfl rfl (op_callV (v := .bool (decide ((applyS (Prod.snd p1) rs (strmZ (Prod.snd p0))) = (applyS (Prod.snd q1) rs (strmZ (Prod.snd q0)))))) rfl rfl rfl rfl rfl ent_8 (fun w hw => w_same08 (applyS (Prod.snd p1) rs (strmZ (Prod.snd p0))) (applyS (Prod.snd q1) rs (strmZ (Prod.snd q0))) (Ent.rd (hw.ents _ (List.mem_of_getElem? (i := 2) rfl))) (Ent.rd (hw.ents _ (List.mem_of_getElem? (i := 0) rfl))) (by rw [applyS, List.length_map]; omega)) (DXs.mk (List.Sublist.cons _ (List.Sublist.cons _ (List.Sublist.cons _ (List.Sublist.cons _ (List.Sublist.cons_cons _ (List.Sublist.cons_cons _ (List.Sublist.cons_cons _ (List.Sublist.cons_cons _ (List.nil_sublist _))))))))) ?_))
   refine DX.know (t := 124) (u := .bool true) rfl (congrArg Value.bool (decide_eq_true (by rw [hp.2 0 p0 rfl, hq.2 0 q0 rfl, hp.2 1 p1 rfl, hq.2 1 q1 rfl, baseOf_set hS, baseOf_set hS]))) ?_
   refine DX.takeW 15 65535 (by kernel_rfl) rfl rfl rfl rfl rfl (yw_pickT rfl rfl rfl) ?_
   refine DX.takeW 16 131071 (by kernel_rfl) rfl rfl rfl rfl rfl (yw_assign rfl rfl) ?_
   refine DX.done (by kernel_rfl) (XX.next (V' := [(6, .bool true)]) ⟨rfl, trivial⟩ ?_)
   refine CX.ret ?_
   exact ret_tmp rfl rfl fun w1 hw => ⟨rfl, hw.sub (List.nil_sublist _)⟩

end Go.Proofs.YtpcfgoadkfajfaaGreatDoor
