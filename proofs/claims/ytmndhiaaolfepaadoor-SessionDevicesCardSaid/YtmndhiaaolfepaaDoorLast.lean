/- The laws of law08 in plain Lean: what the streams of a list of facts are. -/
import Derived.Test.YtmndhiaaolfepaaDoorLaws
import Derived.Test.YtmndhiaaolfepaaDoorDefs6
namespace Go.Proofs.YtmndhiaaolfepaaDoor
set_option linter.all false
open Go Go.RowKit Srt

theorem few_length (fs : List Fct) : (fewF fs).length ≤ 60 := by simp [fewF]; omega
theorem few_text {fs : List Fct} : ∀ f ∈ fewF fs, f.text.size ≤ 9223372036854775807 := by
  intro f hf
  obtain ⟨g, _, rfl⟩ := List.mem_map.1 hf
  show (g.text.extract 0 (min g.text.size 2010)).size ≤ _
  rw [ByteArray.size_extract]; omega

/-! ### The run of a list -/
def runF (fs : List Fct) : List (Fct × Strm) := run Plr.start (ordered fs)
theorem streams_run (fs : List Fct) : streams fs = (runF fs).map Prod.snd := counted_run _ _
theorem ordered_sorted (fs : List Fct) : Sorted before (ordered fs) := isort_sorted before_swo _
theorem valid_device {f : Fct} (h : f.valid = true) : 1 ≤ f.device ∧ 0 ≤ f.second ∧ f.second ≤ 3155759999 ∧ 0 ≤ f.amount ∧ f.amount ≤ 86400000 := by
  simp only [Fct.valid, within, Bool.and_eq_true, decide_eq_true_eq, beq_iff_eq] at h
  omega
theorem ready_of (fs : List Fct) : Ready Plr.start (ordered fs) := by
  refine ⟨ordered_sorted fs, fun p hp => ?_⟩
  have := valid_device (ordered_valid fs hp)
  exact ⟨by show (0 : Int) ≤ _; omega, this.1⟩
theorem run_inv (fs : List Fct) : ∃ y, Inv y (runF fs) := by
  obtain ⟨y, hy⟩ := Inv.run (ordered fs) Inv.start (ready_of fs)
  exact ⟨y, by simpa [runF] using hy⟩
theorem run_fits (fs : List Fct) : ∀ q ∈ runF fs, Fits q := by obtain ⟨y, h⟩ := run_inv fs; exact h.fits
theorem run_apart (fs : List Fct) : (runF fs).Pairwise Apart := by obtain ⟨y, h⟩ := run_inv fs; exact h.apart
theorem run_five (fs : List Fct) (d s r : Int) : cnt (runF fs) d s r ≤ 5 := by obtain ⟨y, h⟩ := run_inv fs; exact h.five d s r
theorem run_ordered (fs : List Fct) : ∀ q ∈ runF fs, q.1 ∈ ordered fs := fun q hq => run_devices _ _ q hq
theorem run_valid (fs : List Fct) : ∀ q ∈ runF fs, q.1.valid = true := fun q hq => ordered_valid fs (run_ordered fs q hq)
theorem ordered_mem (fs : List Fct) {p : Fct} : p ∈ ordered fs ↔ p ∈ fs ∧ p.valid = true := by
  rw [(ordered_perm fs).mem_iff, List.mem_filter]
theorem run_mem (fs : List Fct) : ∀ q ∈ runF fs, q.1 ∈ fs := fun q hq => ((ordered_mem fs).1 (run_ordered fs q hq)).1
theorem streams_length (fs : List Fct) : (streams fs).length ≤ fs.length := by
  rw [streams_run, List.length_map]
  have := (run_sublist (ordered fs) Plr.start).length_le
  rw [List.length_map] at this
  exact Nat.le_trans this (ordered_length fs)
theorem stream_of (fs : List Fct) {s : Strm} (h : s ∈ streams fs) : ∃ p, (p, s) ∈ runF fs := by
  rw [streams_run] at h
  obtain ⟨q, hq, rfl⟩ := List.mem_map.1 h
  exact ⟨q.1, hq⟩
theorem streams_get (fs : List Fct) {i : Nat} {s : Strm} (h : (streams fs)[i]? = some s) : ∃ p, (runF fs)[i]? = some (p, s) := by
  rw [streams_run, List.getElem?_map] at h
  cases hq : (runF fs)[i]? with
  | none => rw [hq] at h; simp at h
  | some q => rw [hq] at h; simp at h; exact ⟨q.1, by rw [← h]⟩

/-! ### Periods -/
def total : Nat → Int → Int
  | 0, _ => 0
  | k + 1, p => days p + total k (p + 1)
theorem step_within : ∀ (k : Nat) (n p : Int), n < total k p → 0 ≤ n → p ≤ (stepMonths k n p).2 ∧ (stepMonths k n p).2 < p + k
  | 0, n, p, h, h0 => by simp [total] at h; omega
  | k + 1, n, p, h, h0 => by
    rw [stepMonths]
    split
    · dsimp only; omega
    · simp only [total] at h
      have := step_within k (n - days p) (p + 1) (by omega) (by omega)
      omega
theorem total_all : ∀ c : Nat, c < 25 → total 48 (c * 48) = 1461 := by decide +kernel
theorem period_range {s : Int} (h0 : 0 ≤ s) (h1 : s ≤ 3155759999) : 0 ≤ periodOf s ∧ periodOf s < 1200 := by
  unfold periodOf
  rw [if_neg (by omega)]
  have e := total_all (s / 86400 / 1461).toNat (by omega)
  rw [show (((s / 86400 / 1461).toNat : Nat) : Int) = s / 86400 / 1461 from by omega] at e
  have := step_within 48 (s / 86400 % 1461) (s / 86400 / 1461 * 48) (by omega) (by omega)
  omega
theorem stream_period (fs : List Fct) : ∀ s ∈ streams fs, 0 ≤ s.period ∧ s.period < 1200 := by
  intro s hs
  obtain ⟨p, hp⟩ := stream_of fs hs
  have h1 := (run_fits fs _ hp).period
  have h2 := valid_device (run_valid fs _ hp)
  dsimp only at h1 h2
  rw [h1]
  exact period_range h2.2.1 h2.2.2.1

/-- A stream of the period is among the first i. -/
def seenBy (us : List Strm) (p : Int) (i : Nat) : Bool := (us.take i).any (inPeriod p)
/-- The streams of periods of the first i. -/
def cntP (us : List Strm) (i : Nat) : Nat := us.countP fun s => seenBy us s.period i
theorem seenBy_succ {us : List Strm} {j : Nat} {y : Strm} (h : us[j]? = some y) (p : Int) : seenBy us p (j + 1) = (seenBy us p j || decide (y.period = p)) := by
  unfold seenBy
  rw [take_succ h, List.any_append]
  simp [inPeriod]; rfl
theorem cntP_zero (us : List Strm) : cntP us 0 = 0 := by simp [cntP, seenBy]
theorem cntP_le (us : List Strm) (i : Nat) : cntP us i ≤ us.length := List.countP_le_length
theorem cntP_all (us : List Strm) : cntP us us.length = us.length := by
  unfold cntP
  rw [List.countP_eq_length]
  intro s hs
  simp only [seenBy, List.take_length, List.any_eq_true]
  exact ⟨s, hs, by simp [inPeriod]⟩
theorem cntP_old {us : List Strm} {i : Nat} {s : Strm} (h : us[i]? = some s) (hs : seenBy us s.period i = true) : cntP us (i + 1) = cntP us i := by
  unfold cntP
  refine List.countP_congr fun t _ => ?_
  rw [seenBy_succ h]
  simp only [Bool.or_eq_true, decide_eq_true_eq]
  constructor
  · rintro (h1 | h1)
    · exact h1
    · rw [← h1]; exact hs
  · exact .inl
theorem countP_or {α : Type} (p q : α → Bool) (l : List α) (h : ∀ a ∈ l, ¬ (p a = true ∧ q a = true)) : l.countP (fun a => p a || q a) = l.countP p + l.countP q := by
  induction l with
  | nil => rfl
  | cons a l ih =>
    have ih' := ih (fun b hb => h b (List.mem_cons_of_mem _ hb))
    have ha := h a List.mem_cons_self
    simp only [List.countP_cons, ih']
    cases hp : p a <;> cases hq : q a <;> simp_all <;> omega
theorem cntP_new {us : List Strm} {i : Nat} {s : Strm} (h : us[i]? = some s) (hs : seenBy us s.period i = false) : cntP us (i + 1) = cntP us i + (us.filter (inPeriod s.period)).length := by
  unfold cntP
  rw [← List.countP_eq_length_filter, ← countP_or]
  · refine List.countP_congr fun t _ => ?_
    rw [seenBy_succ h]
    simp only [Bool.or_eq_true, decide_eq_true_eq, inPeriod, beq_iff_eq]
    constructor
    · rintro (h1 | h1)
      · exact .inl h1
      · exact .inr h1.symm
    · rintro (h1 | h1)
      · exact .inl h1
      · exact .inr h1.symm
  · rintro t _ ⟨h1, h2⟩
    simp only [inPeriod, beq_iff_eq] at h2
    rw [h2, hs] at h1
    cases h1
theorem seen_last {us : List Strm} {i : Nat} {p : Int} (h : ∃ s ∈ us.take i, s.period = p) : seenBy us p i = true := by
  obtain ⟨s, hs, e⟩ := h
  simp only [seenBy, List.any_eq_true]
  exact ⟨s, hs, by simp [inPeriod, e]⟩
theorem mem_take_succ {α : Type} {us : List α} {i : Nat} {s : α} (h : us[i]? = some s) : s ∈ us.take (i + 1) := by rw [take_succ h]; simp

/-! ### Without repetitions -/
def Distinct (fs : List Fct) : Prop := fs.Pairwise fun a b => ¬ (a.device = b.device ∧ a.id = b.id)
theorem distinct_go : ∀ (fs ys : List Fct), Distinct ys → Distinct (distinctF ys fs)
  | [], ys, h => h
  | f :: r, ys, h => by
    rw [distinctF]
    refine distinct_go r _ ?_
    split
    · exact h
    · rename_i hn
      unfold Distinct
      rw [List.pairwise_append]
      refine ⟨h, by simp, ?_⟩
      intro a ha b hb hab
      obtain rfl : b = f := by simpa using hb
      apply hn
      rw [List.any_eq_true]
      exact ⟨a, ha, by simp [keyF, hab.1, hab.2]⟩
theorem distinct_of (fs : List Fct) : Distinct (distinctF [] fs) := distinct_go fs [] List.Pairwise.nil
theorem distinct_length : ∀ (fs ys : List Fct), (distinctF ys fs).length ≤ ys.length + fs.length
  | [], ys => by simp [distinctF]
  | f :: r, ys => by
    rw [distinctF]
    have := distinct_length r (if ys.any (keyF f) then ys else ys ++ [f])
    have h2 : (if ys.any (keyF f) then ys else ys ++ [f]).length ≤ ys.length + 1 := by split <;> simp
    simp only [List.length_cons]; omega
theorem distinct_few (fs : List Fct) : (distinctF [] (fewF fs)).length ≤ 60 := by
  have := distinct_length (fewF fs) []
  have h2 := few_length fs
  simp only [List.length_nil] at this; omega
theorem Distinct.one {fs : List Fct} (h : Distinct fs) {a b : Fct} (ha : a ∈ fs) (hb : b ∈ fs) (h1 : a.device = b.device) (h2 : a.id = b.id) : a = b := by
  induction fs with
  | nil => simp at ha
  | cons x r ih =>
    unfold Distinct at h
    rw [List.pairwise_cons] at h
    rcases List.mem_cons.1 ha with rfl | ha' <;> rcases List.mem_cons.1 hb with rfl | hb'
    · rfl
    · exact absurd ⟨h1, h2⟩ (h.1 b hb')
    · exact absurd ⟨h1.symm, h2.symm⟩ (h.1 a ha')
    · exact ih h.2 ha' hb'
theorem counts_of (fs : List Fct) {q : Fct × Strm} (hq : q ∈ runF fs) : q.1.counts = true := by
  simp [Fct.counts, run_valid fs q hq, (run_fits fs q hq).qual]
theorem find_run {fs : List Fct} (h : Distinct fs) {q : Fct × Strm} (hq : q ∈ runF fs) : findF fs q.2 = q.1 ∧ foundF fs q.2 = true := by
  have hf := run_fits fs q hq
  have hi : isOf q.2 q.1 = true := by simp [isOf, hf.device, hf.id, counts_of fs hq]
  have hm := run_mem fs q hq
  have hs : (fs.find? (isOf q.2)).isSome = true := by rw [List.find?_isSome]; exact ⟨q.1, hm, hi⟩
  obtain ⟨g, hg⟩ := Option.isSome_iff_exists.1 hs
  have hgi : isOf q.2 g = true := List.find?_some hg
  have hgm : g ∈ fs := List.mem_of_find?_eq_some hg
  simp only [isOf, Bool.and_eq_true, beq_iff_eq] at hgi
  have e : g = q.1 := h.one hgm hm (by rw [hgi.1.1, hf.device]) (by rw [hgi.1.2, hf.id])
  subst e
  simp [findF, foundF, hg]
structure IsHer (fs : List Fct) (s : Strm) : Prop where
  found : foundF fs s = true
  account : s.account = (findF fs s).account
  recording : s.recording = (findF fs s).recording
  territory : s.territory = (findF fs s).territory
  second : s.second = (findF fs s).second
  session : 1 ≤ s.session
  s0 : 0 ≤ (findF fs s).second
  s1 : (findF fs s).second ≤ 3155759999
  a0 : 0 ≤ (findF fs s).amount
  a1 : (findF fs s).amount ≤ 86400000
theorem is_her {fs : List Fct} (h : Distinct fs) {s : Strm} (hs : s ∈ streams fs) : IsHer fs s := by
  obtain ⟨p, hp⟩ := stream_of fs hs
  obtain ⟨h1, h2⟩ := find_run h hp
  have hf := run_fits fs _ hp
  have hv := valid_device (run_valid fs _ hp)
  dsimp only at h1 h2 hv
  have e1 := hf.account; have e2 := hf.recording; have e3 := hf.territory; have e4 := hf.second; have e5 := hf.session
  dsimp only at e1 e2 e3 e4 e5
  refine ⟨h2, ?_, ?_, ?_, ?_, e5, ?_, ?_, ?_, ?_⟩ <;> rw [h1] <;> first | assumption | omega

/-! ### Apart -/
theorem pair_get {α : Type} {R : α → α → Prop} {l : List α} (h : l.Pairwise R) {i j : Nat} {a b : α} (hij : i < j) (ha : l[i]? = some a) (hb : l[j]? = some b) : R a b := by
  obtain ⟨hi, rfl⟩ := List.getElem?_eq_some_iff.1 ha
  obtain ⟨hj, rfl⟩ := List.getElem?_eq_some_iff.1 hb
  exact List.pairwise_iff_getElem.1 h i j hi hj hij
theorem apart_prev {fs : List Fct} (h : Distinct fs) {i j : Nat} (hij : i < j) {s' s : Strm} (h' : (streams fs)[i]? = some s') (hs : (streams fs)[j]? = some s) :
    s'.device ≤ s.device ∧ (s'.device = s.device → (findF fs s').stop ≤ s.second ∧ s'.session ≤ s.session) := by
  obtain ⟨p', hp'⟩ := streams_get fs h'
  obtain ⟨p, hp⟩ := streams_get fs hs
  have ha := pair_get (run_apart fs) hij hp' hp
  have m' := List.mem_of_getElem? hp'
  have m := List.mem_of_getElem? hp
  have e1 := (run_fits fs _ m').device
  have e2 := (run_fits fs _ m).device
  have e3 := (run_fits fs _ m).second
  dsimp only at e1 e2 e3
  have e4 := (find_run h m').1
  dsimp only at e4
  unfold Apart at ha
  dsimp only at ha
  refine ⟨by omega, fun e => ?_⟩
  obtain ⟨a, b⟩ := ha.2 (by omega)
  rw [e4]
  exact ⟨by omega, b⟩
def alike (s t : Strm) : Bool := t.device == s.device && (t.session == s.session && t.recording == s.recording)
theorem alike_few (fs : List Fct) (s : Strm) (k : Nat) : ((streams fs).take k).countP (alike s) ≤ 5 := by
  have h1 : ((streams fs).take k).countP (alike s) ≤ (streams fs).countP (alike s) := (List.take_sublist k _).countP_le
  have h2 : (streams fs).countP (alike s) = cnt (runF fs) s.device s.session s.recording := by
    rw [streams_run, List.countP_map]
    unfold cnt
    refine List.countP_congr fun q _ => ?_
    simp only [Function.comp, alike, Bool.and_eq_true, beq_iff_eq, and_assoc]
  have := run_five fs s.device s.session s.recording
  omega
theorem countP_succ {α : Type} {l : List α} {k : Nat} {x : α} (h : l[k]? = some x) (p : α → Bool) : (l.take (k + 1)).countP p = (l.take k).countP p + if p x then 1 else 0 := by
  rw [take_succ h, List.countP_append]
  cases hp : p x <;> simp [hp]

/-! ### Devices -/
theorem streams_filter (fs : List Fct) (P : Fct → Bool) (hP : ∀ f, P f = true → f.valid = true) : ordered (fs.filter P) = (ordered fs).filter P := by
  unfold ordered
  rw [filter_isort before_swo, List.filter_filter, List.filter_filter]
  congr 1
  refine List.filter_congr fun f _ => ?_
  cases hp : P f with
  | false => simp
  | true => simp [hP f hp]
def mineB (d : Int) (f : Fct) : Bool := f.valid && f.device == d
def othersB (d : Int) (f : Fct) : Bool := f.valid && !(f.device == d)
theorem devices_mine (fs : List Fct) (d : Int) : (streams fs).filter (fun s => s.device == d) = streams (fs.filter (mineB d)) := by
  rw [streams_run, streams_run, List.filter_map]
  unfold runF
  have e : ordered (fs.filter (mineB d)) = (ordered fs).filter (fun p => p.device == d) := by
    rw [streams_filter fs (mineB d) (fun f h => by simp only [mineB, Bool.and_eq_true] at h; exact h.1)]
    refine List.filter_congr fun f hf => ?_
    simp [mineB, ordered_valid fs hf]
  rw [e, ← run_only d (ordered fs) Plr.start Plr.start (ready_of fs).up (fun _ => rfl) (fun h => h)]
  congr 1
  refine List.filter_congr fun q hq => ?_
  simp only [Function.comp, (run_fits fs q hq).device]
theorem devices_others (fs : List Fct) (d : Int) : (streams fs).filter (fun s => !(s.device == d)) = streams (fs.filter (othersB d)) := by
  rw [streams_run, streams_run, List.filter_map]
  unfold runF
  have e : ordered (fs.filter (othersB d)) = (ordered fs).filter (fun p => !(p.device == d)) := by
    rw [streams_filter fs (othersB d) (fun f h => by simp only [othersB, Bool.and_eq_true] at h; exact h.1)]
    refine List.filter_congr fun f hf => ?_
    simp [othersB, ordered_valid fs hf]
  have e2 : (run Plr.start (ordered fs)).filter (fun q => !(q.1.device == d)) = run Plr.start ((ordered fs).filter fun p => !(p.device == d)) := by
    by_cases hd : d = 0
    · have h1 : ∀ p ∈ ordered fs, (!(p.device == d)) = true := fun p hp => by
        have := (valid_device (ordered_valid fs hp)).1
        simp; omega
      rw [List.filter_eq_self.2 h1, List.filter_eq_self]
      intro q hq
      exact h1 q.1 (run_devices _ _ q hq)
    · exact run_others d (ordered fs) Plr.start Plr.start (ready_of fs).up (fun _ => rfl) (fun h => absurd h (fun h' => hd h'.symm))
  rw [e, ← e2]
  congr 1
  refine List.filter_congr fun q hq => ?_
  simp only [Function.comp, (run_fits fs q hq).device]

/-! ### A further play -/
def keepsS (f : Fct) (s : Strm) : Bool := !(s.device == f.device) || (decide (s.second < f.second) || (s.second == f.second && decide (s.id < f.id)))
theorem late_same (fs : List Fct) (f : Fct) : (streams fs).filter (keepsS f) = (streams (fs ++ [f])).filter (keepsS f) := by
  have key : ∀ gs, (streams gs).filter (keepsS f) = ((run Plr.start (ordered gs)).filter (keeps f)).map Prod.snd := by
    intro gs
    rw [streams_run, List.filter_map]
    congr 1
    refine List.filter_congr fun q hq => ?_
    have h := run_fits gs q hq
    simp only [Function.comp, keepsS, keeps, h.device, h.second, h.id]
  rw [key, key]
  congr 1
  by_cases hv : f.valid = true
  · have e : ordered (fs ++ [f]) = ins before f (ordered fs) := by
      unfold ordered
      rw [List.filter_append, show [f].filter Fct.valid = [f] from by simp [hv], isort_snoc]
    obtain ⟨A, B, e1, e2, h1, h2⟩ := ins_split f (ordered fs) (ordered_sorted fs)
    have hu := (ready_of (fs ++ [f])).up
    rw [e, e2] at hu
    rw [e, e2, e1]
    exact (run_late f A B Plr.start hu h1).symm
  · have e : ordered (fs ++ [f]) = ordered fs := by
      unfold ordered
      rw [List.filter_append, show [f].filter Fct.valid = [] from by simp [hv], List.append_nil]
    rw [e]

/-! ### Reasons -/
/-- A play comes before another one of its device. -/
def earlier (g f : Fct) : Bool := decide (g.second < f.second) || (g.second == f.second && decide (g.id < f.id))
def hers (f : Fct) (s : Strm) : Bool := s.device == f.device && s.id == f.id
def overs (fs : List Fct) (f : Fct) (s : Strm) : Bool := s.device == f.device && (earlier (findF fs s) f && decide (f.second < (findF fs s).stop))
def loopsB (fs : List Fct) (f : Fct) (s : Strm) : Bool := s.device == f.device && (earlier (findF fs s) f && s.recording == f.recording)
theorem reasons_why {fs : List Fct} (h : Distinct fs) {f : Fct} (hf : f ∈ fs) (hc : f.counts = true) : (streams fs).any (hers f) = true ∨ (streams fs).any (overs fs f) = true ∨ 5 ≤ (streams fs).countP (loopsB fs f) := by
  have hv : f.valid = true := by simp only [Fct.counts, Bool.and_eq_true] at hc; exact hc.1
  have hq : f.qual = true := by simp only [Fct.counts, Bool.and_eq_true] at hc; exact hc.2
  have hw := why_run (ordered fs) Inv.start (ready_of fs) (by simp) (fun p hp => (valid_device (ordered_valid fs hp)).2.1) f ((ordered_mem fs).2 ⟨hf, hv⟩) hq
  have hw : Why (runF fs) f := by simpa [runF] using hw
  have same : ∀ q ∈ runF fs, q.1.device = f.device → q.1.id = f.id → (streams fs).any (hers f) = true := by
    intro q hq e1 e2
    have hfit := run_fits fs q hq
    rw [List.any_eq_true]
    refine ⟨q.2, ?_, ?_⟩
    · rw [streams_run]; exact List.mem_map_of_mem hq
    · simp [hers, hfit.device, hfit.id, e1, e2]
  have earl : ∀ q : Fct × Strm, before f q.1 = false → q.1.device = f.device → q.1.id ≠ f.id → earlier q.1 f = true := by
    intro q hb e1 e2
    simp only [before, Bool.or_eq_false_iff, Bool.and_eq_false_iff, decide_eq_false_iff_not, beq_eq_false_iff_ne] at hb
    simp only [earlier, Bool.or_eq_true, Bool.and_eq_true, decide_eq_true_eq, beq_iff_eq]
    omega
  rcases hw with ⟨s, hs⟩ | ⟨q, hq, e1, e2, e3⟩ | h5
  · exact .inl (same _ hs rfl rfl)
  · by_cases hid : q.1.id = f.id
    · exact .inl (same q hq e1 hid)
    · refine .inr (.inl ?_)
      have hfit := run_fits fs q hq
      rw [List.any_eq_true]
      refine ⟨q.2, by rw [streams_run]; exact List.mem_map_of_mem hq, ?_⟩
      have hr := (find_run h hq).1
      simp [overs, hr, hfit.device, e1, e2, earl q e3 e1 hid]
  · by_cases hx : ∃ q ∈ runF fs, q.1.device = f.device ∧ q.1.id = f.id
    · obtain ⟨q, hq, e1, e2⟩ := hx
      exact .inl (same q hq e1 e2)
    · refine .inr (.inr ?_)
      rw [streams_run, List.countP_map]
      refine Nat.le_trans h5 (List.countP_mono_left fun q hq hh => ?_)
      simp only [Bool.and_eq_true, beq_iff_eq, Bool.not_eq_true'] at hh
      have hfit := run_fits fs q hq
      have e1 : q.1.device = f.device := by rw [← hfit.device]; exact hh.1.1
      have e2 : q.1.id ≠ f.id := fun e => hx ⟨q, hq, e1, e⟩
      have hr := (find_run h hq).1
      simp [loopsB, hr, hh.1.1, hh.1.2, earl q hh.2 e1 e2]
theorem qual_stop {p : Fct} (h : p.qual = true) : p.second < p.stop := by
  simp only [Fct.qual, Bool.and_eq_true, decide_eq_true_eq] at h
  have := h.1
  unfold Fct.stop; omega
theorem earlier_le {g p : Fct} (h : earlier g p = true) : g.second ≤ p.second ∧ g ≠ p := by
  simp only [earlier, Bool.and_eq_true, Bool.or_eq_true, decide_eq_true_eq, beq_iff_eq] at h
  refine ⟨by omega, fun e => ?_⟩
  subst e; omega
theorem apart_stop {fs : List Fct} {g p : Fct} {t s : Strm} (hg : (g, t) ∈ runF fs) (hp : (p, s) ∈ runF fs) (hd : g.device = p.device) (he : g.second ≤ p.second ∧ g ≠ p) (hq : p.second < p.stop) : g.stop ≤ p.second := by
  obtain ⟨i, hi⟩ := List.getElem?_of_mem hg
  obtain ⟨j, hj⟩ := List.getElem?_of_mem hp
  have ha := run_apart fs
  rcases Nat.lt_trichotomy i j with hij | hij | hij
  · exact ((pair_get ha hij hi hj).2 hd).1
  · subst hij
    rw [hi] at hj
    exact absurd (congrArg Prod.fst (Option.some.inj hj)) he.2
  · have h2 : p.stop ≤ g.second := ((pair_get ha hij hj hi).2 hd.symm).1
    have := he.1
    omega
theorem hers_one {fs : List Fct} (h : Distinct fs) {f : Fct} (hf : f ∈ fs) (hc : (streams fs).any (hers f) = true) : ∃ s, (f, s) ∈ runF fs := by
  rw [List.any_eq_true] at hc
  obtain ⟨s, hs, hh⟩ := hc
  obtain ⟨p, hp⟩ := stream_of fs hs
  have hd : s.device = p.device := (run_fits fs _ hp).device
  have hi : s.id = p.id := (run_fits fs _ hp).id
  simp only [hers, Bool.and_eq_true, beq_iff_eq] at hh
  have e : p = f := h.one (run_mem fs _ hp) hf (hd.symm.trans hh.1) (hi.symm.trans hh.2)
  exact ⟨s, e ▸ hp⟩
theorem reasons_not {fs : List Fct} (h : Distinct fs) {f : Fct} (hf : f ∈ fs) (hc : (streams fs).any (hers f) = true) : (streams fs).any (overs fs f) = false ∧ f.counts = true := by
  obtain ⟨s, hp⟩ := hers_one h hf hc
  refine ⟨?_, counts_of fs (q := (f, s)) hp⟩
  rw [List.any_eq_false]
  intro t ht hov
  obtain ⟨g, hg⟩ := stream_of fs ht
  have hgr : findF fs t = g := (find_run h hg).1
  have hgd : t.device = g.device := (run_fits fs _ hg).device
  simp only [overs, hgr, Bool.and_eq_true, decide_eq_true_eq, beq_iff_eq] at hov
  have := apart_stop hg hp (hgd.symm.trans hov.1) (earlier_le hov.2.1) (qual_stop (run_fits fs _ hp).qual)
  have := hov.2.2
  omega
end Go.Proofs.YtmndhiaaolfepaaDoor
