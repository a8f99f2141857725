/- Plain Lean: what the streams of plays are; the statements on sessions without a program. -/
import Derived.Test.YtmndhiaaolfepaaDoorPlain
namespace Go.Proofs.YtmndhiaaolfepaaDoor
set_option linter.all false
open Srt

/-- The run over ordered plays: each play that counts, with its stream. -/
def run (x : Plr) : List Fct → List (Fct × Strm)
  | [] => []
  | p :: r => if (x.look p).2 then (p, strm (x.look p).1 p) :: run (x.look p).1 r else run (x.look p).1 r
theorem run_cons (x : Plr) (p : Fct) (r : List Fct) : run x (p :: r) = if (x.look p).2 then (p, strm (x.look p).1 p) :: run (x.look p).1 r else run (x.look p).1 r := rfl
theorem counted_cons (x : Plr) (p : Fct) (r : List Fct) : counted x (p :: r) = if (x.look p).2 then strm (x.look p).1 p :: counted (x.look p).1 r else counted (x.look p).1 r := rfl

theorem counted_run : ∀ (l : List Fct) (x : Plr), counted x l = (run x l).map Prod.snd
  | [], _ => rfl
  | p :: r, x => by
    rw [counted_cons, run_cons, counted_run r]
    split <;> simp

theorem run_sublist : ∀ (l : List Fct) (x : Plr), ((run x l).map Prod.fst).Sublist l
  | [], _ => List.Sublist.refl _
  | p :: r, x => by
    rw [run_cons]
    split
    · exact (run_sublist r _).cons_cons p
    · exact (run_sublist r _).cons p

/-- How often a recording has counted in a device's session. -/
def cnt (H : List (Fct × Strm)) (d s r : Int) : Nat := H.countP fun q => q.2.device == d && q.2.session == s && q.2.recording == r
theorem cnt_snoc (H : List (Fct × Strm)) (q : Fct × Strm) (d s r : Int) : cnt (H ++ [q]) d s r = cnt H d s r + if q.2.device = d ∧ q.2.session = s ∧ q.2.recording = r then 1 else 0 := by
  unfold cnt
  rw [List.countP_append]
  by_cases h : q.2.device = d ∧ q.2.session = s ∧ q.2.recording = r
  · rw [if_pos h]; simp [h]
  · rw [if_neg h]
    have : ¬ ((q.2.device == d && q.2.session == s && q.2.recording == r) = true) := by simp; intro a b c; exact h ⟨a, b, c⟩
    simp [this]

/-- What holds of a stream and its play. -/
structure Fits (q : Fct × Strm) : Prop where
  device : q.2.device = q.1.device
  id : q.2.id = q.1.id
  account : q.2.account = q.1.account
  recording : q.2.recording = q.1.recording
  territory : q.2.territory = q.1.territory
  second : q.2.second = q.1.second
  period : q.2.period = periodOf q.1.second
  session : 1 ≤ q.2.session
  mark : q.2.mark = 1
  qual : q.1.qual = true

/-- Of two streams, the earlier first. -/
def Apart (q q' : Fct × Strm) : Prop :=
  q.1.device ≤ q'.1.device ∧ (q.1.device = q'.1.device → q.1.stop ≤ q'.1.second ∧ q.2.session ≤ q'.2.session)

/-- The state behind the streams H. -/
structure Inv (x : Plr) (H : List (Fct × Strm)) : Prop where
  fits : ∀ q ∈ H, Fits q
  apart : H.Pairwise Apart
  dev : ∀ q ∈ H, q.1.device ≤ x.device
  stp : ∀ q ∈ H, q.1.device = x.device → q.1.stop ≤ x.stop ∧ q.2.session ≤ x.session
  src : x.stop = 0 ∨ ∃ q ∈ H, q.1.device = x.device ∧ q.1.stop = x.stop
  loops : ∀ r, x.loops r = cnt H x.device x.session r
  few : ∀ r, x.loops r ≤ 5
  five : ∀ d s r, cnt H d s r ≤ 5
  ses : x.device = 0 ∨ 1 ≤ x.session

theorem Inv.start : Inv .start [] := by
  refine ⟨by simp, List.Pairwise.nil, by simp, by simp, .inl rfl, fun r => by simp [Plr.start, cnt], fun r => by simp [Plr.start], fun d s r => by simp [cnt], .inl rfl⟩

theorem cnt_zero {H : List (Fct × Strm)} {d s r : Int} (h : ∀ q ∈ H, ¬ (q.2.device = d ∧ q.2.session = s)) : cnt H d s r = 0 := by
  unfold cnt
  rw [List.countP_eq_zero]
  intro q hq
  have := h q hq
  simp only [Bool.and_eq_true, beq_iff_eq]
  intro a
  exact this a.1

theorem Inv.arrive {x : Plr} {H : List (Fct × Strm)} (h : Inv x H) {p : Fct} (hd : x.device ≤ p.device) (hp : 1 ≤ p.device) :
    Inv (x.arrive p) H ∧ (x.arrive p).device = p.device ∧ 1 ≤ (x.arrive p).session := by
  by_cases hx : x.device = p.device
  · have hs : 1 ≤ x.session := by rcases h.ses with h0 | h0 <;> omega
    by_cases hb : 1800 < p.second - x.last
    · have e : x.arrive p = { x with last := p.second, session := x.session + 1, loops := fun _ => 0 } := by simp [Plr.arrive, hx, hb, Plr.begin]
      rw [e]
      refine ⟨⟨h.fits, h.apart, h.dev, fun q hq hqd => ⟨(h.stp q hq hqd).1, by have := (h.stp q hq hqd).2; simp; omega⟩, h.src, fun r => ?_, fun r => by simp, h.five, .inr (by simp; omega)⟩, hx, by simp; omega⟩
      rw [cnt_zero]
      · rfl
      · intro q hq hc
        have hqd : q.1.device = x.device := by rw [← (h.fits q hq).device]; exact hc.1
        have := (h.stp q hq hqd).2
        have h2 := hc.2
        simp at h2
        omega
    · have e : x.arrive p = { x with last := p.second } := by simp [Plr.arrive, hx, hb]
      rw [e]
      exact ⟨⟨h.fits, h.apart, h.dev, h.stp, h.src, h.loops, h.few, h.five, h.ses⟩, hx, hs⟩
  · have e : x.arrive p = { device := p.device, last := p.second, stop := 0, session := 1, loops := fun _ => 0 } := by simp [Plr.arrive, hx]
    rw [e]
    have hlt : ∀ q ∈ H, q.1.device < p.device := fun q hq => by have := h.dev q hq; omega
    refine ⟨⟨h.fits, h.apart, fun q hq => Int.le_of_lt (hlt q hq), fun q hq hqd => ?_, .inl rfl, fun r => ?_, fun r => by simp, h.five, .inr (by simp)⟩, rfl, by simp⟩
    · have := hlt q hq; simp at hqd; omega
    · rw [cnt_zero]
      · rfl
      · intro q hq hc
        have := hlt q hq
        have h1 := (h.fits q hq).device
        have h2 := hc.1
        simp at h2
        omega

theorem stop_ge {p : Fct} (h : 0 ≤ p.amount) : p.second ≤ p.stop := by unfold Fct.stop; omega

theorem Inv.count {x : Plr} {H : List (Fct × Strm)} (h : Inv x H) {p : Fct} (hd : x.device = p.device) (hs : 1 ≤ x.session) (ht : x.takes p = true) :
    Inv (x.count p) (H ++ [(p, strm (x.count p) p)]) := by
  simp only [Plr.takes, Bool.and_eq_true, Bool.not_eq_true', decide_eq_false_iff_not] at ht
  obtain ⟨⟨hq, h1⟩, h2⟩ := ht
  have ha : 0 ≤ p.amount := by simp only [Fct.qual, Bool.and_eq_true, decide_eq_true_eq] at hq; omega
  have hge := stop_ge ha
  have hf : Fits (p, strm (x.count p) p) := ⟨rfl, rfl, rfl, rfl, rfl, rfl, rfl, by simpa [strm, Plr.count] using hs, rfl, hq⟩
  refine ⟨?_, ?_, ?_, ?_, ?_, ?_, ?_, ?_, .inr (by simpa [Plr.count] using hs)⟩
  · intro q hq'
    rcases List.mem_append.1 hq' with hq' | hq'
    · exact h.fits q hq'
    · obtain rfl : q = _ := by simpa using hq'
      exact hf
  · rw [List.pairwise_append]
    refine ⟨h.apart, by simp, ?_⟩
    intro q hq' q' hq''
    obtain rfl : q' = _ := by simpa using hq''
    refine ⟨by have := h.dev q hq'; simp; omega, fun e => ?_⟩
    have e' : q.1.device = x.device := by simp at e; omega
    obtain ⟨a, b⟩ := h.stp q hq' e'
    exact ⟨by simp; omega, by simpa [strm, Plr.count] using b⟩
  · intro q hq'
    rcases List.mem_append.1 hq' with hq' | hq'
    · exact h.dev q hq'
    · obtain rfl : q = _ := by simpa using hq'
      simp [Plr.count]; omega
  · intro q hq' e
    rcases List.mem_append.1 hq' with hq' | hq'
    · obtain ⟨a, b⟩ := h.stp q hq' e
      exact ⟨by simp [Plr.count]; omega, b⟩
    · obtain rfl : q = _ := by simpa using hq'
      exact ⟨by simp [Plr.count], by simp [strm]⟩
  · refine .inr ⟨_, List.mem_append_right _ (List.mem_singleton.2 rfl), by simp [Plr.count]; omega, by simp [Plr.count]⟩
  · intro r
    rw [cnt_snoc]
    have e1 : (x.count p).device = x.device := rfl
    have e2 : (x.count p).session = x.session := rfl
    rw [e1, e2, show (x.count p).loops r = if r = p.recording then x.loops r + 1 else x.loops r from rfl, h.loops r]
    by_cases e : r = p.recording
    · subst e; simp [strm, hd, e2]
    · have : ¬ (p.recording = r) := fun h => e h.symm
      simp [e, strm, this]
  · intro r
    show (if r = p.recording then x.loops r + 1 else x.loops r) ≤ 5
    have := h.few r
    split
    · rename_i e; subst e; omega
    · exact this
  · intro d s r
    rw [cnt_snoc]
    have h5 := h.five d s r
    split
    · rename_i e
      have e1 : p.device = d := e.1
      have e2 : x.session = s := e.2.1
      have e3 : p.recording = r := e.2.2
      have := h.loops r
      rw [hd, e1, e2] at this
      subst e3
      omega
    · omega

/-- Plays in order, from a device on. -/
def Ready (x : Plr) (l : List Fct) : Prop := l.Pairwise (fun a b => before b a = false) ∧ ∀ p ∈ l, x.device ≤ p.device ∧ 1 ≤ p.device

theorem Ready.tail {x : Plr} {p : Fct} {r : List Fct} (h : Ready x (p :: r)) {y : Plr} (hy : y.device = p.device) : Ready y r := by
  obtain ⟨h1, h2⟩ := h
  rw [List.pairwise_cons] at h1
  refine ⟨h1.2, fun q hq => ⟨?_, (h2 q (List.mem_cons_of_mem _ hq)).2⟩⟩
  have := h1.1 q hq
  simp [before] at this
  omega

theorem count_device (x : Plr) (p : Fct) : (x.count p).device = x.device := rfl

/-- The invariant along a run. -/
theorem Inv.run : ∀ (l : List Fct) {x : Plr} {H : List (Fct × Strm)}, Inv x H → Ready x l → ∃ y, Inv y (H ++ run x l)
  | [], x, H, h, _ => ⟨x, by simpa [YtmndhiaaolfepaaDoor.run] using h⟩
  | p :: r, x, H, h, hr => by
    obtain ⟨hd, hp⟩ := hr.2 p List.mem_cons_self
    obtain ⟨h1, h2, h3⟩ := h.arrive hd hp
    rw [run_cons]
    by_cases ht : (x.arrive p).takes p = true
    · have e : x.look p = ((x.arrive p).count p, true) := by simp [Plr.look, ht]
      rw [e]
      simp only [if_true]
      have h4 := h1.count h2 h3 ht
      obtain ⟨y, hy⟩ := Inv.run r h4 (hr.tail (by rw [count_device, h2]))
      exact ⟨y, by simpa using hy⟩
    · have e : x.look p = (x.arrive p, false) := by simp [Plr.look, ht]
      rw [e]
      simp only [Bool.false_eq_true, if_false]
      exact Inv.run r h1 (hr.tail h2)


/-! ### Reasons -/
/-- Why a play that qualifies does not count. -/
def Why (H : List (Fct × Strm)) (p : Fct) : Prop :=
  (∃ s, (p, s) ∈ H) ∨ (∃ q ∈ H, q.1.device = p.device ∧ p.second < q.1.stop ∧ before p q.1 = false) ∨
  5 ≤ H.countP fun q => q.2.device == p.device && q.2.recording == p.recording && !before p q.1

theorem Why.mono {H : List (Fct × Strm)} {p : Fct} (h : Why H p) (G : List (Fct × Strm)) : Why (H ++ G) p := by
  rcases h with ⟨s, h⟩ | ⟨q, h1, h2⟩ | h
  · exact .inl ⟨s, List.mem_append_left _ h⟩
  · exact .inr (.inl ⟨q, List.mem_append_left _ h1, h2⟩)
  · refine .inr (.inr ?_)
    rw [List.countP_append]; omega

theorem why_run : ∀ (l : List Fct) {x : Plr} {H : List (Fct × Strm)}, Inv x H → Ready x l → (∀ q ∈ H, ∀ p ∈ l, before p q.1 = false) → (∀ p ∈ l, 0 ≤ p.second) → ∀ p ∈ l, p.qual = true → Why (H ++ YtmndhiaaolfepaaDoor.run x l) p
  | [], x, H, _, _, _, _, p, hp, _ => by simp at hp
  | p :: r, x, H, h, hr, hb, h0, p', hp', hq => by
    obtain ⟨hd, hp⟩ := hr.2 p List.mem_cons_self
    obtain ⟨h1, h2, h3⟩ := h.arrive hd hp
    have hpr : ∀ a ∈ r, before a p = false := by have := hr.1; rw [List.pairwise_cons] at this; exact this.1
    rw [run_cons]
    by_cases ht : (x.arrive p).takes p = true
    · have e : x.look p = ((x.arrive p).count p, true) := by simp [Plr.look, ht]
      rw [e]
      simp only [if_true]
      have h4 := h1.count h2 h3 ht
      rw [show ∀ (a : Fct × Strm) (l : List (Fct × Strm)), H ++ a :: l = (H ++ [a]) ++ l from fun a l => by simp]
      rcases List.mem_cons.1 hp' with rfl | hp'
      · exact Why.mono (.inl ⟨_, List.mem_append_right _ (List.mem_singleton.2 rfl)⟩) _
      · refine why_run r h4 (hr.tail (by rw [count_device, h2])) ?_ (fun a ha => h0 a (List.mem_cons_of_mem _ ha)) p' hp' hq
        intro q hq' a ha
        rcases List.mem_append.1 hq' with hq' | hq'
        · exact hb q hq' a (List.mem_cons_of_mem _ ha)
        · obtain rfl : q = _ := by simpa using hq'
          exact hpr a ha
    · have e : x.look p = (x.arrive p, false) := by simp [Plr.look, ht]
      rw [e]
      simp only [Bool.false_eq_true, if_false]
      rcases List.mem_cons.1 hp' with rfl | hp'
      · refine Why.mono ?_ _
        have h00 := h0 p' List.mem_cons_self
        simp only [Plr.takes, hq, Bool.true_and, Bool.and_eq_true, Bool.not_eq_true', decide_eq_false_iff_not, not_and, Decidable.not_not] at ht
        by_cases hs : p'.second < (x.arrive p').stop
        · rcases h1.src with e0 | ⟨q, hq1, hq2, hq3⟩
          · omega
          · exact .inr (.inl ⟨q, hq1, by omega, by omega, hb q hq1 p' List.mem_cons_self⟩)
        · have h5 := ht hs
          rw [h1.loops] at h5
          refine .inr (.inr ?_)
          have hle : cnt H (x.arrive p').device (x.arrive p').session p'.recording ≤ H.countP fun q => q.2.device == p'.device && q.2.recording == p'.recording && !before p' q.1 := by
            unfold cnt
            refine List.countP_mono_left ?_
            intro q hq' hqq
            simp only [Bool.and_eq_true, beq_iff_eq] at hqq ⊢
            rw [hb q hq' p' List.mem_cons_self]
            exact ⟨⟨by rw [← h2]; exact hqq.1.1, hqq.2⟩, rfl⟩
          omega
      · exact why_run r h1 (hr.tail h2) (fun q hq' a ha => hb q hq' a (List.mem_cons_of_mem _ ha)) (fun a ha => h0 a (List.mem_cons_of_mem _ ha)) p' hp' hq

/-! ### Devices -/
theorem arrive_new {x y : Plr} {p : Fct} (hx : x.device ≠ p.device) (hy : y.device ≠ p.device) : x.arrive p = y.arrive p := by
  simp [Plr.arrive, hx, hy]
theorem look_new {x y : Plr} {p : Fct} (hx : x.device ≠ p.device) (hy : y.device ≠ p.device) : x.look p = y.look p := by
  simp [Plr.look, arrive_new hx hy]
theorem look_device (x : Plr) (p : Fct) : (x.look p).1.device = p.device := by
  have : (x.arrive p).device = p.device := by
    unfold Plr.arrive
    by_cases h : x.device = p.device <;> simp only [h, if_true, if_false] <;> split <;> simp_all [Plr.begin]
  unfold Plr.look
  by_cases ht : (x.arrive p).takes p = true <;> simp [ht, count_device, this]

/-- Devices ascend, from x's on. -/
def Up (x : Plr) (l : List Fct) : Prop := l.Pairwise (fun a b => a.device ≤ b.device) ∧ ∀ p ∈ l, x.device ≤ p.device
theorem Up.tail {x : Plr} {p : Fct} {r : List Fct} (h : Up x (p :: r)) {y : Plr} (hy : y.device = p.device) : Up y r := by
  obtain ⟨h1, _⟩ := h
  rw [List.pairwise_cons] at h1
  exact ⟨h1.2, fun q hq => by rw [hy]; exact h1.1 q hq⟩
theorem Ready.up {x : Plr} {l : List Fct} (h : Ready x l) : Up x l := by
  refine ⟨h.1.imp ?_, fun p hp => (h.2 p hp).1⟩
  intro a b hab
  simp [before] at hab
  omega

theorem run_devices : ∀ (l : List Fct) (x : Plr), ∀ q ∈ run x l, q.1 ∈ l := by
  intro l x q hq
  exact (run_sublist l x).subset (List.mem_map_of_mem hq)

theorem run_only (d : Int) : ∀ (l : List Fct) (x x' : Plr), Up x l → (x.device = d → x = x') → (x.device ≠ d → x'.device ≠ d) →
    (run x l).filter (fun q => q.1.device == d) = run x' (l.filter fun p => p.device == d)
  | [], _, _, _, _, _ => rfl
  | p :: r, x, x', hu, h1, h2 => by
    by_cases hp : p.device = d
    · have e : x.look p = x'.look p := by
        by_cases hx : x.device = d
        · rw [h1 hx]
        · exact look_new (by omega) (by have := h2 hx; omega)
      rw [List.filter_cons_of_pos (by simp [hp]), run_cons, run_cons, ← e]
      have ih := run_only d r (x.look p).1 (x.look p).1 (hu.tail (look_device x p)) (fun _ => rfl) (fun h => h)
      split
      · rw [List.filter_cons_of_pos (by simp [hp]), ih]
      · exact ih
    · rw [List.filter_cons_of_neg (by simp [hp]), run_cons]
      have hd := look_device x p
      have goal : (run (x.look p).1 r).filter (fun q => q.1.device == d) = run x' (r.filter fun p => p.device == d) := by
        by_cases hx : x.device = d
        · have hgt : ∀ a ∈ r, a.device ≠ d := by
            intro a ha
            have a1 := hu.2 p List.mem_cons_self
            have a2 := hu.1
            rw [List.pairwise_cons] at a2
            have := a2.1 a ha
            omega
          have e1 : r.filter (fun p => p.device == d) = [] := by
            rw [List.filter_eq_nil_iff]; intro a ha; simpa using hgt a ha
          rw [e1]
          show _ = []
          rw [List.filter_eq_nil_iff]
          intro q hq
          simpa using hgt q.1 (run_devices _ _ q hq)
        · exact run_only d r _ x' (hu.tail hd) (fun h => absurd h (by rw [hd]; exact hp)) (fun _ => h2 hx)
      split
      · rw [List.filter_cons_of_neg (by simp [hp])]; exact goal
      · exact goal

theorem run_others (d : Int) : ∀ (l : List Fct) (x x' : Plr), Up x l → (x.device ≠ d → x = x') → (x.device = d → x'.device < d) →
    (run x l).filter (fun q => !(q.1.device == d)) = run x' (l.filter fun p => !(p.device == d))
  | [], _, _, _, _, _ => rfl
  | p :: r, x, x', hu, h1, h2 => by
    have hxp := hu.2 p List.mem_cons_self
    by_cases hp : p.device = d
    · rw [List.filter_cons_of_neg (by simp [hp]), run_cons]
      have hd := look_device x p
      have ih := run_others d r (x.look p).1 x' (hu.tail hd) (fun h => absurd (hd.trans hp) h) (fun _ => by
        by_cases hx : x.device = d
        · exact h2 hx
        · rw [← h1 hx]; omega)
      split
      · rw [List.filter_cons_of_neg (by simp [hp])]; exact ih
      · exact ih
    · have e : x.look p = x'.look p := by
        by_cases hx : x.device = d
        · have := h2 hx; exact look_new (by omega) (by omega)
        · rw [h1 hx]
      rw [List.filter_cons_of_pos (by simp [hp]), run_cons, run_cons, ← e]
      have hd := look_device x p
      have ih := run_others d r (x.look p).1 (x.look p).1 (hu.tail hd) (fun _ => rfl) (fun h => absurd (hd.symm.trans h) hp)
      split
      · rw [List.filter_cons_of_pos (by simp [hp]), ih]
      · exact ih

/-! ### A further play -/
def after (x : Plr) (l : List Fct) : Plr := l.foldl (fun y p => (y.look p).1) x
theorem run_append : ∀ (A B : List Fct) (x : Plr), run x (A ++ B) = run x A ++ run (after x A) B
  | [], _, _ => rfl
  | p :: A, B, x => by
    rw [List.cons_append, run_cons, run_cons, run_append A B]
    split <;> simp [after]
theorem after_device : ∀ (A : List Fct) (x : Plr), (after x A).device = x.device ∨ ∃ a ∈ A, (after x A).device = a.device
  | [], _ => .inl rfl
  | p :: A, x => by
    rcases after_device A (x.look p).1 with h | ⟨a, ha, h⟩
    · exact .inr ⟨p, List.mem_cons_self, by rw [show after x (p :: A) = after (x.look p).1 A from rfl, h, look_device]⟩
    · exact .inr ⟨a, List.mem_cons_of_mem _ ha, h⟩

theorem ins_split (f : Fct) : ∀ (L : List Fct), Sorted before L → ∃ A B, L = A ++ B ∧ ins before f L = A ++ f :: B ∧ (∀ b ∈ B, before f b = true) ∧ (∀ a ∈ A, before f a = false)
  | [], _ => ⟨[], [], rfl, rfl, by simp, by simp⟩
  | y :: r, hs => by
    unfold Sorted at hs
    rw [List.pairwise_cons] at hs
    rw [ins_cons]
    by_cases hy : before f y = true
    · refine ⟨[], y :: r, rfl, by rw [if_pos hy]; rfl, ?_, by simp⟩
      intro b hb
      rcases List.mem_cons.1 hb with rfl | hb
      · exact hy
      · cases hfb : before f b with
        | true => rfl
        | false => have := before_swo.ntrans f b y hfb (hs.1 b hb); rw [hy] at this; cases this
    · obtain ⟨A, B, e1, e2, h1, h2⟩ := ins_split f r hs.2
      refine ⟨y :: A, B, by rw [e1]; rfl, by rw [if_neg hy, e2]; rfl, h1, ?_⟩
      intro a ha
      rcases List.mem_cons.1 ha with rfl | ha
      · simpa using hy
      · exact h2 a ha

theorem Up.right {x : Plr} {A B : List Fct} (h : Up x (A ++ B)) : Up (after x A) B := by
  obtain ⟨h1, h2⟩ := h
  rw [List.pairwise_append] at h1
  refine ⟨h1.2.1, fun p hp => ?_⟩
  rcases after_device A x with e | ⟨a, ha, e⟩
  · rw [e]; exact h2 p (List.mem_append_right _ hp)
  · rw [e]; exact h1.2.2 a ha p hp

/-- Ahead of the further play, or of another device. -/
def keeps (f : Fct) (q : Fct × Strm) : Bool := !(q.1.device == f.device) || (decide (q.1.second < f.second) || (q.1.second == f.second && decide (q.1.id < f.id)))

theorem run_late (f : Fct) (A B : List Fct) (x : Plr) (hu : Up x (A ++ f :: B)) (hB : ∀ b ∈ B, before f b = true) :
    (run x (A ++ f :: B)).filter (keeps f) = (run x (A ++ B)).filter (keeps f) := by
  rw [run_append, run_append, List.filter_append, List.filter_append]
  congr 1
  have hu1 := hu.right
  generalize after x A = y at hu1 ⊢
  have hyd : y.device ≤ f.device := hu1.2 f List.mem_cons_self
  have hd := look_device y f
  have hself : ∀ s, keeps f (f, s) = false := fun s => by simp [keeps]
  have hstep : (run y (f :: B)).filter (keeps f) = (run (y.look f).1 B).filter (keeps f) := by
    rw [run_cons]
    split
    · rw [List.filter_cons_of_neg (by simp [hself])]
    · rfl
  rw [hstep]
  have huB : Up (y.look f).1 B := hu1.tail hd
  have huB' : Up y B := ⟨huB.1, fun p hp => by have := huB.2 p hp; rw [hd] at this; omega⟩
  have hsame : ∀ (z : Plr), (run z B).filter (keeps f) = (run z B).filter (fun q => !(q.1.device == f.device)) := by
    intro z
    refine List.filter_congr ?_
    intro q hq
    have hb := hB q.1 (run_devices _ _ q hq)
    simp only [before, Bool.or_eq_true, Bool.and_eq_true, decide_eq_true_eq, beq_iff_eq] at hb
    by_cases e : q.1.device = f.device
    · have h1 : decide (q.1.second < f.second) = false := by simp; omega
      have h2 : (q.1.second == f.second && decide (q.1.id < f.id)) = false := by simp; omega
      simp [keeps, e, h1, h2]
    · simp [keeps, e]
  rw [hsame, hsame]
  by_cases hy : y.device = f.device
  · have a := run_others f.device B (y.look f).1 { y with device := f.device - 1 } huB (fun h => absurd hd h) (fun _ => by simp; omega)
    have b := run_others f.device B y { y with device := f.device - 1 } huB' (fun h => absurd hy h) (fun _ => by simp; omega)
    rw [a, b]
  · have a := run_others f.device B (y.look f).1 y huB (fun h => absurd hd h) (fun _ => by omega)
    have b := run_others f.device B y y huB' (fun _ => rfl) (fun h => absurd h hy)
    rw [a, b]

end Go.Proofs.YtmndhiaaolfepaaDoor
