/- Plain Lean: facts, streams, what a session is; no program. -/
import Derived.Test.YtmndhiaaolfepaaDoorSort
namespace Go.Proofs.YtmndhiaaolfepaaDoor
set_option linter.all false
open Srt

/-- A fact, field by field. -/
structure Fct where
  kind : Int
  id : Int
  version : Int
  period : Int
  second : Int
  account : Int
  device : Int
  recording : Int
  territory : Int
  holder : Int
  role : Int
  since : Int
  till : Int
  amount : Int
  share : Int
  currency : Int
  mark : Int
  text : ByteArray

/-- A stream, field by field. -/
structure Strm where
  device : Int
  id : Int
  account : Int
  recording : Int
  territory : Int
  second : Int
  period : Int
  session : Int
  mark : Int
  deriving DecidableEq

def within (n a b : Int) : Bool := decide (a ≤ n) && decide (n ≤ b)

/-- A valid play. -/
def Fct.valid (f : Fct) : Bool :=
  f.kind == 1 && within f.version 1 1000 && within f.id 1 1000000 && within f.account 1 1000000 && within f.device 1 1000000 && within f.recording 1 1000000 &&
  within f.territory 0 7 && within f.second 0 3155759999 && within f.amount 0 86400000 && within f.mark 0 1 &&
  f.period == 0 && f.holder == 0 && f.role == 0 && f.since == 0 && f.till == 0 && f.share == 0 && f.currency == 0 && f.text.data.toList.isEmpty

/-- It may count. -/
def Fct.qual (f : Fct) : Bool := decide (30000 ≤ f.amount) && f.mark == 0
def Fct.counts (f : Fct) : Bool := f.valid && f.qual
def Fct.stop (f : Fct) : Int := f.second + (f.amount + 999) / 1000

/-- The order of plays. -/
def before (a b : Fct) : Bool :=
  decide (a.device < b.device) || (a.device == b.device && (decide (a.second < b.second) || (a.second == b.second && decide (a.id < b.id))))

theorem before_swo : SWO before := by
  refine ⟨fun a => ?_, fun a b c h1 h2 => ?_, fun a b c h1 h2 => ?_⟩
  · simp [before]
  · simp only [before, Bool.or_eq_true, Bool.and_eq_true, decide_eq_true_eq, beq_iff_eq] at *; omega
  · simp only [before, Bool.or_eq_false_iff, Bool.and_eq_false_iff, decide_eq_false_iff_not, beq_eq_false_iff_ne] at *; omega

/-- The plays of a list in order. -/
def ordered (l : List Fct) : List Fct := isort before (l.filter Fct.valid)

/-- What is known of a device while its plays are looked at; 'loops': how often a recording has counted in the session. -/
structure Plr where
  device : Int
  last : Int
  stop : Int
  session : Int
  loops : Int → Int

def Plr.start : Plr := ⟨0, 0, 0, 0, fun _ => 0⟩
def Plr.begin (x : Plr) : Plr := { x with session := x.session + 1, loops := fun _ => 0 }
/-- Where a play finds the device: in its session. -/
def Plr.arrive (x : Plr) (p : Fct) : Plr :=
  let x := if x.device = p.device then x else { device := p.device, last := p.second, stop := 0, session := 1, loops := fun _ => 0 }
  let x := if 1800 < p.second - x.last then x.begin else x
  { x with last := p.second }
/-- Does it count? -/
def Plr.takes (x : Plr) (p : Fct) : Bool := p.qual && !decide (p.second < x.stop) && !decide (5 ≤ x.loops p.recording)
def Plr.count (x : Plr) (p : Fct) : Plr := { x with stop := p.stop, loops := fun r => if r = p.recording then x.loops r + 1 else x.loops r }
def Plr.look (x : Plr) (p : Fct) : Plr × Bool :=
  let y := x.arrive p
  if y.takes p then (y.count p, true) else (y, false)

/-- The days of a period, and the period of a second. -/
def days (p : Int) : Int :=
  if p < 0 ∨ 1200 ≤ p then 0
  else if p % 48 = 1 then 29
  else match (p % 12).toNat with
    | 0 => 31 | 1 => 28 | 2 => 31 | 3 => 30 | 4 => 31 | 5 => 30 | 6 => 31 | 7 => 31 | 8 => 30 | 9 => 31 | 10 => 30 | _ => 31
def stepMonths : Nat → Int → Int → Int × Int
  | 0, n, p => (n, p)
  | k + 1, n, p => if n < days p then (n, p) else stepMonths k (n - days p) (p + 1)
def periodOf (second : Int) : Int :=
  if second < 0 ∨ 3155760000 ≤ second then 0 else (stepMonths 48 (second / 86400 % 1461) (second / 86400 / 1461 * 48)).2

def strm (x : Plr) (p : Fct) : Strm :=
  { device := p.device, id := p.id, account := p.account, recording := p.recording, territory := p.territory, second := p.second, period := periodOf p.second, session := x.session, mark := 1 }

/-- The streams of plays in order. -/
def counted (x : Plr) : List Fct → List Strm
  | [] => []
  | p :: r => if (x.look p).2 then strm (x.look p).1 p :: counted (x.look p).1 r else counted (x.look p).1 r
def streams (l : List Fct) : List Strm := counted .start (ordered l)

end Go.Proofs.YtmndhiaaolfepaaDoor
