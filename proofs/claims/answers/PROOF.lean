import PyProof.Rows.All
import PyKm354
import Wide.All
import OpenK.AllK
import Wide.FinOn
import PyProof.EqAt
import PyProof.EqKinds
import PyProof.TupleCall
import Open.SpecLaws
import KE.OsGo
import HandS.ForSpec
import HandS.Comp
import HandS.Evl
import HandS.NoneIn
import HandS.Iter
import PySem.Challenge.RW_flightbook_s01_answers
set_option Elab.async false
set_option linter.all false
set_option maxRecDepth 100000
set_option maxHeartbeats 4200000
/-! The mirror of the program over plain lists, and that it is the specification. No program in sight. -/
namespace FB
/-! ### dates -/
def yearOf (d : Nat) : Nat := d % 4096
def monthOf (d : Nat) : Nat := d / 4096 % 16
def dayOf (d : Nat) : Nat := d / 65536
def isLeap (y : Nat) : Bool := decide (y % 4 = 0) && (!decide (y % 100 = 0) || decide (y % 400 = 0))
def MONTHS : List Nat := [31, 28, 31, 30, 31, 30, 31, 31, 30, 31, 30, 31]
def lengthOf (y m : Nat) : Nat := MONTHS.getD (m - 1) 0 + (if (decide (m = 2) && isLeap y) = true then 1 else 0)
def isDate (d : Nat) : Bool :=
  if yearOf d < 1900 ∨ 2199 < yearOf d ∨ monthOf d < 1 ∨ 12 < monthOf d then false
  else decide (1 ≤ dayOf d) && decide (dayOf d ≤ lengthOf (yearOf d) (monthOf d))
def leapsBefore (y : Nat) : Nat := (y - 1) / 4 - (y - 1) / 100 + (y - 1) / 400
/-- the days of so many months -/
def monthsSum (y : Nat) : Nat → Nat
  | 0 => 0
  | k + 1 => monthsSum y k + lengthOf y (k + 1)
def numberOf (d : Nat) : Nat := 365 * yearOf d + leapsBefore (yearOf d) + dayOf d + monthsSum (yearOf d) (monthOf d - 1)
/-! ### the book -/
structure MKind where
  minutes : List Nat
  landings : List Nat
  days : List Nat
structure MPart where
  kind : Nat
  plane : Nat
  minutes : Nat
  landings : Nat
  ms : List Nat
  ls : List Nat
  dn : List Nat
structure MPlane where
  flown : List Nat
  go : Nat
structure M where
  kinds : List MKind
  parts : List MPart
  planes : List MPlane
  last : Nat
def MKind.zero : MKind := ⟨[], [], []⟩
def MPart.zero : MPart := ⟨0, 255, 0, 0, [], [], []⟩
def MPlane.zero : MPlane := ⟨[], 0⟩
def M.kind (m : M) (i : Nat) : MKind := m.kinds.getD i MKind.zero
def M.part (m : M) (i : Nat) : MPart := m.parts.getD i MPart.zero
def M.plane (m : M) (i : Nat) : MPlane := m.planes.getD i MPlane.zero
def M.new (kinds : List MKind) : M := ⟨kinds, [], List.replicate 16 MPlane.zero, 0⟩
def M.partsIn (m : M) (a : Nat) : List Nat := (List.range m.parts.length).filter fun i => decide ((m.part i).plane = a)
def isPast (l c : Int) : Bool := decide (0 < l) && decide (l < c)
def whatBars (k : MKind) (p : MPart) (t : Nat) (day minutes : Nat) : Option Nat :=
  if isPast (k.minutes.getD t 0 : Nat) ((p.ms.getD t 0 : Nat) + (minutes : Nat)) = true then some 0
  else if isPast (k.landings.getD t 0 : Nat) ((p.ls.getD t 0 : Nat) + 1) = true then some 1
  else if isPast (k.days.getD t 0 : Nat) ((day : Nat) - (p.dn.getD t 0 : Nat)) = true then some 2
  else none
def barOf (m : M) (i : Nat) (day minutes : Nat) : Option (List Nat) :=
  (List.range 4).findSome? fun t => (whatBars (m.kind (m.part i).kind) (m.part i) t day minutes).map fun w => [i, t, w]
def firstBar (m : M) (a date minutes : Nat) : Option (List Nat) := (m.partsIn a).findSome? fun i => barOf m i (numberOf date) minutes
def leastLeft (l c w : Int) : Int := if l = 0 then w else min w (max 0 (l - c))
def leftTask (k : MKind) (p : MPart) (day : Nat) (s : Int × Int × Int) (t : Nat) : Int × Int × Int :=
  (leastLeft (k.minutes.getD t 0 : Nat) (p.ms.getD t 0 : Nat) s.1, leastLeft (k.landings.getD t 0 : Nat) (p.ls.getD t 0 : Nat) s.2.1, leastLeft (k.days.getD t 0 : Nat) ((day : Nat) - (p.dn.getD t 0 : Nat)) s.2.2)
def leftPart (m : M) (day : Nat) (s : Int × Int × Int) (i : Nat) : Int × Int × Int :=
  (List.range 4).foldl (leftTask (m.kind (m.part i).kind) (m.part i) day) s
def leftIn (m : M) (a date : Nat) : Int × Int × Int := (m.partsIn a).foldl (leftPart m (numberOf date)) (4294967295, 4294967295, 4294967295)
def MPart.flies (p : MPart) (n : Nat) : MPart := { p with minutes := p.minutes + n, landings := p.landings + 1, ms := p.ms.map (· + n), ls := p.ls.map (· + 1) }
def MPart.did (p : MPart) (t day : Nat) : MPart := { p with ms := p.ms.set t 0, ls := p.ls.set t 0, dn := p.dn.set t day }
def MPart.new (kind day : Nat) : MPart := ⟨kind, 255, 0, 0, [0, 0, 0, 0], [0, 0, 0, 0], [day, day, day, day]⟩
def M.setPart (m : M) (i : Nat) (p : MPart) : M := { m with parts := m.parts.set i p }
def M.setPlane (m : M) (a : Nat) (p : MPlane) : M := { m with planes := m.planes.set a p }
def M.away (m : M) (a : Nat) : Bool := decide (0 < (m.plane a).go)
/-- the flight counts for these parts -/
def M.fliesAll (m : M) (n : Nat) (l : List Nat) : M := l.foldl (fun m i => m.setPart i ((m.part i).flies n)) m
/-! ### the deeds: a refusal's number, or the book behind it and what is answered -/
abbrev Deed := Except Int (M × List Int)
def doPart (m : M) (k d : Nat) : Deed :=
  if (decide (k < m.kinds.length) && isDate d) = false then .error (-22) else
  if numberOf d < m.last then .error (-13) else
  if ¬ m.parts.length < 256 then .error (-28) else
  .ok ({ m with parts := m.parts ++ [MPart.new k (numberOf d)], last := numberOf d }, [(m.parts.length : Int)])
def doPut (m : M) (i a f : Nat) : Deed :=
  if ¬ a < 16 then .error (-22) else
  if ¬ i < m.parts.length then .error (-2) else
  if (decide ((m.part i).plane = 255) && !m.away a) = false then .error (-16) else
  if f ≠ (m.plane a).flown.length then .error (-71) else
  if ¬ (m.partsIn a).length < 32 then .error (-28) else
  .ok (m.setPart i { m.part i with plane := a }, [0])
def doTake (m : M) (i f : Nat) : Deed :=
  if ¬ i < m.parts.length then .error (-2) else
  if (m.part i).plane = 255 then .error (-11) else
  if m.away (m.part i).plane = true then .error (-16) else
  if f ≠ (m.plane (m.part i).plane).flown.length then .error (-71) else
  .ok (m.setPart i { m.part i with plane := 255 }, [0])
def doDid (m : M) (i t d : Nat) : Deed :=
  if ¬ t < 4 then .error (-22) else
  if ¬ i < m.parts.length then .error (-2) else
  if isDate d = false then .error (-22) else
  if numberOf d < m.last then .error (-13) else
  if (decide ((m.part i).plane = 255) || !m.away (m.part i).plane) = false then .error (-16) else
  .ok ({ m.setPart i ((m.part i).did t (numberOf d)) with last := numberOf d }, [0])
def okFlight (a d n : Nat) : Bool := decide (a < 16) && ((decide (1 ≤ n) && decide (n ≤ 1440)) && isDate d)
def doGo (m : M) (a d n : Nat) : Deed :=
  if okFlight a d n = false then .error (-22) else
  if numberOf d < m.last then .error (-13) else
  if m.away a = true then .error (-16) else
  if (firstBar m a d n).isSome = true then .error (-33) else
  .ok ({ m.setPlane a { m.plane a with go := n } with last := numberOf d }, [(((m.plane a).flown.length % 2147483648 : Nat) : Int)])
def doBars (m : M) (a d n : Nat) : Deed :=
  if okFlight a d n = false then .error (-22) else
  if numberOf d < m.last then .error (-13) else
  match firstBar m a d n with
  | none => .error (-2)
  | some l => .ok (m, 0 :: l.map fun (x : Nat) => (x : Int))
def toldAgain (p : MPlane) (k n : Nat) : Int := if p.flown.getD k 0 = n ∨ 64 ≤ (p.flown.length : Int) - 1 - k then 0 else -17
def doFlew (m : M) (a k n : Nat) : Deed :=
  if (decide (a < 16) && (decide (1 ≤ n) && decide (n ≤ 65535))) = false then .error (-22) else
  if k < (m.plane a).flown.length then .ok (m, [toldAgain (m.plane a) k n]) else
  if (m.away a && decide (k = (m.plane a).flown.length)) = false then .error (-2) else
  .ok ((m.fliesAll n (m.partsIn a)).setPlane a ⟨(m.plane a).flown ++ [n], 0⟩, [if (m.plane a).go < n then 2 else 1])
def doLeft (m : M) (a d : Nat) : Deed :=
  if (decide (a < 16) && isDate d) = false then .error (-22) else
  if numberOf d < m.last then .error (-13) else
  .ok (m, [((m.partsIn a).length : Int), (leftIn m a d).1, (leftIn m a d).2.1, (leftIn m a d).2.2])
def doOf (m : M) (i : Nat) : Deed :=
  if ¬ i < m.parts.length then .error (-2) else
  .ok (m, [0, ((m.part i).kind : Int), ((m.part i).plane : Int), ((m.part i).minutes : Int), ((m.part i).landings : Int)])
/-- the deed of a call's number -/
def deed (m : M) : Nat → List Nat → Option Deed
  | 1, [x, y] => some (doPart m x y)
  | 2, [x, y, z] => some (doPut m x y z)
  | 3, [x, y] => some (doTake m x y)
  | 4, [x, y, z] => some (doDid m x y z)
  | 5, [x, y, z] => some (doGo m x y z)
  | 6, [x, y, z] => some (doBars m x y z)
  | 7, [x, y, z] => some (doFlew m x y z)
  | 8, [x, y] => some (doLeft m x y)
  | 9, [x] => some (doOf m x)
  | _, _ => none
end FB
/-! The mirror is the specification: dates, then each deed against Km354.act. -/
namespace FB
def BASE : Nat := 693961
/-! ### dates -/
theorem leap_is (y : Nat) : isLeap y = Km354.leap y := by
  unfold isLeap Km354.leap
  rw [Bool.eq_iff_iff]
  simp
theorem length_is (y m : Nat) (h1 : 1 ≤ m) (h2 : m ≤ 12) : lengthOf y m = Km354.monthDays y m := by
  unfold lengthOf Km354.monthDays
  rw [leap_is]
  have : m = 1 ∨ m = 2 ∨ m = 3 ∨ m = 4 ∨ m = 5 ∨ m = 6 ∨ m = 7 ∨ m = 8 ∨ m = 9 ∨ m = 10 ∨ m = 11 ∨ m = 12 := by omega
  rcases this with e | e | e | e | e | e | e | e | e | e | e | e <;> subst e <;> simp [MONTHS]
  cases Km354.leap y <;> simp
theorem leaps_succ (y : Nat) (h : 1 ≤ y) : leapsBefore (y + 1) = leapsBefore y + (if Km354.leap y = true then 1 else 0) := by
  rw [← leap_is]
  unfold leapsBefore isLeap
  have e : (decide (y % 4 = 0) && (!decide (y % 100 = 0) || decide (y % 400 = 0))) = true ↔ (y % 4 = 0 ∧ (¬ y % 100 = 0 ∨ y % 400 = 0)) := by simp
  by_cases c : y % 4 = 0 ∧ (¬ y % 100 = 0 ∨ y % 400 = 0)
  · rw [if_pos (e.mpr c)]
    omega
  · rw [if_neg (fun z => c (e.mp z))]
    omega
theorem foldl_add (l : List Nat) : ∀ a : Nat, l.foldl (· + ·) a = a + l.foldl (· + ·) 0 := by
  induction l with
  | nil => intro a; simp
  | cons x l ih => intro a; rw [List.foldl_cons, List.foldl_cons, ih, ih (0 + x)]; omega
theorem years_is (n : Nat) : ((List.range n).map fun i => if Km354.leap (1900 + i) = true then 366 else 365).foldl (· + ·) 0 + 365 * 1900 + 460 = 365 * (1900 + n) + leapsBefore (1900 + n) := by
  induction n with
  | zero => decide
  | succ n ih =>
    rw [List.range_succ, List.map_append, List.foldl_append]
    have s := leaps_succ (1900 + n) (by omega)
    have e : 1900 + (n + 1) = 1900 + n + 1 := by omega
    rw [e, s]
    simp only [List.map_cons, List.map_nil, List.foldl_cons, List.foldl_nil]
    by_cases c : Km354.leap (1900 + n) = true
    · rw [if_pos c, if_pos c]; omega
    · rw [if_neg c, if_neg c]; omega
theorem months_is (y : Nat) (n : Nat) (h : n ≤ 12) : ((List.range n).map fun i => Km354.monthDays y (i + 1)).foldl (· + ·) 0 = monthsSum y n := by
  induction n with
  | zero => rfl
  | succ n ih =>
    rw [List.range_succ, List.map_append, List.foldl_append, ih (by omega)]
    show monthsSum y n + Km354.monthDays y (n + 1) = monthsSum y n + lengthOf y (n + 1)
    rw [length_is y (n + 1) (by omega) h]
theorem date_none {n : Nat} (h : isDate n = false) : Km354.dateOf n = none := by
  unfold Km354.dateOf
  unfold isDate at h
  by_cases c : yearOf n < 1900 ∨ 2199 < yearOf n ∨ monthOf n < 1 ∨ 12 < monthOf n
  · apply if_neg
    intro z
    unfold yearOf monthOf at c
    simp only at z
    omega
  · rw [if_neg c] at h
    apply if_neg
    intro z
    simp only at z
    have hl := length_is (yearOf n) (monthOf n) (by omega) (by omega)
    unfold yearOf monthOf at hl
    have : (decide (1 ≤ dayOf n) && decide (dayOf n ≤ lengthOf (yearOf n) (monthOf n))) = true := by
      unfold dayOf yearOf monthOf
      rw [hl]
      simp only [decide_eq_true_eq, Bool.and_eq_true]; omega
    rw [this] at h
    cases h
theorem isDate_parts {n : Nat} (h : isDate n = true) : 1900 ≤ yearOf n ∧ yearOf n < 2200 ∧ 1 ≤ monthOf n ∧ monthOf n ≤ 12 ∧ 1 ≤ dayOf n ∧ dayOf n ≤ lengthOf (yearOf n) (monthOf n) := by
  unfold isDate at h
  by_cases c : yearOf n < 1900 ∨ 2199 < yearOf n ∨ monthOf n < 1 ∨ 12 < monthOf n
  · rw [if_pos c] at h; cases h
  · rw [if_neg c] at h
    simp only [decide_eq_true_eq, Bool.and_eq_true] at h; omega
theorem date_some {n : Nat} (h : isDate n = true) : ∃ d, Km354.dateOf n = some d ∧ d.number + BASE = numberOf n := by
  obtain ⟨h1, h2, h3, h4, h5, h6⟩ := isDate_parts h
  have hl := length_is (yearOf n) (monthOf n) h3 h4
  refine ⟨⟨yearOf n, monthOf n, dayOf n⟩, ?_, ?_⟩
  · unfold Km354.dateOf
    apply if_pos
    show 1900 ≤ yearOf n ∧ yearOf n < 2200 ∧ 1 ≤ monthOf n ∧ monthOf n ≤ 12 ∧ 1 ≤ dayOf n ∧ dayOf n ≤ Km354.monthDays (yearOf n) (monthOf n)
    rw [← hl]
    exact ⟨h1, h2, h3, h4, h5, h6⟩
  · unfold Km354.Date.number numberOf BASE
    have y := years_is (yearOf n - 1900)
    have m := months_is (yearOf n) (monthOf n - 1) (by omega)
    show _ + _ + (dayOf n - 1) + 693961 = _
    have e : 1900 + (yearOf n - 1900) = yearOf n := by omega
    rw [e] at y
    simp only at y m ⊢
    rw [m]
    omega
theorem base_le {n : Nat} (h : isDate n = true) : BASE ≤ numberOf n := by
  obtain ⟨d, _, e⟩ := date_some h
  omega
/-! ### what the mirror stands for -/
def kindA (k : MKind) : Km354.Kind := ⟨k.minutes, k.landings, k.days⟩
def sinceA (p : MPart) : List Km354.Since := (List.range 4).map fun t => ⟨p.ms.getD t 0, p.ls.getD t 0, p.dn.getD t 0 - BASE⟩
def onA (a : Nat) : Option Nat := if a = 255 then none else some a
def partA (p : MPart) : Km354.Part := ⟨p.kind, onA p.plane, p.minutes, p.landings, sinceA p⟩
def planeA (p : MPlane) : Km354.Plane := ⟨p.flown.length, if p.go = 0 then none else some p.go, p.flown.reverse.take 64⟩
def abs (m : M) : Km354.Book := ⟨m.kinds.map kindA, m.parts.map partA, m.planes.map planeA, m.last - BASE⟩
structure GoodKind (k : MKind) : Prop where
  lm : k.minutes.length = 4
  ll : k.landings.length = 4
  ld : k.days.length = 4
  bm : ∀ x ∈ k.minutes, x ≤ 4294967295
  bl : ∀ x ∈ k.landings, x ≤ 4294967295
  bd : ∀ x ∈ k.days, x ≤ 4294967295
structure GoodPart (n last : Nat) (p : MPart) : Prop where
  kind : p.kind < n
  plane : p.plane = 255 ∨ p.plane < 16
  lm : p.ms.length = 4
  ll : p.ls.length = 4
  ld : p.dn.length = 4
  lo : ∀ x ∈ p.dn, BASE ≤ x
  hi : ∀ x ∈ p.dn, x ≤ last
structure Good (c : Nat) (m : M) : Prop where
  kinds : ∀ k ∈ m.kinds, GoodKind k
  kn : m.kinds.length ≤ 16
  parts : ∀ p ∈ m.parts, GoodPart m.kinds.length m.last p
  pn : m.parts.length ≤ 256
  planes : m.planes.length = 16
  flown : ∀ p ∈ m.planes, p.flown.length ≤ c
theorem Good.mono {c c' : Nat} {m : M} (g : Good c m) (h : c ≤ c') : Good c' m := ⟨g.kinds, g.kn, g.parts, g.pn, g.planes, fun p hp => Nat.le_trans (g.flown p hp) h⟩
def told (a : Km354.Ans) : List Int := Km354Neutral.told a
def Sim (c : Nat) (m : M) (r : Deed) (y : Km354.Book × Km354.Ans) : Prop := match r with
  | .error e => y = (abs m, Km354.only e)
  | .ok (m', out) => y.1 = abs m' ∧ told y.2 = out ∧ Good (c + 1) m'
section
variable {c : Nat} {m : M}
/-! ### reading -/
theorem kinds_len : (abs m).kinds.length = m.kinds.length := by unfold abs; simp
theorem parts_len : (abs m).parts.length = m.parts.length := by unfold abs; simp
theorem part_some {i : Nat} (h : i < m.parts.length) : m.parts[i]? = some (m.part i) := by
  unfold M.part
  rw [List.getD_eq_getElem?_getD, List.getElem?_eq_getElem h]
  rfl
theorem part_mem {i : Nat} (h : i < m.parts.length) : m.part i ∈ m.parts := List.mem_of_getElem? (part_some h)
theorem absPart_some {i : Nat} (h : i < m.parts.length) : (abs m).parts[i]? = some (partA (m.part i)) := by
  show (m.parts.map partA)[i]? = _
  rw [List.getElem?_map, part_some h]
  rfl
theorem absPart_none {i : Nat} (h : ¬ i < m.parts.length) : (abs m).parts[i]? = none := by
  apply List.getElem?_eq_none
  rw [parts_len]
  omega
theorem plane_some (g : Good c m) {a : Nat} (h : a < 16) : m.planes[a]? = some (m.plane a) := by
  unfold M.plane
  have h' : a < m.planes.length := by rw [g.planes]; exact h
  rw [List.getD_eq_getElem?_getD, List.getElem?_eq_getElem h']
  rfl
theorem plane_mem (g : Good c m) {a : Nat} (h : a < 16) : m.plane a ∈ m.planes := List.mem_of_getElem? (plane_some g h)
theorem absPlane (g : Good c m) {a : Nat} (h : a < 16) : (abs m).plane a = planeA (m.plane a) := by
  unfold Km354.Book.plane
  show (m.planes.map planeA).getD a _ = _
  rw [List.getD_eq_getElem?_getD, List.getElem?_map, plane_some g h]
  rfl
theorem away_is (g : Good c m) {a : Nat} (h : a < 16) : ((abs m).plane a).away.isSome = m.away a := by
  rw [absPlane g h]
  unfold planeA M.away
  by_cases z : (m.plane a).go = 0
  · simp [z]
  · simp [z, Nat.pos_of_ne_zero z]
theorem flown_is (g : Good c m) {a : Nat} (h : a < 16) : ((abs m).plane a).flown = (m.plane a).flown.length := by
  rw [absPlane g h]
  rfl
theorem day_none {d : Nat} (h : isDate d = false) : (abs m).day d = .inl (-22) := by
  unfold Km354.Book.day
  rw [date_none h]
theorem day_before {d : Nat} (h : isDate d = true) (b : numberOf d < m.last) : (abs m).day d = .inl (-13) := by
  obtain ⟨x, e, n⟩ := date_some h
  unfold Km354.Book.day
  rw [e]
  show (if x.number < m.last - BASE then _ else _) = _
  rw [if_pos (by omega)]
theorem day_ok {d : Nat} (h : isDate d = true) (b : ¬ numberOf d < m.last) : (abs m).day d = .inr (numberOf d - BASE) := by
  obtain ⟨x, e, n⟩ := date_some h
  unfold Km354.Book.day
  rw [e]
  show (if x.number < m.last - BASE then _ else _) = _
  rw [if_neg (by omega)]
  have : x.number = numberOf d - BASE := by omega
  rw [this]
theorem on_eq {a b : Nat} (hb : b < 16) : (onA a = some b) ↔ a = b := by
  unfold onA
  by_cases z : a = 255
  · rw [if_pos z]
    constructor
    · intro h; cases h
    · intro h; omega
  · rw [if_neg z]
    constructor
    · intro h; exact Option.some.inj h
    · intro h; rw [h]
end
end FB
namespace FB
section
variable {c : Nat} {m : M}
/-! ### lists -/
theorem findSome_filter {α β : Type} (p : α → Bool) (f : α → Option β) : ∀ l : List α, (l.filter p).findSome? f = l.findSome? fun x => if p x = true then f x else none
  | [] => rfl
  | x :: l => by
    cases h : p x with
    | true =>
      rw [List.filter_cons_of_pos h, List.findSome?_cons, List.findSome?_cons, findSome_filter p f l, h, if_pos rfl]
    | false =>
      rw [List.filter_cons_of_neg (by rw [h]; decide), List.findSome?_cons, findSome_filter p f l, h, if_neg (by decide)]
theorem findSome_map {α β γ : Type} (f : α → Option β) (g : β → γ) : ∀ l : List α, (l.findSome? f).map g = l.findSome? fun x => (f x).map g
  | [] => rfl
  | x :: l => by
    rw [List.findSome?_cons, List.findSome?_cons, ← findSome_map f g l]
    cases f x <;> rfl
theorem findSome_congr {α β : Type} {f g : α → Option β} : ∀ {l : List α}, (∀ x ∈ l, f x = g x) → l.findSome? f = l.findSome? g
  | [], _ => rfl
  | x :: l, h => by
    rw [List.findSome?_cons, List.findSome?_cons, h x List.mem_cons_self, findSome_congr (fun y hy => h y (List.mem_cons_of_mem _ hy))]
theorem parts_range : m.parts = (List.range m.parts.length).map m.part := by
  apply List.ext_getElem?
  intro i
  rw [List.getElem?_map]
  by_cases h : i < m.parts.length
  · rw [part_some h, List.getElem?_range h]; rfl
  · rw [List.getElem?_eq_none (by omega), List.getElem?_eq_none (by rw [List.length_range]; omega)]; rfl
theorem partsIn_lt {a i : Nat} (h : i ∈ m.partsIn a) : i < m.parts.length ∧ (m.part i).plane = a := by
  obtain ⟨h1, h2⟩ := List.mem_filter.mp h
  exact ⟨List.mem_range.mp h1, of_decide_eq_true h2⟩
theorem aboard_is (g : Good c m) {a : Nat} (h : a < 16) : (abs m).aboard a = (m.partsIn a).map fun i => partA (m.part i) := by
  unfold Km354.Book.aboard M.partsIn
  show (m.parts.map partA).filter _ = _
  rw [parts_range, List.map_map, List.filter_map, List.length_map, List.length_range]
  congr 1
  apply List.filter_congr
  intro i _
  show (onA (m.part i).plane == some a) = decide ((m.part i).plane = a)
  rw [Bool.eq_iff_iff, decide_eq_true_eq, beq_iff_eq]
  exact on_eq h
theorem aboard_len (g : Good c m) {a : Nat} (h : a < 16) : ((abs m).aboard a).length = (m.partsIn a).length := by
  rw [aboard_is g h, List.length_map]
/-! ### a part's kind, its tasks -/
theorem kind_some {i : Nat} (h : i < m.kinds.length) : m.kinds[i]? = some (m.kind i) := by
  unfold M.kind
  rw [List.getD_eq_getElem?_getD, List.getElem?_eq_getElem h]
  rfl
theorem kind_mem {i : Nat} (h : i < m.kinds.length) : m.kind i ∈ m.kinds := List.mem_of_getElem? (kind_some h)
theorem absKind (p : MPart) (h : p.kind < m.kinds.length) : (abs m).kind (partA p) = kindA (m.kind p.kind) := by
  unfold Km354.Book.kind
  show (m.kinds.map kindA).getD p.kind _ = _
  rw [List.getD_eq_getElem?_getD, List.getElem?_map, kind_some h]
  rfl
theorem since_get (p : MPart) {t : Nat} (h : t < 4) : (sinceA p).getD t ⟨0, 0, 0⟩ = ⟨p.ms.getD t 0, p.ls.getD t 0, p.dn.getD t 0 - BASE⟩ := by
  unfold sinceA
  rw [List.getD_eq_getElem?_getD, List.getElem?_map]; rw [List.getElem?_range h]; rfl
theorem getD_mem {l : List Nat} {t : Nat} (h : t < l.length) : l.getD t 0 ∈ l := by
  rw [List.getD_eq_getElem?_getD, List.getElem?_eq_getElem h]
  exact List.getElem_mem h
theorem past_iff (l s n : Nat) : (isPast (l : Nat) ((s : Nat) + (n : Nat)) = true) ↔ (0 < l ∧ l < s + n) := by
  unfold isPast
  simp only [decide_eq_true_eq, Bool.and_eq_true]; omega
theorem past1_iff (l s : Nat) : (isPast (l : Nat) ((s : Nat) + 1) = true) ↔ (0 < l ∧ l < s + 1) := by
  unfold isPast
  simp only [decide_eq_true_eq, Bool.and_eq_true]; omega
theorem past2_iff (l day dn b : Nat) (h : b ≤ dn) : (isPast (l : Nat) ((day : Nat) - (dn : Nat)) = true) ↔ (0 < l ∧ l < day - b - (dn - b)) := by
  unfold isPast
  simp only [decide_eq_true_eq, Bool.and_eq_true]; omega
theorem what_is (g : Good c m) {i : Nat} (h : i < m.parts.length) {t : Nat} (ht : t < 4) (day minutes : Nat) :
    whatBars (m.kind (m.part i).kind) (m.part i) t day minutes = Km354.past ((abs m).kind (partA (m.part i))) t ((partA (m.part i)).since.getD t ⟨0, 0, 0⟩) minutes 1 (day - BASE) := by
  have gp := g.parts _ (part_mem h)
  rw [absKind _ gp.kind]
  show _ = Km354.past _ t ((sinceA (m.part i)).getD t ⟨0, 0, 0⟩) minutes 1 (day - BASE)
  rw [since_get _ ht]
  unfold whatBars Km354.past
  have hb : BASE ≤ (m.part i).dn.getD t 0 := gp.lo _ (getD_mem (by rw [gp.ld]; exact ht))
  have e1 := past_iff ((m.kind (m.part i).kind).minutes.getD t 0) ((m.part i).ms.getD t 0) minutes
  have e2 := past1_iff ((m.kind (m.part i).kind).landings.getD t 0) ((m.part i).ls.getD t 0)
  have e3 := past2_iff ((m.kind (m.part i).kind).days.getD t 0) day ((m.part i).dn.getD t 0) BASE hb
  simp only [e1, e2, e3]
  rfl
theorem bars_is (g : Good c m) {a : Nat} (h : a < 16) (date minutes : Nat) :
    firstBar m a date minutes = ((abs m).bars a minutes (numberOf date - BASE)).map fun x => [x.1, x.2.1, x.2.2] := by
  unfold firstBar M.partsIn Km354.Book.bars
  rw [findSome_filter, findSome_map, parts_len]
  apply findSome_congr
  intro i hi
  have hi' : i < m.parts.length := List.mem_range.mp hi
  rw [absPart_some hi']
  show _ = Option.map _ (if (partA (m.part i)).on = some a then _ else none)
  by_cases z : (m.part i).plane = a
  · rw [if_pos (decide_eq_true z), if_pos (show (partA (m.part i)).on = some a from (on_eq h).mpr z)]
    unfold barOf Km354.TASKS
    rw [findSome_map]
    apply findSome_congr
    intro t ht
    rw [what_is g hi' (List.mem_range.mp ht), Option.map_map]
    rfl
  · rw [if_neg (by rw [decide_eq_true_eq]; exact z), if_neg (show ¬ (partA (m.part i)).on = some a from fun e => z ((on_eq h).mp e))]
    rfl
/-! ### what is left -/
theorem least_fold {α : Type} (f : α → Option Nat) (F : Int → α → Int) : ∀ (l : List α) (w : Nat), (∀ x ∈ l, ∀ w : Nat, F w x = (match f x with | none => (w : Int) | some y => ((min y w : Nat) : Int))) →
    l.foldl F (w : Int) = (match Km354.least (l.map f) with | none => (w : Int) | some y => ((min y w : Nat) : Int))
  | [], w, _ => rfl
  | x :: l, w, h => by
    have hx := h x List.mem_cons_self
    have hl := fun w => least_fold f F l w fun y hy => h y (List.mem_cons_of_mem _ hy)
    rw [List.foldl_cons, hx w, List.map_cons]
    cases e : f x with
    | none =>
      show l.foldl F (w : Int) = (match Km354.least (l.map f) with | none => (w : Int) | some y => ((min y w : Nat) : Int))
      exact hl w
    | some y =>
      show l.foldl F ((min y w : Nat) : Int) = (match (match Km354.least (l.map f) with | none => some y | some z => some (min y z)) with | none => (w : Int) | some y => ((min y w : Nat) : Int))
      rw [hl]
      cases Km354.least (l.map f) with
      | none => rfl
      | some z =>
        show ((min z (min y w) : Nat) : Int) = ((min (min y z) w : Nat) : Int)
        congr 1
        omega
theorem least_le {α : Type} (f : α → Option Nat) (b : Nat) : ∀ (l : List α), (∀ x ∈ l, ∀ y, f x = some y → y ≤ b) → ∀ y, Km354.least (l.map f) = some y → y ≤ b
  | [], _, y, e => by cases e
  | x :: l, h, y, e => by
    have hl := least_le f b l fun z hz => h z (List.mem_cons_of_mem _ hz)
    have hx := h x List.mem_cons_self
    rw [List.map_cons] at e
    cases e1 : f x with
    | none =>
      rw [e1] at e
      exact hl y e
    | some z =>
      rw [e1] at e
      have e' : (match Km354.least (l.map f) with | none => some z | some u => some (min z u)) = some y := e
      have := hx z e1
      cases e2 : Km354.least (l.map f) with
      | none => rw [e2] at e'; have := Option.some.inj e'; omega
      | some u => rw [e2] at e'; have := Option.some.inj e'; omega
theorem least_end {α : Type} (f : α → Option Nat) (F : Int → α → Int) (l : List α) (h : ∀ x ∈ l, ∀ w : Nat, F w x = (match f x with | none => (w : Int) | some y => ((min y w : Nat) : Int)))
    (hb : ∀ x ∈ l, ∀ y, f x = some y → y ≤ 4294967295) : l.foldl F 4294967295 = (((Km354.least (l.map f)).getD 4294967295 : Nat) : Int) := by
  have e := least_fold f F l 4294967295 h
  have b := least_le f 4294967295 l hb
  rw [show (4294967295 : Int) = ((4294967295 : Nat) : Int) from rfl, e]
  cases q : Km354.least (l.map f) with
  | none => rfl
  | some y =>
    have := b y q
    show ((min y 4294967295 : Nat) : Int) = ((y : Nat) : Int)
    congr 1
    omega
theorem fold_fst {α β γ : Type} (F : β × γ → α → β × γ) (G : β → α → β) (h : ∀ s x, (F s x).1 = G s.1 x) : ∀ (l : List α) (s : β × γ), (l.foldl F s).1 = l.foldl G s.1
  | [], _ => rfl
  | x :: l, s => by rw [List.foldl_cons, List.foldl_cons, fold_fst F G h l, h]
theorem fold_snd {α β γ : Type} (F : β × γ → α → β × γ) (G : γ → α → γ) (h : ∀ s x, (F s x).2 = G s.2 x) : ∀ (l : List α) (s : β × γ), (l.foldl F s).2 = l.foldl G s.2
  | [], _ => rfl
  | x :: l, s => by rw [List.foldl_cons, List.foldl_cons, fold_snd F G h l, h]
theorem fold_flat {α β γ : Type} (f : α → List β) (G : γ → β → γ) : ∀ (l : List α) (s : γ), l.foldl (fun s x => (f x).foldl G s) s = (l.flatMap f).foldl G s
  | [], _ => rfl
  | x :: l, s => by rw [List.foldl_cons, fold_flat f G l, List.flatMap_cons, List.foldl_append]
theorem fold_congr {α γ : Type} {F G : γ → α → γ} : ∀ (l : List α) (s : γ), (∀ x ∈ l, ∀ s, F s x = G s x) → l.foldl F s = l.foldl G s
  | [], _, _ => rfl
  | x :: l, s, h => by rw [List.foldl_cons, List.foldl_cons, h x List.mem_cons_self, fold_congr l _ fun y hy => h y (List.mem_cons_of_mem _ hy)]
theorem fold_map {α β γ : Type} (f : α → β) (G : γ → β → γ) : ∀ (l : List α) (s : γ), (l.map f).foldl G s = l.foldl (fun s x => G s (f x)) s
  | [], _ => rfl
  | x :: l, s => by rw [List.map_cons, List.foldl_cons, List.foldl_cons, fold_map f G l]
abbrev LItem := Km354.Kind × Nat × Km354.Since
def itemsOf (m : M) (i : Nat) : List LItem := (List.range 4).map fun t => ((abs m).kind (partA (m.part i)), t, (partA (m.part i)).since.getD t ⟨0, 0, 0⟩)
theorem lefts_items (g : Good c m) {a : Nat} (h : a < 16) (day : Nat) : (abs m).lefts a day = (let l := (m.partsIn a).flatMap (itemsOf m)
  [Km354.least (l.map fun x => Km354.left (x.1.minutes.getD x.2.1 0) x.2.2.minutes), Km354.least (l.map fun x => Km354.left (x.1.landings.getD x.2.1 0) x.2.2.landings), Km354.least (l.map fun x => Km354.left (x.1.days.getD x.2.1 0) (day - x.2.2.day))].map fun x => x.getD 4294967295) := by
  unfold Km354.Book.lefts
  rw [aboard_is g h, List.flatMap_map]
  rfl
theorem item_mem (g : Good c m) {a : Nat} {x : LItem} (hx : x ∈ (m.partsIn a).flatMap (itemsOf m)) :
    ∃ i t, i < m.parts.length ∧ t < 4 ∧ x = (kindA (m.kind (m.part i).kind), t, ⟨(m.part i).ms.getD t 0, (m.part i).ls.getD t 0, (m.part i).dn.getD t 0 - BASE⟩) := by
  obtain ⟨i, hi, hx⟩ := List.mem_flatMap.mp hx
  obtain ⟨t, ht, rfl⟩ := List.mem_map.mp hx
  have hp := (partsIn_lt hi).1
  have ht' := List.mem_range.mp ht
  refine ⟨i, t, hp, ht', ?_⟩
  rw [absKind _ (g.parts _ (part_mem hp)).kind]
  show (_, t, (sinceA (m.part i)).getD t ⟨0, 0, 0⟩) = _
  rw [since_get _ ht']
theorem ll_is (l gone : Nat) (w : Nat) : leastLeft (l : Int) (gone : Int) (w : Int) = (match Km354.left l gone with | none => (w : Int) | some y => ((min y w : Nat) : Int)) := by
  unfold leastLeft Km354.left
  by_cases z : l = 0
  · rw [if_pos z, if_pos (by omega)]
  · rw [if_neg z, if_neg (by omega)]
    show min (w : Int) (max 0 ((l : Int) - gone)) = ((min (l - gone) w : Nat) : Int)
    omega
theorem ld_is (l day dn b : Nat) (w : Nat) (h : b ≤ dn) (h2 : dn ≤ day) : leastLeft (l : Int) ((day : Int) - (dn : Int)) (w : Int) = (match Km354.left l (day - b - (dn - b)) with | none => (w : Int) | some y => ((min y w : Nat) : Int)) := by
  rw [← ll_is]
  congr 1
  omega
theorem left_le (l gone b : Nat) (h : l ≤ b) : ∀ y, Km354.left l gone = some y → y ≤ b := by
  intro y e
  unfold Km354.left at e
  by_cases z : l = 0
  · rw [if_pos z] at e; cases e
  · rw [if_neg z] at e
    have := Option.some.inj e
    omega
def G1 (w : Int) (x : LItem) : Int := leastLeft (x.1.minutes.getD x.2.1 0 : Nat) (x.2.2.minutes : Nat) w
def G2 (w : Int) (x : LItem) : Int := leastLeft (x.1.landings.getD x.2.1 0 : Nat) (x.2.2.landings : Nat) w
def G3 (day : Nat) (w : Int) (x : LItem) : Int := leastLeft (x.1.days.getD x.2.1 0 : Nat) ((day : Int) - ((x.2.2.day + BASE : Nat) : Int)) w
theorem task_is (g : Good c m) {i : Nat} (hp : i < m.parts.length) {t : Nat} (ht : t < 4) (day : Nat) (s : Int × Int × Int) :
    leftTask (m.kind (m.part i).kind) (m.part i) day s t = (fun (s : Int × Int × Int) (x : LItem) => (G1 s.1 x, G2 s.2.1 x, G3 day s.2.2 x)) s ((abs m).kind (partA (m.part i)), t, (partA (m.part i)).since.getD t ⟨0, 0, 0⟩) := by
  have gp := g.parts _ (part_mem hp)
  rw [absKind _ gp.kind]
  show _ = (fun (s : Int × Int × Int) (x : LItem) => (G1 s.1 x, G2 s.2.1 x, G3 day s.2.2 x)) s (_, t, (sinceA (m.part i)).getD t ⟨0, 0, 0⟩)
  rw [since_get _ ht]
  have hb : BASE ≤ (m.part i).dn.getD t 0 := gp.lo _ (getD_mem (by rw [gp.ld]; exact ht))
  unfold leftTask G1 G2 G3 kindA
  have e : (m.part i).dn.getD t 0 - BASE + BASE = (m.part i).dn.getD t 0 := by omega
  simp only [e]
theorem leftIn_fold (g : Good c m) (a date : Nat) : leftIn m a date = ((m.partsIn a).flatMap (itemsOf m)).foldl (fun (s : Int × Int × Int) (x : LItem) => (G1 s.1 x, G2 s.2.1 x, G3 (numberOf date) s.2.2 x)) (4294967295, 4294967295, 4294967295) := by
  unfold leftIn
  rw [← fold_flat]
  apply fold_congr
  intro i hi s
  unfold leftPart itemsOf
  rw [fold_map]
  apply fold_congr
  intro t ht s
  exact task_is g (partsIn_lt hi).1 (List.mem_range.mp ht) _ s
theorem left_is (g : Good c m) {a : Nat} (h : a < 16) {date : Nat} (hd : isDate date = true) (hn : ¬ numberOf date < m.last) :
    [(leftIn m a date).1, (leftIn m a date).2.1, (leftIn m a date).2.2] = Km354Neutral.nums ((abs m).lefts a (numberOf date - BASE)) := by
  rw [lefts_items g h, leftIn_fold g]
  have q := fun x (hx : x ∈ (m.partsIn a).flatMap (itemsOf m)) => item_mem g hx
  have e1 := fold_fst (fun (s : Int × Int × Int) (x : LItem) => (G1 s.1 x, G2 s.2.1 x, G3 (numberOf date) s.2.2 x)) G1 (fun _ _ => rfl) ((m.partsIn a).flatMap (itemsOf m)) (4294967295, 4294967295, 4294967295)
  have e2 := fold_snd (fun (s : Int × Int × Int) (x : LItem) => (G1 s.1 x, G2 s.2.1 x, G3 (numberOf date) s.2.2 x)) (fun (s : Int × Int) x => (G2 s.1 x, G3 (numberOf date) s.2 x)) (fun _ _ => rfl) ((m.partsIn a).flatMap (itemsOf m)) (4294967295, 4294967295, 4294967295)
  have e3 := fold_fst (fun (s : Int × Int) (x : LItem) => (G2 s.1 x, G3 (numberOf date) s.2 x)) G2 (fun _ _ => rfl) ((m.partsIn a).flatMap (itemsOf m)) (4294967295, 4294967295)
  have e4 := fold_snd (fun (s : Int × Int) (x : LItem) => (G2 s.1 x, G3 (numberOf date) s.2 x)) (G3 (numberOf date)) (fun _ _ => rfl) ((m.partsIn a).flatMap (itemsOf m)) (4294967295, 4294967295)
  rw [e1, e2, e3, e4]
  show _ = [(((Km354.least _).getD 4294967295 : Nat) : Int), (((Km354.least _).getD 4294967295 : Nat) : Int), (((Km354.least _).getD 4294967295 : Nat) : Int)]
  have b1 : ∀ x ∈ (m.partsIn a).flatMap (itemsOf m), x.1.minutes.getD x.2.1 0 ≤ 4294967295 ∧ x.1.landings.getD x.2.1 0 ≤ 4294967295 ∧ x.1.days.getD x.2.1 0 ≤ 4294967295 := by
    intro x hx
    obtain ⟨i, t, hi, ht, rfl⟩ := q x hx
    have gk := g.kinds _ (kind_mem (g.parts _ (part_mem hi)).kind)
    exact ⟨gk.bm _ (getD_mem (by rw [gk.lm]; exact ht)), gk.bl _ (getD_mem (by rw [gk.ll]; exact ht)), gk.bd _ (getD_mem (by rw [gk.ld]; exact ht))⟩
  have f1 := least_end (fun x => Km354.left (x.1.minutes.getD x.2.1 0) x.2.2.minutes) G1 ((m.partsIn a).flatMap (itemsOf m)) (fun x _ w => by unfold G1; exact ll_is _ _ w) (fun x hx y e => left_le _ _ _ (b1 x hx).1 y e)
  have f2 := least_end (fun x => Km354.left (x.1.landings.getD x.2.1 0) x.2.2.landings) G2 ((m.partsIn a).flatMap (itemsOf m)) (fun x _ w => by unfold G2; exact ll_is _ _ w) (fun x hx y e => left_le _ _ _ (b1 x hx).2.1 y e)
  have f3 := least_end (fun x => Km354.left (x.1.days.getD x.2.1 0) (numberOf date - BASE - x.2.2.day)) (G3 (numberOf date)) ((m.partsIn a).flatMap (itemsOf m)) (fun x hx w => by
    obtain ⟨i, t, hi, ht, rfl⟩ := q x hx
    have gp := g.parts _ (part_mem hi)
    have lo : BASE ≤ (m.part i).dn.getD t 0 := gp.lo _ (getD_mem (by rw [gp.ld]; exact ht))
    have hi' : (m.part i).dn.getD t 0 ≤ m.last := gp.hi _ (getD_mem (by rw [gp.ld]; exact ht))
    show leastLeft _ ((numberOf date : Int) - (((m.part i).dn.getD t 0 - BASE + BASE : Nat) : Int)) _ = _
    rw [show (m.part i).dn.getD t 0 - BASE + BASE = (m.part i).dn.getD t 0 from by omega]
    exact ld_is _ _ _ BASE w lo (by omega)) (fun x hx y e => left_le _ _ _ (b1 x hx).2.2 y e)
  rw [f1, f2, f3]
end
end FB
namespace FB
section
variable {c : Nat} {m : M}
/-! ### writing -/
theorem setPart_at {i j : Nat} (p : MPart) : (m.setPart i p).part j = if i = j ∧ i < m.parts.length then p else m.part j := by
  unfold M.setPart M.part
  show (m.parts.set i p).getD j MPart.zero = _
  rw [List.getD_eq_getElem?_getD, List.getElem?_set]
  by_cases e : i = j
  · subst e
    rw [if_pos rfl]
    by_cases l : i < m.parts.length
    · rw [if_pos l, if_pos ⟨rfl, l⟩]; rfl
    · rw [if_neg l, if_neg (fun z => l z.2), List.getD_eq_getElem?_getD, List.getElem?_eq_none (by omega)]
  · rw [if_neg e, if_neg (fun z => e z.1), List.getD_eq_getElem?_getD]
theorem setPart_abs {i : Nat} (p : MPart) : abs (m.setPart i p) = { abs m with parts := (abs m).parts.set i (partA p) } := by
  unfold abs M.setPart
  simp only [List.map_set]
theorem setPart_good (g : Good c m) {i : Nat} {p : MPart} (gp : GoodPart m.kinds.length m.last p) : Good c (m.setPart i p) := by
  refine ⟨g.kinds, g.kn, fun q hq => ?_, ?_, g.planes, g.flown⟩
  · rcases List.mem_or_eq_of_mem_set hq with h | h
    · exact g.parts q h
    · rw [h]; exact gp
  · show (m.parts.set i p).length ≤ 256
    rw [List.length_set]
    exact g.pn
theorem setPlane_abs {a : Nat} (p : MPlane) : abs (m.setPlane a p) = { abs m with planes := (abs m).planes.set a (planeA p) } := by
  unfold abs M.setPlane
  simp only [List.map_set]
theorem setPlane_good (g : Good c m) {a : Nat} {p : MPlane} (gp : p.flown.length ≤ c) : Good c (m.setPlane a p) := by
  refine ⟨g.kinds, g.kn, g.parts, g.pn, ?_, fun q hq => ?_⟩
  · show (m.planes.set a p).length = 16
    rw [List.length_set]
    exact g.planes
  · rcases List.mem_or_eq_of_mem_set hq with h | h
    · exact g.flown q h
    · rw [h]; exact gp
theorem last_good (g : Good c m) {d : Nat} (h : m.last ≤ d) : Good c { m with last := d } :=
  ⟨g.kinds, g.kn, fun p hp => let q := g.parts p hp; ⟨q.kind, q.plane, q.lm, q.ll, q.ld, q.lo, fun x hx => Nat.le_trans (q.hi x hx) h⟩, g.pn, g.planes, g.flown⟩
theorem last_abs {d : Nat} : abs { m with last := d } = { abs m with today := d - BASE } := rfl
theorem sim_err {e : Int} {y : Km354.Book × Km354.Ans} (h : y = (abs m, Km354.only e)) : Sim c m (.error e) y := h
theorem sim_ok {m' : M} {out : List Int} {y : Km354.Book × Km354.Ans} (h1 : y.1 = abs m') (h2 : told y.2 = out) (h3 : Good (c + 1) m') : Sim c m (.ok (m', out)) y := ⟨h1, h2, h3⟩
theorem told_only (v : Int) : told (Km354.only v) = [v] := rfl
/-! ### the deeds -/
theorem sim_part (g : Good c m) (k d : Nat) : Sim c m (doPart m k d) (Km354.act (abs m) (.part k d)) := by
  unfold doPart
  show Sim c m _ (if (abs m).kinds.length ≤ k then _ else _)
  rw [kinds_len]
  by_cases hk : k < m.kinds.length
  · rw [if_neg (show ¬ m.kinds.length ≤ k by omega)]
    cases hd : isDate d with
    | false =>
      rw [if_pos (by simp), day_none hd]
      exact sim_err rfl
    | true =>
      rw [if_neg (by simp [hk])]
      by_cases hb : numberOf d < m.last
      · rw [if_pos hb, day_before hd hb]
        exact sim_err rfl
      · rw [if_neg hb, day_ok hd hb]
        show Sim c m _ (if Km354.PARTS ≤ (abs m).parts.length then _ else _)
        rw [parts_len]
        by_cases hp : m.parts.length < 256
        · rw [if_neg (not_not_intro hp), if_neg (show ¬ Km354.PARTS ≤ m.parts.length by unfold Km354.PARTS; omega)]
          refine sim_ok ?_ (told_only _) ⟨g.kinds, g.kn, fun p hp => ?_, ?_, g.planes, fun p hp => Nat.le_succ_of_le (g.flown p hp)⟩
          · unfold abs
            simp only [List.map_append]
            rfl
          · rcases (List.mem_append.mp hp) with h | h
            · have q := g.parts p h
              exact ⟨q.kind, q.plane, q.lm, q.ll, q.ld, q.lo, fun x hx => by have := q.hi x hx; show x ≤ numberOf d; omega⟩
            · have e := List.mem_singleton.mp h
              subst e
              refine ⟨hk, .inl rfl, rfl, rfl, rfl, fun x hx => ?_, fun x hx => ?_⟩
              · have : x = numberOf d := by simpa [MPart.new] using hx
                rw [this]; exact base_le hd
              · have : x = numberOf d := by simpa [MPart.new] using hx
                rw [this]; exact Nat.le_refl _
          · show (m.parts ++ [_]).length ≤ 256
            rw [List.length_append]
            show m.parts.length + 1 ≤ 256
            omega
        · rw [if_pos hp, if_pos (show Km354.PARTS ≤ m.parts.length by unfold Km354.PARTS; omega)]
          exact sim_err rfl
  · rw [if_pos (show m.kinds.length ≤ k by omega), if_pos (by simp [hk])]
    exact sim_err rfl
theorem on_none {a : Nat} : (onA a).isSome = !decide (a = 255) := by
  unfold onA
  by_cases z : a = 255
  · simp [z]
  · simp [z]
theorem sim_put (g : Good c m) (i a f : Nat) : Sim c m (doPut m i a f) (Km354.act (abs m) (.put i a f)) := by
  unfold doPut
  show Sim c m _ (if Km354.PLANES ≤ a then _ else _)
  by_cases ha : a < 16
  · rw [if_neg (not_not_intro ha), if_neg (show ¬ Km354.PLANES ≤ a by unfold Km354.PLANES; omega)]
    by_cases hi : i < m.parts.length
    · rw [if_neg (not_not_intro hi), absPart_some hi]
      show Sim c m _ (if (onA (m.part i).plane).isSome = true ∨ ((abs m).plane a).away.isSome = true then _ else _)
      rw [away_is g ha, on_none]
      by_cases hw : (decide ((m.part i).plane = 255) && !m.away a) = false
      · rw [if_pos hw, if_pos (show (!decide ((m.part i).plane = 255)) = true ∨ m.away a = true by revert hw; cases decide ((m.part i).plane = 255) <;> cases m.away a <;> simp)]
        exact sim_err rfl
      · rw [if_neg hw, if_neg (show ¬ ((!decide ((m.part i).plane = 255)) = true ∨ m.away a = true) by revert hw; cases decide ((m.part i).plane = 255) <;> cases m.away a <;> simp)]
        show Sim c m _ (if f ≠ ((abs m).plane a).flown then _ else _)
        rw [flown_is g ha]
        by_cases hf : f = (m.plane a).flown.length
        · rw [if_neg (not_not_intro hf), if_neg (not_not_intro hf)]
          show Sim c m _ (if Km354.SLOTS ≤ ((abs m).aboard a).length then _ else _)
          rw [aboard_len g ha]
          by_cases hs : (m.partsIn a).length < 32
          · rw [if_neg (not_not_intro hs), if_neg (show ¬ Km354.SLOTS ≤ _ by unfold Km354.SLOTS; omega)]
            refine sim_ok ?_ (told_only _) ?_
            · rw [setPart_abs]
              have e : partA { m.part i with plane := a } = { partA (m.part i) with on := some a } := by
                show (⟨_, onA a, _, _, _⟩ : Km354.Part) = _
                rw [show onA a = some a from if_neg (by omega)]
                rfl
              rw [e]
            · have q := g.parts _ (part_mem hi)
              exact (setPart_good g (i := i) (p := { m.part i with plane := a }) ⟨q.kind, .inr ha, q.lm, q.ll, q.ld, q.lo, q.hi⟩).mono (Nat.le_succ _)
          · rw [if_pos hs, if_pos (show Km354.SLOTS ≤ _ by unfold Km354.SLOTS; omega)]
            exact sim_err rfl
        · rw [if_pos hf, if_pos hf]
          exact sim_err rfl
    · rw [if_pos hi, absPart_none hi]
      exact sim_err rfl
  · rw [if_pos ha, if_pos (show Km354.PLANES ≤ a by unfold Km354.PLANES; omega)]
    exact sim_err rfl
theorem sim_take (g : Good c m) (i f : Nat) : Sim c m (doTake m i f) (Km354.act (abs m) (.take i f)) := by
  unfold doTake
  show Sim c m _ (match (abs m).parts[i]? with | none => _ | some p => _)
  by_cases hi : i < m.parts.length
  · rw [if_neg (not_not_intro hi), absPart_some hi]
    have q := g.parts _ (part_mem hi)
    show Sim c m _ (match onA (m.part i).plane with | none => _ | some a => _)
    by_cases hp : (m.part i).plane = 255
    · rw [if_pos hp, show onA (m.part i).plane = none from if_pos hp]
      exact sim_err rfl
    · have ha : (m.part i).plane < 16 := q.plane.resolve_left hp
      rw [if_neg hp, show onA (m.part i).plane = some (m.part i).plane from if_neg hp]
      show Sim c m _ (if ((abs m).plane (m.part i).plane).away.isSome = true then _ else if f ≠ ((abs m).plane (m.part i).plane).flown then _ else _)
      rw [away_is g ha, flown_is g ha]
      by_cases hw : m.away (m.part i).plane = true
      · rw [if_pos hw, if_pos hw]
        exact sim_err rfl
      · rw [if_neg hw, if_neg hw]
        by_cases hf : f = (m.plane (m.part i).plane).flown.length
        · rw [if_neg (not_not_intro hf), if_neg (not_not_intro hf)]
          refine sim_ok ?_ (told_only _) ?_
          · rw [setPart_abs]
            rfl
          · exact (setPart_good g (i := i) (p := { m.part i with plane := 255 }) ⟨q.kind, .inl rfl, q.lm, q.ll, q.ld, q.lo, q.hi⟩).mono (Nat.le_succ _)
        · rw [if_pos hf, if_pos hf]
          exact sim_err rfl
  · rw [if_pos hi, absPart_none hi]
    exact sim_err rfl
theorem getD_set (l : List Nat) (t s x : Nat) (h : t < l.length) : (l.set t x).getD s 0 = if t = s then x else l.getD s 0 := by
  rw [List.getD_eq_getElem?_getD, List.getElem?_set, List.getD_eq_getElem?_getD]
  by_cases e : t = s
  · rw [if_pos e, if_pos e, if_pos h]; rfl
  · rw [if_neg e, if_neg e]
theorem since_did {p : MPart} {t day : Nat} (ht : t < 4) (h1 : p.ms.length = 4) (h2 : p.ls.length = 4) (h3 : p.dn.length = 4) : sinceA (p.did t day) = (sinceA p).set t ⟨0, 0, day - BASE⟩ := by
  apply List.ext_getElem?
  intro s
  rw [List.getElem?_set]
  have hl : (sinceA p).length = 4 := by unfold sinceA; simp
  by_cases hs : s < 4
  · have e : ∀ q : MPart, (sinceA q)[s]? = some ⟨q.ms.getD s 0, q.ls.getD s 0, q.dn.getD s 0 - BASE⟩ := fun q => by
      unfold sinceA
      rw [List.getElem?_map, List.getElem?_range hs]; rfl
    rw [e, e]
    show some (⟨(p.ms.set t 0).getD s 0, (p.ls.set t 0).getD s 0, (p.dn.set t day).getD s 0 - BASE⟩ : Km354.Since) = _
    rw [getD_set _ _ _ _ (by omega), getD_set _ _ _ _ (by omega), getD_set _ _ _ _ (by omega)]
    by_cases z : t = s
    · rw [if_pos z, if_pos z, if_pos z, if_pos z, if_pos (by omega)]
    · rw [if_neg z, if_neg z, if_neg z, if_neg z]
  · have e : ∀ q : MPart, (sinceA q)[s]? = none := fun q => by
      unfold sinceA
      rw [List.getElem?_map, List.getElem?_eq_none (by rw [List.length_range]; omega)]; rfl
    rw [e, e, if_neg (by omega)]
theorem did_good {n last : Nat} {p : MPart} (q : GoodPart n last p) {t d : Nat} (hd : isDate d = true) (hb : last ≤ numberOf d) : GoodPart n (numberOf d) (p.did t (numberOf d)) := by
  refine ⟨q.kind, q.plane, ?_, ?_, ?_, fun x hx => ?_, fun x hx => ?_⟩
  · show (p.ms.set t 0).length = 4
    rw [List.length_set]; exact q.lm
  · show (p.ls.set t 0).length = 4
    rw [List.length_set]; exact q.ll
  · show (p.dn.set t _).length = 4
    rw [List.length_set]; exact q.ld
  · rcases List.mem_or_eq_of_mem_set hx with h | h
    · exact q.lo x h
    · rw [h]; exact base_le hd
  · rcases List.mem_or_eq_of_mem_set hx with h | h
    · exact Nat.le_trans (q.hi x h) hb
    · rw [h]; exact Nat.le_refl _
theorem sim_did (g : Good c m) (i t d : Nat) : Sim c m (doDid m i t d) (Km354.act (abs m) (.did i t d)) := by
  unfold doDid
  show Sim c m _ (if Km354.TASKS ≤ t then _ else _)
  by_cases ht : t < 4
  · rw [if_neg (not_not_intro ht), if_neg (show ¬ Km354.TASKS ≤ t by unfold Km354.TASKS; omega)]
    by_cases hi : i < m.parts.length
    · rw [if_neg (not_not_intro hi), absPart_some hi]
      have q := g.parts _ (part_mem hi)
      cases hd : isDate d with
      | false =>
        rw [if_pos rfl]
        show Sim c m _ (match (abs m).day d with | .inl v => _ | .inr d => _)
        rw [day_none hd]
        exact sim_err rfl
      | true =>
        rw [if_neg (by decide)]
        show Sim c m _ (match (abs m).day d with | .inl v => _ | .inr d => _)
        by_cases hb : numberOf d < m.last
        · rw [if_pos hb, day_before hd hb]
          exact sim_err rfl
        · rw [if_neg hb, day_ok hd hb]
          show Sim c m _ (if ((onA (m.part i).plane).map fun a => ((abs m).plane a).away.isSome) = some true then _ else _)
          have e : (((onA (m.part i).plane).map fun a => ((abs m).plane a).away.isSome) = some true) ↔ (decide ((m.part i).plane = 255) || !m.away (m.part i).plane) = false := by
            by_cases hp : (m.part i).plane = 255
            · rw [show onA (m.part i).plane = none from if_pos hp]
              simp [hp]
            · rw [show onA (m.part i).plane = some (m.part i).plane from if_neg hp]
              show some ((abs m).plane (m.part i).plane).away.isSome = some true ↔ _
              rw [away_is g (q.plane.resolve_left hp)]
              simp [hp]
          by_cases hw : (decide ((m.part i).plane = 255) || !m.away (m.part i).plane) = false
          · rw [if_pos hw, if_pos (e.mpr hw)]
            exact sim_err rfl
          · rw [if_neg hw, if_neg (fun z => hw (e.mp z))]
            refine sim_ok ?_ (told_only _) ?_
            · show ({ abs m with parts := (abs m).parts.set i { partA (m.part i) with since := (sinceA (m.part i)).set t ⟨0, 0, numberOf d - BASE⟩ }, today := numberOf d - BASE } : Km354.Book) = { abs (m.setPart i ((m.part i).did t (numberOf d))) with today := numberOf d - BASE }
              rw [← since_did ht q.lm q.ll q.ld, setPart_abs]
              rfl
            · have g2 := last_good g (d := numberOf d) (by omega)
              exact (setPart_good g2 (i := i) (did_good q (t := t) hd (by omega))).mono (Nat.le_succ _)
    · rw [if_pos hi, absPart_none hi]
      exact sim_err rfl
  · rw [if_pos ht, if_pos (show Km354.TASKS ≤ t by unfold Km354.TASKS; omega)]
    exact sim_err rfl
theorem okFlight_iff {a d n : Nat} : okFlight a d n = true ↔ a < 16 ∧ Km354.okMinutes n = true ∧ isDate d = true := by
  unfold okFlight Km354.okMinutes
  simp
theorem sim_go (g : Good c m) (a d n : Nat) : Sim c m (doGo m a d n) (Km354.act (abs m) (.go a d n)) := by
  unfold doGo
  show Sim c m _ (if Km354.PLANES ≤ a ∨ Km354.okMinutes n = false then _ else match (abs m).day d with | .inl v => _ | .inr d => _)
  by_cases ha : a < 16 ∧ Km354.okMinutes n = true
  · rw [if_neg (show ¬ (Km354.PLANES ≤ a ∨ Km354.okMinutes n = false) by unfold Km354.PLANES; rintro (h | h); omega; rw [ha.2] at h; cases h)]
    cases hd : isDate d with
    | false =>
      rw [if_pos (show okFlight a d n = false by cases h : okFlight a d n; rfl; rw [okFlight_iff, hd] at h; cases h.2.2), day_none hd]
      exact sim_err rfl
    | true =>
      rw [if_neg (show ¬ okFlight a d n = false by rw [okFlight_iff.mpr ⟨ha.1, ha.2, hd⟩]; decide)]
      by_cases hb : numberOf d < m.last
      · rw [if_pos hb, day_before hd hb]
        exact sim_err rfl
      · rw [if_neg hb, day_ok hd hb]
        show Sim c m _ (if ((abs m).plane a).away.isSome = true then _ else if ((abs m).bars a n (numberOf d - BASE)).isSome = true then _ else _)
        rw [away_is g ha.1]
        by_cases hw : m.away a = true
        · rw [if_pos hw, if_pos hw]
          exact sim_err rfl
        · rw [if_neg hw, if_neg hw, bars_is g ha.1, Option.isSome_map]
          by_cases hx : ((abs m).bars a n (numberOf d - BASE)).isSome = true
          · rw [if_pos hx, if_pos hx]
            exact sim_err rfl
          · rw [if_neg hx, if_neg hx]
            have hn : 1 ≤ n := by
              have := ha.2
              unfold Km354.okMinutes at this
              simp only [Bool.and_eq_true, decide_eq_true_eq] at this
              omega
            refine sim_ok ?_ ?_ ?_
            · show ({ abs m with planes := (abs m).planes.set a { (abs m).plane a with away := some n }, today := numberOf d - BASE } : Km354.Book) = { abs (m.setPlane a { m.plane a with go := n }) with today := numberOf d - BASE }
              rw [absPlane g ha.1, setPlane_abs]
              have e : planeA { m.plane a with go := n } = { planeA (m.plane a) with away := some n } := by
                unfold planeA
                show (⟨_, if n = 0 then none else some n, _⟩ : Km354.Plane) = _
                rw [if_neg (by omega)]
              rw [e]
            · show [(((((abs m).plane a).flown % 2 ^ 31 : Nat)) : Int)] = _
              rw [flown_is g ha.1]
            · exact (last_good (setPlane_good g (a := a) (p := { m.plane a with go := n }) (show (m.plane a).flown.length ≤ c from g.flown _ (plane_mem g ha.1))) (d := numberOf d) (by show m.last ≤ _; omega)).mono (Nat.le_succ _)
  · rw [if_pos (show Km354.PLANES ≤ a ∨ Km354.okMinutes n = false by unfold Km354.PLANES; cases h : Km354.okMinutes n; exact .inr rfl; exact .inl (by have := mt (fun q => And.intro q h) ha; omega)),
      if_pos (show okFlight a d n = false by cases h : okFlight a d n; rfl; exact absurd ⟨(okFlight_iff.mp h).1, (okFlight_iff.mp h).2.1⟩ ha)]
    exact sim_err rfl
theorem sim_bars (g : Good c m) (a d n : Nat) : Sim c m (doBars m a d n) (Km354.act (abs m) (.bars a d n)) := by
  unfold doBars
  show Sim c m _ (abs m, if Km354.PLANES ≤ a ∨ Km354.okMinutes n = false then _ else match (abs m).day d with | .inl v => _ | .inr d => _)
  by_cases ha : a < 16 ∧ Km354.okMinutes n = true
  · rw [if_neg (show ¬ (Km354.PLANES ≤ a ∨ Km354.okMinutes n = false) by unfold Km354.PLANES; rintro (h | h); omega; rw [ha.2] at h; cases h)]
    cases hd : isDate d with
    | false =>
      rw [if_pos (show okFlight a d n = false by cases h : okFlight a d n; rfl; rw [okFlight_iff, hd] at h; cases h.2.2), day_none hd]
      exact sim_err rfl
    | true =>
      rw [if_neg (show ¬ okFlight a d n = false by rw [okFlight_iff.mpr ⟨ha.1, ha.2, hd⟩]; decide)]
      by_cases hb : numberOf d < m.last
      · rw [if_pos hb, day_before hd hb]
        exact sim_err rfl
      · rw [if_neg hb, day_ok hd hb, bars_is g ha.1]
        show Sim c m _ (abs m, match (abs m).bars a n (numberOf d - BASE) with | none => _ | some x => _)
        cases (abs m).bars a n (numberOf d - BASE) with
        | none => exact sim_err rfl
        | some x => exact sim_ok rfl rfl (g.mono (Nat.le_succ _))
  · rw [if_pos (show Km354.PLANES ≤ a ∨ Km354.okMinutes n = false by unfold Km354.PLANES; cases h : Km354.okMinutes n; exact .inr rfl; exact .inl (by have := mt (fun q => And.intro q h) ha; omega)),
      if_pos (show okFlight a d n = false by cases h : okFlight a d n; rfl; exact absurd ⟨(okFlight_iff.mp h).1, (okFlight_iff.mp h).2.1⟩ ha)]
    exact sim_err rfl
/-! ### flew -/
theorem fliesAll_len (n : Nat) : ∀ (l : List Nat) (m : M), (m.fliesAll n l).parts.length = m.parts.length
  | [], m => rfl
  | i :: l, m => by
    show ((m.setPart i _).fliesAll n l).parts.length = _
    rw [fliesAll_len n l]
    show (m.parts.set i _).length = _
    rw [List.length_set]
theorem fliesAll_kinds (n : Nat) : ∀ (l : List Nat) (m : M), (m.fliesAll n l).kinds = m.kinds
  | [], m => rfl
  | i :: l, m => (fliesAll_kinds n l _).trans rfl
theorem fliesAll_planes (n : Nat) : ∀ (l : List Nat) (m : M), (m.fliesAll n l).planes = m.planes
  | [], m => rfl
  | i :: l, m => (fliesAll_planes n l _).trans rfl
theorem fliesAll_last (n : Nat) : ∀ (l : List Nat) (m : M), (m.fliesAll n l).last = m.last
  | [], m => rfl
  | i :: l, m => (fliesAll_last n l _).trans rfl
theorem fliesAll_part (n : Nat) : ∀ (l : List Nat) (m : M), l.Nodup → (∀ i ∈ l, i < m.parts.length) → ∀ j, (m.fliesAll n l).part j = if j ∈ l then (m.part j).flies n else m.part j
  | [], m, _, _, j => by rw [if_neg (by simp)]; rfl
  | i :: l, m, nd, hl, j => by
    have hi : i < m.parts.length := hl i List.mem_cons_self
    show ((m.setPart i ((m.part i).flies n)).fliesAll n l).part j = _
    rw [fliesAll_part n l _ (List.nodup_cons.mp nd).2 (fun k hk => by
      show k < (m.parts.set i _).length
      rw [List.length_set]
      exact hl k (List.mem_cons_of_mem _ hk)), setPart_at]
    have ni := (List.nodup_cons.mp nd).1
    by_cases e : i = j
    · subst e
      rw [if_neg ni, if_pos ⟨rfl, hi⟩, if_pos List.mem_cons_self]
    · rw [if_neg (show ¬ (i = j ∧ i < m.parts.length) from fun z => e z.1)]
      by_cases h : j ∈ l
      · rw [if_pos h, if_pos (List.mem_cons_of_mem _ h)]
      · rw [if_neg h, if_neg (by
          intro z
          rcases (List.mem_cons.mp z) with z | z
          · exact e z.symm
          · exact h z)]
theorem partsIn_nodup (a : Nat) : (m.partsIn a).Nodup := List.Nodup.sublist List.filter_sublist List.nodup_range
theorem flies_good {n last : Nat} {p : MPart} (q : GoodPart n last p) (k : Nat) : GoodPart n last (p.flies k) :=
  ⟨q.kind, q.plane, (List.length_map _).trans q.lm, (List.length_map _).trans q.ll, q.ld, q.lo, q.hi⟩
theorem getD_map (l : List Nat) (f : Nat → Nat) {t : Nat} (h : t < l.length) : (l.map f).getD t 0 = f (l.getD t 0) := by
  rw [List.getD_eq_getElem?_getD, List.getElem?_map, List.getD_eq_getElem?_getD, List.getElem?_eq_getElem h]
  rfl
theorem partA_flies {n last : Nat} {p : MPart} (q : GoodPart n last p) (k : Nat) : partA (p.flies k) = (partA p).flies k := by
  unfold partA Km354.Part.flies
  show (⟨_, _, _, _, sinceA (p.flies k)⟩ : Km354.Part) = ⟨_, _, _, _, (sinceA p).map _⟩
  have e : sinceA (p.flies k) = (sinceA p).map fun s => ⟨s.minutes + k, s.landings + 1, s.day⟩ := by
    unfold sinceA
    rw [List.map_map]
    apply List.map_congr_left
    intro t ht
    have ht' := List.mem_range.mp ht
    show (⟨(p.ms.map (· + k)).getD t 0, (p.ls.map (· + 1)).getD t 0, _⟩ : Km354.Since) = _
    rw [getD_map _ _ (by rw [q.lm]; exact ht'), getD_map _ _ (by rw [q.ll]; exact ht')]
    rfl
  rw [e]
  rfl
theorem flown_abs {p : MPlane} (n : Nat) : planeA ⟨p.flown ++ [n], 0⟩ = ⟨(planeA p).flown + 1, none, (n :: (planeA p).last).take 64⟩ := by
  unfold planeA
  simp only [List.length_append, List.length_cons, List.length_nil, List.reverse_append, List.reverse_cons, List.reverse_nil, List.nil_append, List.singleton_append, if_true, List.take_succ_cons, List.take_take]
  rfl
theorem flies_abs (g : Good c m) {a : Nat} (h : a < 16) (n : Nat) : abs ((m.fliesAll n (m.partsIn a)).setPlane a ⟨(m.plane a).flown ++ [n], 0⟩) = (abs m).flies a n := by
  rw [setPlane_abs]
  unfold Km354.Book.flies
  rw [absPlane g h, flown_abs]
  have ek : (abs (m.fliesAll n (m.partsIn a))).kinds = (abs m).kinds := by show (m.fliesAll n (m.partsIn a)).kinds.map kindA = _; rw [fliesAll_kinds]; rfl
  have ep : (abs (m.fliesAll n (m.partsIn a))).planes = (abs m).planes := by show (m.fliesAll n (m.partsIn a)).planes.map planeA = _; rw [fliesAll_planes]; rfl
  have el : (abs (m.fliesAll n (m.partsIn a))).today = (abs m).today := by show (m.fliesAll n (m.partsIn a)).last - BASE = _; rw [fliesAll_last]; rfl
  have et : (abs (m.fliesAll n (m.partsIn a))).parts = (abs m).parts.map fun p => if p.on = some a then p.flies n else p := by
    apply List.ext_getElem?
    intro j
    rw [List.getElem?_map]
    by_cases hj : j < m.parts.length
    · rw [absPart_some hj, absPart_some (by rw [fliesAll_len]; exact hj), fliesAll_part n _ _ (partsIn_nodup a) (fun i hi => (partsIn_lt hi).1)]
      show _ = some (if onA (m.part j).plane = some a then _ else _)
      by_cases z : (m.part j).plane = a
      · rw [if_pos ((on_eq h).mpr z), if_pos (show j ∈ m.partsIn a from List.mem_filter.mpr ⟨List.mem_range.mpr hj, decide_eq_true z⟩), partA_flies (g.parts _ (part_mem hj))]
      · rw [if_neg (fun e => z ((on_eq h).mp e)), if_neg (fun e => z (partsIn_lt e).2)]
    · rw [absPart_none hj, absPart_none (by rw [fliesAll_len]; exact hj)]
      rfl
  show (⟨(abs (m.fliesAll n (m.partsIn a))).kinds, (abs (m.fliesAll n (m.partsIn a))).parts, (abs (m.fliesAll n (m.partsIn a))).planes.set a _, (abs (m.fliesAll n (m.partsIn a))).today⟩ : Km354.Book) = _
  rw [ek, ep, el, et]
theorem flies_allgood (g : Good c m) {a : Nat} (n : Nat) : Good (c + 1) ((m.fliesAll n (m.partsIn a)).setPlane a ⟨(m.plane a).flown ++ [n], 0⟩) := by
  have fl : (m.plane a).flown.length ≤ c := by
    unfold M.plane
    rw [List.getD_eq_getElem?_getD]; cases e : m.planes[a]? with
    | none => exact Nat.zero_le _
    | some p => exact g.flown p (List.mem_of_getElem? e)
  refine setPlane_good ⟨?_, ?_, fun p hp => ?_, ?_, ?_, ?_⟩ ?_
  · rw [fliesAll_kinds]; exact g.kinds
  · rw [fliesAll_kinds]; exact g.kn
  · rw [fliesAll_kinds, fliesAll_last]
    obtain ⟨j, hj⟩ := List.getElem?_of_mem hp
    have lj : j < (m.fliesAll n (m.partsIn a)).parts.length := (List.getElem?_eq_some_iff.mp hj).1
    rw [part_some lj] at hj
    have e := Option.some.inj hj
    rw [← e, fliesAll_part n _ _ (partsIn_nodup a) (fun i hi => (partsIn_lt hi).1)]
    rw [fliesAll_len] at lj
    have q := g.parts _ (part_mem lj)
    by_cases z : j ∈ m.partsIn a
    · rw [if_pos z]; exact flies_good q n
    · rw [if_neg z]; exact q
  · rw [fliesAll_len]; exact g.pn
  · rw [fliesAll_planes]; exact g.planes
  · rw [fliesAll_planes]; exact fun p hp => Nat.le_succ_of_le (g.flown p hp)
  · show ((m.plane a).flown ++ [n]).length ≤ c + 1
    rw [List.length_append]
    show (m.plane a).flown.length + 1 ≤ c + 1
    omega
theorem again_is {p : MPlane} {k n : Nat} (h : k < p.flown.length) : [toldAgain p k n] = told (match (p.flown.reverse.take 64)[p.flown.length - 1 - k]? with
    | none => Km354.only 0
    | some y => if y = n then Km354.only 0 else Km354.only (-17)) := by
  unfold toldAgain
  by_cases z : p.flown.length - 1 - k < 64
  · have e : (p.flown.reverse.take 64)[p.flown.length - 1 - k]? = some (p.flown.getD k 0) := by
      rw [List.getElem?_take, if_pos z, List.getElem?_reverse (by omega), List.getD_eq_getElem?_getD, show p.flown.length - 1 - (p.flown.length - 1 - k) = k by omega, List.getElem?_eq_getElem h]
      rfl
    rw [e]
    show _ = told (if p.flown.getD k 0 = n then _ else _)
    by_cases q : p.flown.getD k 0 = n
    · rw [if_pos (.inl q), if_pos q]; rfl
    · rw [if_neg (by rintro (h' | h'); exact q h'; omega), if_neg q]; rfl
  · have e : (p.flown.reverse.take 64)[p.flown.length - 1 - k]? = none := by
      apply List.getElem?_eq_none
      rw [List.length_take, List.length_reverse]
      omega
    rw [e, if_pos (.inr (by omega))]
    rfl
theorem sim_flew (g : Good c m) (a k n : Nat) : Sim c m (doFlew m a k n) (Km354.act (abs m) (.flew a k n)) := by
  unfold doFlew
  show Sim c m _ (if Km354.PLANES ≤ a ∨ n = 0 ∨ 65535 < n then _ else if k < ((abs m).plane a).flown then (abs m, match ((abs m).plane a).last[((abs m).plane a).flown - 1 - k]? with | none => _ | some y => _) else match ((abs m).plane a).away with | none => _ | some y => _)
  by_cases ha : a < 16 ∧ 1 ≤ n ∧ n ≤ 65535
  · rw [if_neg (show ¬ (decide (a < 16) && (decide (1 ≤ n) && decide (n ≤ 65535))) = false by simp; exact ha), if_neg (show ¬ (Km354.PLANES ≤ a ∨ n = 0 ∨ 65535 < n) by unfold Km354.PLANES; omega), flown_is g ha.1]
    by_cases hk : k < (m.plane a).flown.length
    · rw [if_pos hk, if_pos hk, absPlane g ha.1]
      refine sim_ok rfl ?_ (g.mono (Nat.le_succ _))
      exact (again_is hk).symm
    · rw [if_neg hk, if_neg hk]
      have hw := away_is g ha.1
      have hg : ((abs m).plane a).away = if (m.plane a).go = 0 then none else some (m.plane a).go := by rw [absPlane g ha.1]; rfl
      by_cases hz : (m.plane a).go = 0
      · rw [hg, if_pos hz, if_pos (show (m.away a && decide (k = (m.plane a).flown.length)) = false by unfold M.away; simp [hz])]
        exact sim_err rfl
      · rw [hg, if_neg hz]
        show Sim c m _ (if k ≠ (m.plane a).flown.length then _ else _)
        by_cases he : k = (m.plane a).flown.length
        · rw [if_neg (not_not_intro he), if_neg (show ¬ (m.away a && decide (k = (m.plane a).flown.length)) = false by unfold M.away; simp [he]; omega)]
          refine sim_ok (flies_abs g ha.1 n).symm ?_ (flies_allgood g n)
          show [if n ≤ (m.plane a).go then (1 : Int) else 2] = _
          by_cases hl : (m.plane a).go < n
          · rw [if_pos hl, if_neg (by omega)]
          · rw [if_neg hl, if_pos (by omega)]
        · rw [if_pos he, if_pos (show (m.away a && decide (k = (m.plane a).flown.length)) = false by simp [he])]
          exact sim_err rfl
  · rw [if_pos (show (decide (a < 16) && (decide (1 ≤ n) && decide (n ≤ 65535))) = false by
      cases h : (decide (a < 16) && (decide (1 ≤ n) && decide (n ≤ 65535)))
      · rfl
      · simp only [Bool.and_eq_true, decide_eq_true_eq] at h; exact absurd h ha), if_pos (show Km354.PLANES ≤ a ∨ n = 0 ∨ 65535 < n by unfold Km354.PLANES; omega)]
    exact sim_err rfl
theorem sim_left (g : Good c m) (a d : Nat) : Sim c m (doLeft m a d) (Km354.act (abs m) (.left a d)) := by
  unfold doLeft
  show Sim c m _ (abs m, if Km354.PLANES ≤ a then _ else match (abs m).day d with | .inl v => _ | .inr d => _)
  by_cases ha : a < 16
  · rw [if_neg (show ¬ Km354.PLANES ≤ a by unfold Km354.PLANES; omega)]
    cases hd : isDate d with
    | false =>
      rw [if_pos (by simp), day_none hd]
      exact sim_err rfl
    | true =>
      rw [if_neg (by simp [ha])]
      by_cases hb : numberOf d < m.last
      · rw [if_pos hb, day_before hd hb]
        exact sim_err rfl
      · rw [if_neg hb, day_ok hd hb]
        refine sim_ok rfl ?_ (g.mono (Nat.le_succ _))
        show (((abs m).aboard a).length : Int) :: Km354Neutral.nums ((abs m).lefts a (numberOf d - BASE)) = _
        rw [aboard_len g ha, ← left_is g ha hd hb]
  · rw [if_pos (show Km354.PLANES ≤ a by unfold Km354.PLANES; omega), if_pos (by simp [ha])]
    exact sim_err rfl
theorem sim_of (g : Good c m) (i : Nat) : Sim c m (doOf m i) (Km354.act (abs m) (.of_ i)) := by
  unfold doOf
  show Sim c m _ (abs m, match (abs m).parts[i]? with | none => _ | some p => _)
  by_cases hi : i < m.parts.length
  · rw [if_neg (not_not_intro hi), absPart_some hi]
    have q := g.parts _ (part_mem hi)
    refine sim_ok rfl ?_ (g.mono (Nat.le_succ _))
    show (0 : Int) :: Km354Neutral.nums [(m.part i).kind, (onA (m.part i).plane).getD 255, (m.part i).minutes, (m.part i).landings] = _
    have e : (onA (m.part i).plane).getD 255 = (m.part i).plane := by
      unfold onA
      by_cases z : (m.part i).plane = 255
      · rw [if_pos z, z]; rfl
      · rw [if_neg z]; rfl
    rw [e]
    rfl
  · rw [if_pos hi, absPart_none hi]
    exact sim_err rfl
/-! ### ft_start -/
theorem abs_new (l : List MKind) : abs (M.new l) = Km354.book0 (l.map kindA) := by
  unfold abs M.new Km354.book0
  simp only [List.map_nil, List.map_replicate]
  rfl
theorem good_new {l : List MKind} (h : ∀ k ∈ l, GoodKind k) (n : l.length ≤ 16) (c : Nat) : Good c (M.new l) := by
  refine ⟨h, n, fun p hp => (by cases hp), Nat.zero_le _, by unfold M.new; simp, fun p hp => ?_⟩
  have : p = MPlane.zero := List.eq_of_mem_replicate hp
  subst this
  exact Nat.zero_le _
end
end FB
/-! The own error Refused: made, raised, its field read (turned from skel/42_own_error_by_import). -/
namespace PySem
namespace LowX
open PySem.W PySem.Calls PyProof.Rows PySem.HandSPX
/-! ### the text of __init__ -/
def iA (p1 p2 : Pos) : Arguments := { posonlyargs := [], args := [{ arg := "self", annotation := none, pos := p1 }, { arg := "number", annotation := none, pos := p2 }], vararg := none, kwonlyargs := [], kw_defaults := [], kwarg := none, defaults := [] }
def iB (q1 q2 q3 q4 : Pos) : List Stmt := [.Assign [.Attribute (.Name "self" q1) "number" q2] (.Name "number" q3) q4]
def iS : Scope := { kind := .function, names := [(PySem.Str.ofString "self", .local), (PySem.Str.ofString "number", .local)], isGenerator := false, isCoroutine := false, more := [] }
/-- what the written part says of Low, at C, and of its __init__, at fI -/
structure LowTxt (K : Frag) (mg : Str → Option Value) (C fI : Addr) : Prop where
  gC : mg "Refused" = some (.ref C)
  cls : ∃ nm q N bs bm sn sub ab col dd k0 k1 k2 k3 k5, K.lookup C = some (excClassObj nm q C N bs bm true sn sub ab col dd k0 k1 k2 k3 k5 "ValueError.__new__") ∧ refsVE bm = true
  sa : findIn K (.ref C) "__setattr__" = some (some (.builtin "object.__setattr__"))
  ga : findIn K (.ref C) "__getattribute__" = some (some (.builtin "BaseException.__getattribute__"))
  gg : findIn K (.ref C) "__getattr__" = some none
  noN : findIn K (.ref C) "number" = some none
  iC : findIn K (.ref C) "__init__" = some (some (.ref fI))
  tC : typeIn K (.ref fI) = some (.type "function")
  kC : keepIn K (.ref C) = true
  exC : subIn K (.ref C) (.type "BaseException") = some true
  tyC : typeIn K (.ref C) = some (.type "type")
  hdC : hasDictIn K C = true
  te : exmOne K (.ref C) (.ref C) = some true
  fn : ∃ (oc : Value) (od : Option Addr) (doc pm : Value) (an : Option Addr) (cdv ct : Value) (osl : Array (Option Value)) (p1 p2 q1 q2 q3 q4 : Pos),
    K.lookup fI = some ⟨oc, od, .func (fnOf "__init__" "Refused.__init__" (iA p1 p2) (iB q1 q2 q3 q4) iS .none .none doc pm an cdv ct), osl⟩ ∧ codeIn K cdv "Refused.__init__" = true
theorem one_size (v : Value) : [v].length ≤ sizeLine := by
  rw [sizeLine_eq]
  exact (by decide : 1 ≤ 16777216)
theorem kept_but {K : Frag} {h h' : Heap} {x : Addr} (X : K.In h) (hx : K.lookup x = none) (k : ∀ b o, b ≠ x → h.get? b = some o → h'.get? b = some o) : K.In h' := fun a o e =>
  k a o (fun z => by rw [z, hx] at e; cases e) (X a o e)
theorem ldC {M : Model} {s : Shared} {name : Str} {scope : Scope} {L a : Addr} {cd : Value} {m : Str → Option Value} {x : Str} {pos : Pos} {v : Value} {Q : Value → Shared → Prop} {A : Around} {E : Value → Shared → Prop} (hn : s.heap.Ns L m) (hv : m x = some v) (h : Q v s)
    (hk : scope.kind = .function := by rfl) (hl : (envOfC name scope L a cd).kindOf x = some .local := by rfl) (hd : (x == ("__debug__" : Str)) = false := by decide) :
    wpAny M A (eval (.Name x pos) (envOfC name scope L a cd)) Q E s := wpAny_Name (wpAny_loadName_local hk hl hn hv h) hd
/-- what __init__ leaves of a fresh exception at x -/
structure InitEnd (h h' : Heap) (x C dx t1 : Addr) (v : Value) : Prop where
  keep : ∀ b o, b ≠ x → h.get? b = some o → h'.get? b = some o
  obj : h'.get? x = some { cls := .ref C, dict := some dx, data := .fields #[.ref t1, .none, .none, .none, .bool false, .none] }
  dbig : h.objs.size ≤ dx
  dne : dx ≠ x
  ns : h'.Ns1 dx (fun y => if y = "number" then some v else none)
/-- a made Low -/
structure OwnMade (h h' : Heap) (e C d : Addr) (v : Value) : Prop where
  keep : ∀ b o, h.get? b = some o → h'.get? b = some o
  new : h.objs.size ≤ e
  obj : ∃ oe vs, h'.get? e = some oe ∧ oe.cls = .ref C ∧ oe.dict = some d ∧ oe.data = .fields vs ∧ vs[1]? = some .none
  dbig : h.objs.size ≤ d
  dne : d ≠ e
  ns : h'.Ns1 d (fun y => if y = "number" then some v else none)
section
variable {prog : Program} {w : World} {A : Around} {E : Value → Shared → Prop} {R : Result → Shared → Prop} {s : Shared} {K : Frag} {mg : Str → Option Value} {C fI : Addr}
theorem low_init (T : LowTxt K mg C fI) {x t0 : Addr} {v : Value} (X : K.In s.heap) (hlim : s.heap.NoLimit) (hx : s.heap.get? x = some (excO C t0)) (hnx : K.lookup x = none) (hroom : A.depth < recursionLimit)
    (hq : ∀ h' tk dx, InitEnd s.heap h' x C dx t0 v → R (.ok (.ret .none)) { s with heap := h', toks := tk }) :
    codeAny (model prog w) A (.call (.ref fI) ⟨[.ref x, v], []⟩) R s := by
  obtain ⟨oc, od, doc, pm, an, cdv, ct, osl, p1, p2, q1, q2, q3, q4, ho, hcd⟩ := T.fn
  obtain ⟨nm, q, N, bs, bm, sn, sub, ab, col, dd, k0, k1, k2, k3, k5, hC, hbm⟩ := T.cls
  have hcl : clsIn K C = some { name := nm, bases := bs, mro := .ref C :: bm, ns := N, qualname := q, hasDict := true, slotNames := sn, subclasses := sub, abstract := ab, collection := col, hasDel := false } := by unfold clsIn; rw [hC] <;> rfl
  refine Att.call_fn (binds := [("self", .ref x), ("number", v)]) X hlim ho hcd hroom (BindsTo.of_eq (by first | rfl | with_unfolding_all rfl)) (by first | rfl | decide | with_unfolding_all rfl) (fun s₁ IC => ?_) rfl rfl rfl
  obtain ⟨h₁, tk₁, rfl⟩ := IC.toInCall.same
  have k : ∀ b o, s.heap.get? b = some o → h₁.get? b = some o := IC.toInCall.keep
  have hn := IC.toInCall.ns
  have hxL : s.heap.objs.size ≠ x := Nat.ne_of_gt (Heap.lt_size hx)
  have X₁ : K.In h₁ := X.keeps k
  have hx₁ := k _ _ hx
  -- self.by = by
  show wpAny _ _ (execs _ _) _ _ _
  refine wpAny_execs_cons (plainObj_wpAny_Assign_Attribute ?_)
  refine ldC (v := v) hn (by first | rfl | with_unfolding_all rfl | kernel_rfl) (ldC (v := .ref x) hn (by first | rfl | with_unfolding_all rfl | kernel_rfl) ?_)
  refine set_plain X₁ (ox := excO C t0) (od := none) ⟨hx₁, rfl, rfl, trivial⟩ T.sa ?_
  refine exc_osa X₁ hx₁ hcl (show refsVE (.ref C :: bm) = true from hbm) rfl T.noN (fun h₃ tk₃ dx k₃ dn dne hx₃ hn₃ => ?_)
  show wpAny _ _ (execs _ _) _ _ _
  have z : s.heap.objs.size < h₁.objs.size := hn.lt
  exact wpAny_execs_nil (hq h₃ tk₃ dx ⟨fun b o hb e => k₃ b o hb (k b o e), hx₃, Nat.le_of_lt (Nat.lt_of_lt_of_le z dn), dne, hn₃⟩)
theorem low_made (T : LowTxt K mg C fI) {v : Value} (X : K.In s.heap) (hlim : s.heap.NoLimit) (hroom : A.depth + 1 < recursionLimit)
    (hq : ∀ h' tk e d, OwnMade s.heap h' e C d v → R (.ok (.ret (.ref e))) { s with heap := h', toks := tk }) :
    codeAny (model prog w) A (.call (.ref C) ⟨[v], []⟩) R s := by
  obtain ⟨nm, q, N, bs, bm, sn, sub, ab, col, dd, k0, k1, k2, k3, k5, hC, hbm⟩ := T.cls
  obtain ⟨hp, g, dr, tk, os⟩ := s
  have k : ∀ b o, hp.get? b = some o → ((hp.push (kdv_tup [v])).push (excO C hp.objs.size)).get? b = some o := fun b o e => Heap.get?_push_of_some _ (Heap.get?_push_of_some _ e)
  have hget : ((hp.push (kdv_tup [v])).push (excO C hp.objs.size)).get? (hp.objs.size + 1) = some (excO C hp.objs.size) := by heap_get
  have hnx : K.lookup (hp.objs.size + 1) = none := by
    cases e : K.lookup (hp.objs.size + 1) with
    | none => rfl
    | some o =>
      have z : hp.get? (hp.objs.size + 1) = some o := X _ _ e
      exact absurd (Nat.lt_of_succ_lt (Heap.lt_size z)) (Nat.lt_irrefl _)
  refine call_own F.excBase_ValueError (fun X => refsVE_contains X bm hbm) (X _ _ hC) (looks_findIn X T.iC) (fun self => bind_fn X self T.tC) (one_size v) ?_
  refine low_init (s := ⟨(hp.push (kdv_tup [v])).push (excO C hp.objs.size), g, dr, tk, os⟩) T (X.keeps k) (hlim.keeps k) hget hnx ?_ fun h' tk' dx ⟨k', hx, dn, dne, hns⟩ => ?_
  · show A.depth + 1 < recursionLimit
    exact hroom
  · have old : ∀ b o, hp.get? b = some o → h'.get? b = some o := fun b o e => k' b o (Nat.ne_of_lt (Nat.lt_succ_of_lt (Heap.lt_size e))) (k b o e)
    have z : hp.objs.size + 1 + 1 ≤ dx := by
      first
        | (simpa only [Heap.size_push] using dn)
        | exact dn
        | (have q := dn; rw [Heap.size_push, Heap.size_push] at q; exact q)
    exact ⟨rfl, hq h' tk' (hp.objs.size + 1) dx ⟨old, Nat.le_succ _, ⟨_, _, hx, rfl, rfl, rfl, rfl⟩, Nat.le_trans (Nat.le_trans (Nat.le_succ _) (Nat.le_succ _)) z, dne, hns⟩⟩
end
end LowX
end PySem
namespace L2
open PySem PySem.Spec PyProof.Rows
theorem relO_low {v : V} {v' : Value} (r : RelV v v') (f : Str) : RelO (List.lookup f [(("number" : Str), v)]) (if f = "number" then some v' else none) := by
  by_cases hw : f = "number"
  · subst hw
    rw [if_pos rfl]
    have q : List.lookup ("number" : Str) [(("number" : Str), v)] = some v := by simp [List.lookup]
    rw [q]
    exact r
  · rw [if_neg hw]
    have qw : (f == ("number" : Str)) = false := by simpa using hw
    have q2 : List.lookup f [(("number" : Str), v)] = none := by simp [List.lookup, qw]
    rw [q2]
    trivial
section
variable {X : Cx} {C fI : Addr}
/-- Low(e) -/
def tMkLow (C : Addr) (ta : TA) : St → Hp → XK → Prop := fun σ H Q => ta σ H fun vs H1 => ∃ v, vs = [v] ∧ ∀ d, H1 d = none → Q (.ref C) (some d) (upd H1 d (.xd [(("number" : Str), v)]))
theorem pmk_low {a : Expr} {ta : TA} {p pos : Pos} {k : Nat} (T : PySem.LowX.LowTxt X.K X.mg C fI) (hr : Room k X.A) (ha : PA X [a] ta) (hg : Gl X "Refused" := by rfl)
    (he : starEach (a :: []) X.env = (false, eval a X.env) :: starEach [] X.env := by rfl) (hpl : (backTo pos (starEach [] X.env)).any (·.1) = false := by rfl) :
    PMk X (.Call (.Name "Refused" p) [a] [] pos) (tMkLow C ta) := by
  intro pins s σ H Q I h
  refine wpAny_Call_Name_kw (ld_glob I hg T.gC ?_)
  refine PySem.W.callWith_K (h₀ := X.base) I.ok.mod.kin T.kC (thn (ha.run pos pins s σ H _ I h) fun us s1 hh => ?_) he hpl
  obtain ⟨vs, H1, I1, r1, v, ev, q1⟩ := hh
  subst ev
  refine ⟨I1.kIn, ?_⟩
  cases r1 with
  | cons rv rn =>
    rename_i v' us'
    cases rn
    show wpAny _ _ (call (.ref C) [v']) _ _ _
    have hlim := I1.nolimit
    obtain ⟨hp, g, dr, tk, os⟩ := s1
    refine wpAny_call (PySem.LowX.low_made T I1.kIn hlim (by have := hr.dp; omega) fun h' tk' e d M => ?_)
    show MkP X pins σ Q (.ref e) ⟨h', g, dr, tk', os⟩
    obtain ⟨oe, fv, hoe, hc, hd, hdat, h1⟩ := M.obj
    have hns := M.ns
    obtain ⟨G', g1, g2⟩ := restrict h' fun b => decide (b ≠ e)
    have gk : ∀ b, b ≠ e → G'.get? b = h'.get? b := fun b hb => g1 b (decide_eq_true hb)
    have ge : G'.get? e = none := g2 e (by simp)
    have old : ∀ b o, hp.get? b = some o → G'.get? b = some o := fun b o q => (gk b (Nat.ne_of_lt (Nat.lt_of_lt_of_le (Heap.lt_size q) M.new))).trans (M.keep b o q)
    have ob : ObjOk X.prog X.w (upd H1 d (.xd [(("number" : Str), v)])) G' d (.xd [(("number" : Str), v)]) :=
      ⟨_, hns.at (fun o q => (gk d M.dne).trans q), fun f => relO_low rv f⟩
    have J : Inv X pins σ (upd H1 d (.xd [(("number" : Str), v)])) ⟨G', g, dr, tk', os⟩ := I1.laid (t' := tk') old M.dbig ob
    refine ⟨e, oe, fv, ⟨G', g, dr, tk', os⟩, _, .ref C, some d, rfl, J, fun b o q => ?_, ge, hoe, ⟨hc, hd⟩, hdat, h1, ?_, rfl, I1.bare, raises_own T.exC T.tyC, q1 d (I1.hok.fresh M.dbig)⟩
    · by_cases hb : b = e
      · have q' : G'.get? b = some o := q
        rw [hb, ge] at q'; cases q'
      · exact (gk b hb).symm.trans q
    · rw [upd_ne (Ne.symm M.dne)]
      exact I1.hok.fresh M.new
/-- raise Low(e) -/
def tRaiseLow (C : Addr) (W : WX) (ta : TA) : TS := fun _ σ H => tMkLow C ta σ H fun cls d H' => W cls d σ H'
theorem ps_raiseLow {a : Expr} {ta : TA} {W : WX} {p pos pos2 : Pos} {k : Nat} (hc : X.calm = true) (T : PySem.LowX.LowTxt X.K X.mg C fI) (hr : Room k X.A) (tk : Takes X W) (ha : PA X [a] ta) (hg : Gl X "Refused" := by rfl)
    (he : starEach (a :: []) X.env = (false, eval a X.env) :: starEach [] X.env := by rfl) (hpl : (backTo pos (starEach [] X.env)).any (·.1) = false := by rfl) :
    PS X (.Raise (some (.Call (.Name "Refused" p) [a] [] pos)) none pos2) (tRaiseLow C W ta) := ps_raise hc tk (pmk_low T hr ha hg he hpl)
/-- low.by, low the exception that the suite holds (at a; its class cls, its dict d) -/
def tByLow (C : Addr) (a : Addr) (cls : Value) (d : Option Addr) (te : TE) : TE := fun σ H Q => te σ H fun x H1 => x = .ref a ∧ cls = .ref C ∧ ∃ (dd : Addr) (v : V), d = some dd ∧ H1 dd = some (.xd [(("number" : Str), v)]) ∧ Q v H1
theorem pe_byLow {a : Addr} {oe : Obj} {cls : Value} {d : Option Addr} {pn : List (Addr × Obj)} {e : Expr} {te : TE} {pos : Pos} (T : PySem.LowX.LowTxt X.K X.mg C fI) (hz : Zc cls d oe) (hf : ∃ vs, oe.data = .fields vs) (he : PE (X.suite a ((a, oe) :: pn)) e te)
    (hb : attributeBase e "number" X.env (eval e X.env) = eval e X.env := by rfl) :
    PE (X.suite a ((a, oe) :: pn)) (.Attribute e "number" pos) (tByLow C a cls d te) := by
  refine ⟨fun pins s σ H Q I h => ?_⟩
  refine attr_of hb (thn (he.run pins s σ H _ I h) fun u s1 hh => ?_)
  obtain ⟨x, H1, I1, rx, ex, ec, dd, v, ed, ea, q⟩ := hh
  subst ex
  obtain rfl : u = Value.ref a := rx
  subst ec
  subst ed
  obtain ⟨ha, _⟩ := I1.pin (a, oe) (List.mem_append_left _ List.mem_cons_self)
  obtain ⟨vs, hd⟩ := hf
  have hx : ObjOk X.prog X.w H1 s1.heap dd (.xd [(("number" : Str), v)]) := I1.hok dd _ ea
  obtain ⟨mA, hns, hr⟩ := hx
  obtain ⟨od, ho, hl⟩ := lookIn_ns hns
  have l : List.lookup ("number" : Str) [(("number" : Str), v)] = some v := by simp [List.lookup]
  obtain ⟨u, hu, ru⟩ := RelO.some_of (v := v) (o := mA "number") (by rw [← l]; exact hr "number")
  have J : PySem.W.InstAt s1.heap a oe C (some od) := ⟨ha, hz.1, by unfold PySem.W.notCls; rw [hd] <;> rfl, by rw [hz.2]; exact ho⟩
  exact HandSPX.exc_get I1.kIn J T.ga T.gg T.exC (PySem.W.findObj_own T.hdC T.noN rfl (by rw [hl, hu])) (handed_of ru) ⟨v, H1, I1.tok _, ru, q⟩
end
end L2

/-! Words of this claim over the hand layer: what fields, chains, list stores with an operator, refusals, a def in a slot, a written dict with int keys ask. -/
namespace FBW
open PySem PySem.Spec PyProof.Rows L2 Evl
/-! ### rules -/
section
variable {X : Cx}
theorem op_eqI : OpR X (compareOp .Eq) (rI0 fun i j => .bl (decide (i = j))) := opB0 fun _ _ _ _ _ _ _ q => eq_int (by rw [Bool.beq_eq_decide_eq]; exact q)
theorem op_neI : OpR X (compareOp .NotEq) (rI0 fun i j => .bl (!decide (i = j))) := opB0 fun _ _ _ _ _ _ _ q => ne_int (by rw [bne, Bool.beq_eq_decide_eq]; exact q)
/-- o[i] of a list, by values -/
theorem get_list : PGet X (rIxL X.K) := fun pins s σ H x y v u Q I rx ry h => by
  rcases h with ⟨pa, ys, ix, val, ex, ey, sq, here, wish⟩
  subst ex ey
  cases rx
  cases ry with
  | intro tok e =>
    subst e
    rcases I.list sq with ⟨itms, rel, pln, _⟩
    rcases atI_get here with ⟨nat, toNat, atNat, lt, low, high⟩
    rcases rel.get atNat with ⟨there, eThere, rThere⟩
    have len := rel.length
    have big := line63
    have goal : EP X pins σ Q there s := ⟨val, H, I, rThere, wish⟩
    rcases Int.lt_or_le ix 0 with neg | pos
    · have same : (ix + (itms.toArray.size : Int)).toNat = nat := by
        rw [List.size_toArray, ← len]
        exact Option.some.inj ((seqIndex_neg (by omega) low).symm.trans toNat)
      exact wpAny_getItem_list_neg pln.isList neg (by rw [List.size_toArray] <;> omega) (by omega) (by rw [same]; simpa using eThere) goal
    · have same : ix.toNat = nat := Option.some.inj ((seqIndex_of pos high).symm.trans toNat)
      exact wpAny_getItem_list pln.isList pos (by omega) (by rw [same]; simpa using eThere) goal
/-! a written dict whose keys are ints -/
def KeysInt : List DictEntry → Prop
  | [] => True
  | e :: r => (∃ k t, e.key = .int k t ∧ e.hash = hashInt k) ∧ KeysInt r
theorem KeysInt.all {l : List DictEntry} (h : KeysInt l) : ∀ e ∈ l, ∃ k t, e.key = .int k t ∧ e.hash = hashInt k := by
  induction l with
  | nil => exact fun _ he => nomatch he
  | cons d r ih =>
    intro e he
    rcases List.mem_cons.1 he with q | q
    · exact q ▸ h.1
    · exact ih h.2 e q
def KDctI (K : PySem.W.Frag) (a : Addr) (k : Int) (v : V) : Prop :=
  ∃ es n u, K.lookup a = some ⟨.type "dict", none, .dict es n, #[]⟩ ∧ KeysInt es.toList ∧ findBy Value.isInt es k = some u ∧ RelV v u
def rIxDI (K : PySem.W.Frag) : R2 := fun x y H Q => ∃ p k v, x = .ref p ∧ y = .int k ∧ KDctI K p k v ∧ Q v H
theorem mapOf_int {prog : Program} {w : World} {h : Heap} {K : PySem.W.Frag} {a : Addr} {es : Array DictEntry} {n : Nat} (X : K.In h) (hl : K.lookup a = some ⟨.type "dict", none, .dict es n, #[]⟩) (hk : KeysInt es.toList) : h.MapOf (PySem.intKind prog w) a (fun k => findBy Value.isInt es k) := by
  refine ⟨_, es, n, X a _ hl, ⟨rfl, rfl, rfl⟩, rfl, fun en hen => ?_, fun _ => rfl⟩
  rcases hk.all en (Array.mem_toList_iff.2 hen) with ⟨key, tok, eKey, eHash⟩
  refine ⟨key, ?_, eHash⟩
  rw [eKey]
  simp [PySem.intKind, Value.isInt]
theorem ix_kdictI : IxR X (rIxDI X.K) := fun value slice pins s σ H x y v u Q I rx ry h hs => by
  rcases h with ⟨pa, key, res, ex, ey, ⟨ents, cnt, val, look, keys, found, rel⟩, wish⟩
  subst ex ey
  cases ry with
  | intro tok e =>
    subst e
    cases (show v = Value.ref pa from rx)
    have map := mapOf_int (prog := X.prog) (w := X.w) I.kIn look keys
    have isKey : (PySem.intKind X.prog X.w).is key (.int key tok) = true := by simp [PySem.intKind, Value.isInt]
    exact tail_any map.typeIs slot_dict_getitem.lookup (wpAny_getItem_of isKey map found ⟨res, H, I.tok _, rel, wish⟩) hs
/-! a def in a slot, of several; it may raise, and what it raises is wished for at the slots -/
structure HeldX (P : Program) (w : World) (K : PySem.W.Frag) (mg : Str → Option Value) (base : Heap) (CX : CXT) (k : Nat) (f : Addr) (sp : Sp) : Prop where
  ex : ∃ (fd : FuncData) (ps : List Str), FnOk P w K mg base CX k f fd ps sp ∧ PySem.W.keepIn K (.ref f) = true ∧ Binds K fd ps []
def tCallAX (i : Nat) (S : Addr → Sp → Prop) (E : L2.St → XK) (t : TA) : TE := fun σ H Q => ∃ f sp, σ[i]? = some (some (.ref f)) ∧ S f sp ∧ t σ H fun vs H1 => sp vs H1 Q (E σ)
theorem pe_callAX {CX : CXT} {k i : Nat} {x : Str} {p pos : Pos} {e : Expr} {es : List Expr} {t : TA} {E : L2.St → XK} {S : Addr → Sp → Prop} (A : ∀ f sp, S f sp → HeldX X.prog X.w X.K X.mg X.base CX k f sp) (hr : Room k X.A) (hN : X.N[i]? = some x) (hv : Vis X.env.scope x) (hx : ∀ σ, PassesAt CX X σ (E σ)) (ha : PA X (e :: es) t)
    (hdb : (x == ("__debug__" : Str)) = false := by decide)
    (hcd : (x == ("__classdict__" : Str)) = false := by decide) (he : starEach (e :: es) X.env = (false, eval e X.env) :: starEach es X.env := by rfl)
    (hpl : (backTo pos (starEach es X.env)).any (·.1) = false := by rfl) : PE X (.Call (.Name x p) (e :: es) [] pos) (tCallAX i S E t) := ⟨fun pins s σ H Q I h => by
  rcases h with ⟨fn, prom, slot, isS, args⟩
  rcases (A fn prom isS).ex with ⟨dat, names, ok, keep, bnd⟩
  have name := (pe_var (X := X) (pos := p) hN hv hdb hcd).run pins s σ H (fun v H1 => v = .ref fn ∧ H1 = H) I ⟨.ref fn, slot, rfl, rfl⟩
  refine wpAny_Call_Name_kw (thn name fun u0 s0 got => ?_)
  rcases got with ⟨v0, H0, I0, rel0, ev0, eH0⟩
  subst ev0 eH0
  cases rel0
  have all := ha.run pos pins s0 σ _ _ I0 args
  refine PySem.W.callWith_K (h₀ := X.base) I.ok.mod.kin keep (thn all fun us s3 got => ?_) he hpl
  rcases got with ⟨ws, H3, I3, rel3, wish⟩
  exact ⟨I3.kIn, run_fnS ok hr bnd (hx σ) I3 rel3 wish⟩⟩
end
/-! ### values -/
section
variable {K : PySem.W.Frag} {σ : L2.St} {H H' : Hp} {ta tb tc te tx tv : TE} {t u : TT} {x y z v : V} {r r' : R2} {D : Ends} {tu tw tz : TS} {a C dx : Addr} {fs : List (Str × V)} {f : Str}
theorem ev_fld (ha : Ev ta σ H (.ref a)) (ho : H a = some (.ins C dx fs)) (hc : Cls K C) (hn : NoAttr K C f) (hl : fs.lookup f = some v) : Ev (tFld K ta f) σ H v := fun H1 e Q q =>
  ha H1 e _ fun H2 e2 => ⟨a, C, dx, fs, v, rfl, e2 _ _ (e _ _ ho), hc, hn, hl, q H2 e2⟩
theorem ev_chain {b c : Bool} (ha : Ev ta σ H x) (hb : Ev tb σ H y) (hc : Ev tc σ H z) (hr : RV r x y H (.bl b)) (hr' : RV r' y z H (.bl c)) : Ev (tChain r r' ta tb tc) σ H (.bl (b && c)) := fun H1 e Q q =>
  ha H1 e _ fun H2 e2 => hb H2 (e.trans e2) _ fun H3 e3 => hr H3 ((e.trans e2).trans e3) _ fun H4 e4 => ⟨b, rfl, by
    cases b with
    | true =>
      show tc σ H4 _
      exact hc H4 (((e.trans e2).trans e3).trans e4) _ fun H5 e5 => hr' H5 ((((e.trans e2).trans e3).trans e4).trans e5) Q fun H6 e6 => q H6 ((((e2.trans e3).trans e4).trans e5).trans e6)
    | false =>
      show Q (.bl false) H4
      exact q H4 ((e2.trans e3).trans e4)⟩
theorem ev_bl {b c : Bool} (h : Ev te σ H (.bl b)) (e : b = c) : Ev te σ H (.bl c) := e ▸ h
theorem ev_in {i j : Int} (h : Ev te σ H (.int i)) (e : i = j) : Ev te σ H (.int j) := e ▸ h
theorem ev_add {i j : Int} (ha : Ev ta σ H (.int i)) (hb : Ev tb σ H (.int j)) : Ev (tOp (rI0 fun i j => .int (i + j)) ta tb) σ H (.int (i + j)) := ev_op ha hb rv_I0
theorem ev_sub {i j : Int} (ha : Ev ta σ H (.int i)) (hb : Ev tb σ H (.int j)) : Ev (tOp (rI0 fun i j => .int (i - j)) ta tb) σ H (.int (i - j)) := ev_op ha hb rv_I0
theorem ev_mul {i j : Int} (ha : Ev ta σ H (.int i)) (hb : Ev tb σ H (.int j)) (hc : CMul i j) : Ev (tOp (rI CMul fun i j => .int (i * j)) ta tb) σ H (.int (i * j)) := ev_op ha hb (rv_I hc)
theorem ev_div {i j : Int} (ha : Ev ta σ H (.int i)) (hb : Ev tb σ H (.int j)) (hc : CDiv i j) : Ev (tOp (rI CDiv fun i j => .int (i / j)) ta tb) σ H (.int (i / j)) := ev_op ha hb (rv_I hc)
theorem ev_mod {i j : Int} (ha : Ev ta σ H (.int i)) (hb : Ev tb σ H (.int j)) (hc : 0 < j) : Ev (tOp (rI (fun _ j => 0 < j) fun i j => .int (i % j)) ta tb) σ H (.int (i % j)) := ev_op ha hb (rv_I hc)
theorem ev_lt {i j : Int} (ha : Ev ta σ H (.int i)) (hb : Ev tb σ H (.int j)) : Ev (tOp (rI0 fun i j => .bl (decide (i < j))) ta tb) σ H (.bl (decide (i < j))) := ev_op ha hb rv_I0
theorem ev_le {i j : Int} (ha : Ev ta σ H (.int i)) (hb : Ev tb σ H (.int j)) : Ev (tOp (rI0 fun i j => .bl (decide (i ≤ j))) ta tb) σ H (.bl (decide (i ≤ j))) := ev_op ha hb rv_I0
theorem ev_gt {i j : Int} (ha : Ev ta σ H (.int i)) (hb : Ev tb σ H (.int j)) : Ev (tOp (rI0 fun i j => .bl (decide (j < i))) ta tb) σ H (.bl (decide (j < i))) := ev_op ha hb rv_I0
theorem ev_ge {i j : Int} (ha : Ev ta σ H (.int i)) (hb : Ev tb σ H (.int j)) : Ev (tOp (rI0 fun i j => .bl (decide (j ≤ i))) ta tb) σ H (.bl (decide (j ≤ i))) := ev_op ha hb rv_I0
theorem ev_eq {i j : Int} (ha : Ev ta σ H (.int i)) (hb : Ev tb σ H (.int j)) : Ev (tOp (rI0 fun i j => .bl (decide (i = j))) ta tb) σ H (.bl (decide (i = j))) := ev_op ha hb rv_I0
theorem ev_ne {i j : Int} (ha : Ev ta σ H (.int i)) (hb : Ev tb σ H (.int j)) : Ev (tOp (rI0 fun i j => .bl (!decide (i = j))) ta tb) σ H (.bl (!decide (i = j))) := ev_op ha hb rv_I0
/-- xs[i] -/
theorem ev_ixL {p : Addr} {xs : List V} {j : Nat} (ha : Ev ta σ H (.ref p)) (hb : Ev tb σ H (.int (j : Int))) (h : SqL K H p xs) (hx : xs[j]? = some v) : Ev (tOp (rIxL K) ta tb) σ H v := ev_op ha hb (rv_ixL h (atI_nat hx))
theorem ev_ixT {p : Addr} {xs : List V} {j : Nat} (ha : Ev ta σ H (.ref p)) (hb : Ev tb σ H (.int (j : Int))) (h : SqT K H p xs) (hx : xs[j]? = some v) : Ev (tOp (rIxT K) ta tb) σ H v := ev_op ha hb (rv_ixT h (atI_nat hx))
theorem ev_ixDI {p : Addr} {k : Int} (ha : Ev ta σ H (.ref p)) (hb : Ev tb σ H (.int k)) (h : KDctI K p k v) : Ev (tOp (rIxDI K) ta tb) σ H v :=
  ev_op ha hb fun H1 e Q q => ⟨p, k, v, rfl, rfl, h, q H1 (Ex.refl H1)⟩
theorem rv_isN : RV (fun x y H Q => y = .non ∧ Q (.bl (decide (x = .non))) H) x .non H (.bl (decide (x = .non))) := fun H1 _ _ q => ⟨rfl, q H1 (Ex.refl H1)⟩
theorem rv_notN : RV (fun x y H Q => y = .non ∧ Q (.bl (!decide (x = .non))) H) x .non H (.bl (!decide (x = .non))) := fun H1 _ _ q => ⟨rfl, q H1 (Ex.refl H1)⟩
/-- min, max of two -/
theorem rc_max {i j : Int} : RC (fun xs H Q => ∃ i j, xs = [.int i, .int j] ∧ Q (.int (if j > i then j else i)) H) [.int i, .int j] H (.int (max i j)) := fun H1 _ Q q => ⟨i, j, rfl, by
  have e : (if j > i then j else i) = max i j := by rw [Int.max_def]; split <;> split <;> omega
  rw [e]
  exact q H1 (Ex.refl H1)⟩
theorem rc_min {i j : Int} : RC (fun xs H Q => ∃ i j, xs = [.int i, .int j] ∧ Q (.int (if j < i then j else i)) H) [.int i, .int j] H (.int (min i j)) := fun H1 _ Q q => ⟨i, j, rfl, by
  have e : (if j < i then j else i) = min i j := by rw [Int.min_def]; split <;> split <;> omega
  rw [e]
  exact q H1 (Ex.refl H1)⟩
/-- int(flag) -/
theorem rc_int_bl {b : Bool} : RC (fun xs H Q => (∃ i, xs = [.int i] ∧ Q (.int i) H) ∨ ∃ k, xs = [.bl k] ∧ Q (.int (if k then 1 else 0)) H) [.bl b] H (.int (if b then 1 else 0)) := fun H1 _ Q q => .inr ⟨b, rfl, q H1 (Ex.refl H1)⟩
/-- a list + a list -/
theorem el_cat {xs ys : List V} {b : Addr} (ha : EvL ta σ H xs) (hb : Ev tb σ H (.ref b)) (hy : H b = some (.lst ys)) (hz : xs.length + ys.length ≤ 100000) : EvL (tOp rCat ta tb) σ H (xs ++ ys) := fun H1 e Q q =>
  ha H1 e _ fun p H2 _ e2 hp => hb H2 (e.trans e2) _ fun H3 e3 => ⟨p, b, xs, ys, rfl, rfl, e3 _ _ hp, e3 _ _ (e2 _ _ (e _ _ hy)), sz_of hz, fun c hc => q c _ (fresh_back (e2.trans e3) hc) ((e2.trans e3).trans (Ex.new hc)) upd_same⟩
theorem el_catN {xs ys : List V} (ha : EvL ta σ H xs) (hb : EvL tb σ H ys) (hz : xs.length + ys.length ≤ 100000) : EvL (tOp rCat ta tb) σ H (xs ++ ys) := fun H1 e Q q =>
  ha H1 e _ fun p H2 _ e2 hp => hb H2 (e.trans e2) _ fun b H3 _ e3 hb => ⟨p, b, xs, ys, rfl, rfl, e3 _ _ hp, hb, sz_of hz, fun c hc => q c _ (fresh_back (e2.trans e3) hc) ((e2.trans e3).trans (Ex.new hc)) upd_same⟩
theorem ev_lenL {p : Addr} {xs : List V} (ha : Ev ta σ H (.ref p)) (h : H p = some (.lst xs)) : Ev (tCB (rLenS K) (tCons ta tNil)) σ H (.int (xs.length : Int)) := ev_len ha (sq_of h)
theorem EvL.to {xs ys : List V} (h : EvL te σ H xs) (e : xs = ys) : EvL te σ H ys := e ▸ h
/-! ### statements -/
/-- self.f = e -/
theorem s_fld (h : Ev tv σ H y) (ha : Ev ta σ H (.ref a)) (ho : H a = some (.ins C dx fs)) (hc : Cls K C) (hn : NoAttr K C f) (hl : fs.length < 1000) (k : ∀ H1, Ex H H1 → D.nx σ (upd H1 a (.ins C dx (putF f y fs)))) : sFld K ta tv f D σ H :=
  h H (Ex.refl H) _ fun H1 e1 => ha H1 e1 _ fun H2 e2 => ⟨a, C, dx, fs, rfl, e2 _ _ (e1 _ _ ho), hc, hn, hl, k H2 (e1.trans e2)⟩
theorem q_fld (h : Ev tv σ H y) (ha : Ev ta σ H (.ref a)) (ho : H a = some (.ins C dx fs)) (hc : Cls K C) (hn : NoAttr K C f) (hl : fs.length < 1000) (k : ∀ H1, Ex H H1 → tz D σ (upd H1 a (.ins C dx (putF f y fs)))) : tSeq (sFld K ta tv f) tz D σ H :=
  s_fld (D := { D with nx := tz D }) h ha ho hc hn hl k
/-- self.f = a new list -/
theorem s_fldL {xs : List V} (h : EvL tv σ H xs) (ha : Ev ta σ H (.ref a)) (ho : H a = some (.ins C dx fs)) (hc : Cls K C) (hn : NoAttr K C f) (hl : fs.length < 1000) (k : ∀ p H1, H p = none → Ex H H1 → H1 p = some (.lst xs) → D.nx σ (upd H1 a (.ins C dx (putF f (.ref p) fs)))) : sFld K ta tv f D σ H :=
  h H (Ex.refl H) _ fun p H1 hp e1 h1 => ha H1 e1 _ fun H2 e2 => ⟨a, C, dx, fs, rfl, e2 _ _ (e1 _ _ ho), hc, hn, hl, k p H2 hp (e1.trans e2) (e2 _ _ h1)⟩
theorem q_fldL {xs : List V} (h : EvL tv σ H xs) (ha : Ev ta σ H (.ref a)) (ho : H a = some (.ins C dx fs)) (hc : Cls K C) (hn : NoAttr K C f) (hl : fs.length < 1000) (k : ∀ p H1, H p = none → Ex H H1 → H1 p = some (.lst xs) → tz D σ (upd H1 a (.ins C dx (putF f (.ref p) fs)))) : tSeq (sFld K ta tv f) tz D σ H :=
  s_fldL (D := { D with nx := tz D }) h ha ho hc hn hl k
/-- self.f += e -/
theorem s_fldaug {i j : Int} (ha : Ev ta σ H (.ref a)) (ho : H a = some (.ins C dx fs)) (hc : Cls K C) (hn : NoAttr K C f) (hk : fs.lookup f = some (.int i)) (h : Ev tv σ H (.int j)) (hl : fs.length < 1000) (k : ∀ H1, Ex H H1 → D.nx σ (upd H1 a (.ins C dx (putF f (.int (i + j)) fs)))) : sFldAug K ta tv rAdd f D σ H :=
  ha H (Ex.refl H) _ fun H1 e1 => ⟨a, C, dx, fs, _, rfl, e1 _ _ ho, hc, hn, hk, h H1 e1 _ fun H2 e2 => ⟨i, j, rfl, rfl, dx, fs, e2 _ _ (e1 _ _ ho), hl, k H2 (e1.trans e2)⟩⟩
theorem q_fldaug {i j : Int} (ha : Ev ta σ H (.ref a)) (ho : H a = some (.ins C dx fs)) (hc : Cls K C) (hn : NoAttr K C f) (hk : fs.lookup f = some (.int i)) (h : Ev tv σ H (.int j)) (hl : fs.length < 1000) (k : ∀ H1, Ex H H1 → tz D σ (upd H1 a (.ins C dx (putF f (.int (i + j)) fs)))) : tSeq (sFldAug K ta tv rAdd f) tz D σ H :=
  s_fldaug (D := { D with nx := tz D }) ha ho hc hn hk h hl k
/-- xs[i] += e -/
theorem s_lstaug {l : Addr} {xs : List V} {j : Nat} {i k : Int} (hl : H l = some (.lst xs)) (ho : Ev ta σ H (.ref l)) (hi : Ev tb σ H (.int (j : Int))) (hx : xs[j]? = some (.int i)) (h : Ev te σ H (.int k)) (q : ∀ H1, Ex H H1 → D.nx σ (upd H1 l (.lst (xs.set j (.int (i + k)))))) :
    tAugS ta tb te (rIxL K) (ipI fun i j => i + j) rSetL D σ H :=
  ho H (Ex.refl H) _ fun H1 e1 => hi H1 e1 _ fun H2 e2 => ⟨l, xs, _, _, rfl, rfl, sq_of (e2 _ _ (e1 _ _ hl)), atI_nat hx, h H2 (e1.trans e2) _ fun H3 e3 => ⟨i, k, rfl, rfl, l, xs, _, j, rfl, rfl, e3 _ _ (e2 _ _ (e1 _ _ hl)), ixN_nat (List.getElem?_eq_some_iff.mp hx).1, q H3 ((e1.trans e2).trans e3)⟩⟩
theorem q_lstaug {l : Addr} {xs : List V} {j : Nat} {i k : Int} (hl : H l = some (.lst xs)) (ho : Ev ta σ H (.ref l)) (hi : Ev tb σ H (.int (j : Int))) (hx : xs[j]? = some (.int i)) (h : Ev te σ H (.int k)) (q : ∀ H1, Ex H H1 → tz D σ (upd H1 l (.lst (xs.set j (.int (i + k)))))) :
    tSeq (tAugS ta tb te (rIxL K) (ipI fun i j => i + j) rSetL) tz D σ H := s_lstaug (D := { D with nx := tz D }) hl ho hi hx h q
/-- a, b = a list -/
theorem q_unl2 {l : Addr} {x y : V} {i j : Nat} (ha : Ev ta σ H (.ref l)) (hl : SqL K H l [x, y]) (k : ∀ H1, Ex H H1 → tz D ((σ.set i (some x)).set j (some y)) H1) :
    tSeq (tAsg ta (gLst K 2 (gCons (gName i) (gCons (gName j) gNil)))) tz D σ H :=
  ha H (Ex.refl H) _ fun H1 e1 => ⟨l, [x, y], rfl, ex_l e1 hl, rfl, x, [y], rfl, y, [], rfl, rfl, k H1 e1⟩
theorem q_unl3 {l : Addr} {x y z : V} {i j k : Nat} (ha : Ev ta σ H (.ref l)) (hl : SqL K H l [x, y, z]) (q : ∀ H1, Ex H H1 → tz D (((σ.set i (some x)).set j (some y)).set k (some z)) H1) :
    tSeq (tAsg ta (gLst K 3 (gCons (gName i) (gCons (gName j) (gCons (gName k) gNil))))) tz D σ H :=
  ha H (Ex.refl H) _ fun H1 e1 => ⟨l, [x, y, z], rfl, ex_l e1 hl, rfl, x, [y, z], rfl, y, [z], rfl, z, [], rfl, rfl, q H1 e1⟩
theorem q_unt2 {l : Addr} {x y : V} {i j : Nat} (ha : Ev ta σ H (.ref l)) (hl : SqT K H l [x, y]) (k : ∀ H1, Ex H H1 → tz D ((σ.set i (some x)).set j (some y)) H1) :
    tSeq (tAsg ta (gTup K 2 (gCons (gName i) (gCons (gName j) gNil)))) tz D σ H :=
  ha H (Ex.refl H) _ fun H1 e1 => ⟨l, [x, y], rfl, ex_t e1 hl, rfl, x, [y], rfl, y, [], rfl, rfl, k H1 e1⟩
end
/-! ### refusals -/
/-- a refusal by this number is what the def's own way out takes -/
def ErrK (CR : Addr) (n : Int) (H : Hp) (E : XK) : Prop := ∀ d H', Ex H H' → H' d = some (.xd [(("number" : Str), .int n)]) → E (.ref CR) (some d) H'
theorem ErrK.mono {CR : Addr} {n : Int} {H H' : Hp} {E : XK} (e : Ex H H') (h : ErrK CR n H E) : ErrK CR n H' E := fun d H1 e1 q => h d H1 (e.trans e1) q
def spAsk (CR : Addr) : Sp := fun vs H Q E => ∃ (b : Bool) (n : Int), vs = [.bl b, .int n] ∧ (b = true → ∀ H', Ex H H' → Q .non H') ∧ (b = false → ErrK CR n H E)
section
variable {K : PySem.W.Frag} {σ : L2.St} {H H' : Hp} {ta tb : TE} {D : Ends} {tz : TS} {CR : Addr} {E : XK}
theorem s_ask {b : Bool} {n : Int} (hb : Ev ta σ H (.bl b)) (hn : Ev tb σ H (.int n)) (k : b = true → ∀ H1, Ex H H1 → D.nx σ H1) (q : b = false → ErrK CR n H E) : tDrop (tCall (spAsk CR) [] E (tCons ta (tCons tb tNil))) D σ H :=
  show tCons ta (tCons tb tNil) σ H fun vs H1 => spAsk CR (vs ++ []) H1 (fun _ H1 => D.nx σ H1) E from
  (ea_cons hb (ea_cons hn ea_nil)) H (Ex.refl H) _ fun H1 e1 => ⟨b, n, rfl, fun h H2 e2 => k h H2 (e1.trans e2), fun h => (q h).mono e1⟩
theorem q_ask {b : Bool} {n : Int} (hb : Ev ta σ H (.bl b)) (hn : Ev tb σ H (.int n)) (k : b = true → ∀ H1, Ex H H1 → tz D σ H1) (q : b = false → ErrK CR n H E) : tSeq (tDrop (tCall (spAsk CR) [] E (tCons ta (tCons tb tNil)))) tz D σ H :=
  s_ask (D := { D with nx := tz D }) hb hn k q
end
/-- a promise's two ways: a value, or a refusal -/
def SpX (CR : Addr) (sp : Sp) (vs : List V) (H : Hp) (r : Except Int V) : Prop := ∀ H1, Ex H H1 → ∀ (Q : VK) (E : XK), (∀ v, r = .ok v → ∀ H2, Ex H1 H2 → Q v H2) → (∀ n, r = .error n → ErrK CR n H1 E) → sp vs H1 Q E
section
variable {K : PySem.W.Frag} {σ : L2.St} {H H' : Hp} {te : TE} {ta : TA} {D : Ends} {tz : TS} {CR : Addr} {E : XK} {sp : Sp} {vs : List V} {r : Except Int V}
theorem q_callX {i : Nat} (ha : EvA ta σ H vs) (hs : SpX CR sp (vs ++ []) H r) (k : ∀ v, r = .ok v → ∀ H1, Ex H H1 → tz D (σ.set i (some v)) H1) (q : ∀ n, r = .error n → ErrK CR n H E) : tSeq (tAsg (tCall sp [] E ta) (gName i)) tz D σ H :=
  show ta σ H fun vs H1 => sp (vs ++ []) H1 (fun v H1 => tz D (σ.set i (some v)) H1) E from
  ha H (Ex.refl H) _ fun H1 e1 => hs H1 e1 _ _ (fun v hv H2 e2 => k v hv H2 (e1.trans e2)) fun n hn => (q n hn).mono e1
theorem s_retX (ha : EvA ta σ H vs) (hs : SpX CR sp (vs ++ []) H r) (k : ∀ v, r = .ok v → ∀ H1, Ex H H1 → D.rt v H1) (q : ∀ n, r = .error n → ErrK CR n H E) : tRet (tCall sp [] E ta) D σ H :=
  show ta σ H fun vs H1 => sp (vs ++ []) H1 D.rt E from
  ha H (Ex.refl H) _ fun H1 e1 => hs H1 e1 _ _ (fun v hv H2 e2 => k v hv H2 (e1.trans e2)) fun n hn => (q n hn).mono e1
theorem q_dropX (ha : EvA ta σ H vs) (hs : SpX CR sp (vs ++ []) H r) (k : ∀ v, r = .ok v → ∀ H1, Ex H H1 → tz D σ H1) (q : ∀ n, r = .error n → ErrK CR n H E) : tSeq (tDrop (tCall sp [] E ta)) tz D σ H :=
  show ta σ H fun vs H1 => sp (vs ++ []) H1 (fun _ H1 => tz D σ H1) E from
  ha H (Ex.refl H) _ fun H1 e1 => hs H1 e1 _ _ (fun v hv H2 e2 => k v hv H2 (e1.trans e2)) fun n hn => (q n hn).mono e1
theorem s_dropX (ha : EvA ta σ H vs) (hs : SpX CR sp (vs ++ []) H r) (k : ∀ v, r = .ok v → ∀ H1, Ex H H1 → D.nx σ H1) (q : ∀ n, r = .error n → ErrK CR n H E) : tDrop (tCall sp [] E ta) D σ H :=
  show ta σ H fun vs H1 => sp (vs ++ []) H1 (fun _ H1 => D.nx σ H1) E from
  ha H (Ex.refl H) _ fun H1 e1 => hs H1 e1 _ _ (fun v hv H2 e2 => k v hv H2 (e1.trans e2)) fun n hn => (q n hn).mono e1
end
end FBW
/-! What the top has written, by names (printed by gen.py). -/
namespace FBW
open PySem PySem.Spec PyProof.Rows L2 Evl
def top (i : Nat) : Stmt := PySem.Challenge.pw_flightbook_s01_answers.main.body.getD i (.Pass ⟨0, 0, 0, 0⟩)
abbrev s_f_year_of : Stmt := top 5
abbrev s_f_month_of : Stmt := top 6
abbrev s_f_day_of : Stmt := top 7
abbrev s_f_is_leap : Stmt := top 8
abbrev s_f_length_of : Stmt := top 9
abbrev s_f_is_date : Stmt := top 10
abbrev s_f_leaps_before : Stmt := top 11
abbrev s_f_number_of : Stmt := top 12
abbrev s_i_Kind : Stmt := inClass (top 21) 0
abbrev s_i_Part : Stmt := inClass (top 22) 0
abbrev s_i_Plane : Stmt := inClass (top 23) 0
abbrev s_m_is_away : Stmt := inClass (top 23) 1
abbrev s_i_Book : Stmt := inClass (top 24) 0
abbrev s_f_parts_in : Stmt := top 25
abbrev s_f_is_past : Stmt := top 26
abbrev s_f_what_bars : Stmt := top 27
abbrev s_f_first_bar : Stmt := top 28
abbrev s_f_least_left : Stmt := top 29
abbrev s_f_left_in : Stmt := top 30
abbrev s_f_count_flight : Stmt := top 31
abbrev s_f_do_task : Stmt := top 32
abbrev s_i_Refused : Stmt := inClass (top 49) 0
abbrev s_f_ask : Stmt := top 50
abbrev s_f_ask_plane : Stmt := top 51
abbrev s_f_ask_order : Stmt := top 52
abbrev s_f_part_at : Stmt := top 53
abbrev s_f_do_part : Stmt := top 54
abbrev s_f_do_put : Stmt := top 55
abbrev s_f_do_take : Stmt := top 56
abbrev s_f_do_did : Stmt := top 57
abbrev s_f_ask_flight : Stmt := top 58
abbrev s_f_do_go : Stmt := top 59
abbrev s_f_do_bars : Stmt := top 60
abbrev s_f_told_again : Stmt := top 61
abbrev s_f_do_flew : Stmt := top 62
abbrev s_f_do_left : Stmt := top 63
abbrev s_f_do_of : Stmt := top 64
abbrev s_i_Hangar : Stmt := inClass (top 70) 0
abbrev s_i_Tape : Stmt := inClass (top 71) 0
abbrev s_m_is_done : Stmt := inClass (top 71) 1
abbrev s_m_take_one : Stmt := inClass (top 71) 2
abbrev s_m_take_many : Stmt := inClass (top 71) 3
abbrev s_f_answer_start : Stmt := top 72
abbrev s_f_answer : Stmt := top 73
abbrev s_f_answers : Stmt := top 74
/-- where all that stands -/
structure Ads where
  c_Kind : Addr
  c_Part : Addr
  c_Plane : Addr
  c_Book : Addr
  c_Refused : Addr
  c_Hangar : Addr
  c_Tape : Addr
  f_year_of : Addr
  f_month_of : Addr
  f_day_of : Addr
  f_is_leap : Addr
  f_length_of : Addr
  f_is_date : Addr
  f_leaps_before : Addr
  f_number_of : Addr
  i_Kind : Addr
  i_Part : Addr
  i_Plane : Addr
  m_is_away : Addr
  i_Book : Addr
  f_parts_in : Addr
  f_is_past : Addr
  f_what_bars : Addr
  f_first_bar : Addr
  f_least_left : Addr
  f_left_in : Addr
  f_count_flight : Addr
  f_do_task : Addr
  i_Refused : Addr
  f_ask : Addr
  f_ask_plane : Addr
  f_ask_order : Addr
  f_part_at : Addr
  f_do_part : Addr
  f_do_put : Addr
  f_do_take : Addr
  f_do_did : Addr
  f_ask_flight : Addr
  f_do_go : Addr
  f_do_bars : Addr
  f_told_again : Addr
  f_do_flew : Addr
  f_do_left : Addr
  f_do_of : Addr
  i_Hangar : Addr
  i_Tape : Addr
  m_is_done : Addr
  m_take_one : Addr
  m_take_many : Addr
  f_answer_start : Addr
  f_answer : Addr
  f_answers : Addr
  D : Addr
  ML : Addr
  d1 : Addr
  d2 : Addr
  d3 : Addr
  d4 : Addr
  d5 : Addr
  d6 : Addr
  d7 : Addr
  d8 : Addr
  d9 : Addr
/-- a def of the text at f -/
structure Fd (K : PySem.W.Frag) (x qual : Str) (st : Stmt) (f : Addr) : Prop where
  ex : ∃ fd, Fun K x qual st f fd
structure Txt (K : PySem.W.Frag) (mg : Str → Option Value) (A : Ads) : Prop where
  cl_Kind : Cls K A.c_Kind
  g_Kind : mg "Kind" = some (.ref A.c_Kind)
  mk_Kind : Mk K A.c_Kind A.i_Kind
  na_Kind_minutes : NoAttr K A.c_Kind "minutes"
  na_Kind_landings : NoAttr K A.c_Kind "landings"
  na_Kind_days : NoAttr K A.c_Kind "days"
  cl_Part : Cls K A.c_Part
  g_Part : mg "Part" = some (.ref A.c_Part)
  mk_Part : Mk K A.c_Part A.i_Part
  na_Part_kind : NoAttr K A.c_Part "kind"
  na_Part_plane : NoAttr K A.c_Part "plane"
  na_Part_minutes : NoAttr K A.c_Part "minutes"
  na_Part_landings : NoAttr K A.c_Part "landings"
  na_Part_minutes_since : NoAttr K A.c_Part "minutes_since"
  na_Part_landings_since : NoAttr K A.c_Part "landings_since"
  na_Part_done_on : NoAttr K A.c_Part "done_on"
  cl_Plane : Cls K A.c_Plane
  g_Plane : mg "Plane" = some (.ref A.c_Plane)
  mk_Plane : Mk K A.c_Plane A.i_Plane
  na_Plane_flown : NoAttr K A.c_Plane "flown"
  na_Plane_let_go : NoAttr K A.c_Plane "let_go"
  cl_Book : Cls K A.c_Book
  g_Book : mg "Book" = some (.ref A.c_Book)
  mk_Book : Mk K A.c_Book A.i_Book
  na_Book_kinds : NoAttr K A.c_Book "kinds"
  na_Book_parts : NoAttr K A.c_Book "parts"
  na_Book_planes : NoAttr K A.c_Book "planes"
  na_Book_last_day : NoAttr K A.c_Book "last_day"
  cl_Hangar : Cls K A.c_Hangar
  g_Hangar : mg "Hangar" = some (.ref A.c_Hangar)
  mk_Hangar : Mk K A.c_Hangar A.i_Hangar
  na_Hangar_book : NoAttr K A.c_Hangar "book"
  cl_Tape : Cls K A.c_Tape
  g_Tape : mg "Tape" = some (.ref A.c_Tape)
  mk_Tape : Mk K A.c_Tape A.i_Tape
  na_Tape_numbers : NoAttr K A.c_Tape "numbers"
  na_Tape_at : NoAttr K A.c_Tape "at"
  low : PySem.LowX.LowTxt K mg A.c_Refused A.i_Refused
  te : PySem.W.exmOne K (.ref A.c_Refused) (.ref A.c_Refused) = some true
  me_is_away : Meth K A.c_Plane "is_away" A.m_is_away
  me_is_done : Meth K A.c_Tape "is_done" A.m_is_done
  me_take_one : Meth K A.c_Tape "take_one" A.m_take_one
  me_take_many : Meth K A.c_Tape "take_many" A.m_take_many
  F_f_year_of : Fd K "year_of" "year_of" s_f_year_of A.f_year_of
  F_f_month_of : Fd K "month_of" "month_of" s_f_month_of A.f_month_of
  F_f_day_of : Fd K "day_of" "day_of" s_f_day_of A.f_day_of
  F_f_is_leap : Fd K "is_leap" "is_leap" s_f_is_leap A.f_is_leap
  F_f_length_of : Fd K "length_of" "length_of" s_f_length_of A.f_length_of
  F_f_is_date : Fd K "is_date" "is_date" s_f_is_date A.f_is_date
  F_f_leaps_before : Fd K "leaps_before" "leaps_before" s_f_leaps_before A.f_leaps_before
  F_f_number_of : Fd K "number_of" "number_of" s_f_number_of A.f_number_of
  F_i_Kind : Fd K "__init__" "Kind.__init__" s_i_Kind A.i_Kind
  F_i_Part : Fd K "__init__" "Part.__init__" s_i_Part A.i_Part
  F_i_Plane : Fd K "__init__" "Plane.__init__" s_i_Plane A.i_Plane
  F_m_is_away : Fd K "is_away" "Plane.is_away" s_m_is_away A.m_is_away
  F_i_Book : Fd K "__init__" "Book.__init__" s_i_Book A.i_Book
  F_f_parts_in : Fd K "parts_in" "parts_in" s_f_parts_in A.f_parts_in
  F_f_is_past : Fd K "is_past" "is_past" s_f_is_past A.f_is_past
  F_f_what_bars : Fd K "what_bars" "what_bars" s_f_what_bars A.f_what_bars
  F_f_first_bar : Fd K "first_bar" "first_bar" s_f_first_bar A.f_first_bar
  F_f_least_left : Fd K "least_left" "least_left" s_f_least_left A.f_least_left
  F_f_left_in : Fd K "left_in" "left_in" s_f_left_in A.f_left_in
  F_f_count_flight : Fd K "count_flight" "count_flight" s_f_count_flight A.f_count_flight
  F_f_do_task : Fd K "do_task" "do_task" s_f_do_task A.f_do_task
  F_f_ask : Fd K "ask" "ask" s_f_ask A.f_ask
  F_f_ask_plane : Fd K "ask_plane" "ask_plane" s_f_ask_plane A.f_ask_plane
  F_f_ask_order : Fd K "ask_order" "ask_order" s_f_ask_order A.f_ask_order
  F_f_part_at : Fd K "part_at" "part_at" s_f_part_at A.f_part_at
  F_f_do_part : Fd K "do_part" "do_part" s_f_do_part A.f_do_part
  F_f_do_put : Fd K "do_put" "do_put" s_f_do_put A.f_do_put
  F_f_do_take : Fd K "do_take" "do_take" s_f_do_take A.f_do_take
  F_f_do_did : Fd K "do_did" "do_did" s_f_do_did A.f_do_did
  F_f_ask_flight : Fd K "ask_flight" "ask_flight" s_f_ask_flight A.f_ask_flight
  F_f_do_go : Fd K "do_go" "do_go" s_f_do_go A.f_do_go
  F_f_do_bars : Fd K "do_bars" "do_bars" s_f_do_bars A.f_do_bars
  F_f_told_again : Fd K "told_again" "told_again" s_f_told_again A.f_told_again
  F_f_do_flew : Fd K "do_flew" "do_flew" s_f_do_flew A.f_do_flew
  F_f_do_left : Fd K "do_left" "do_left" s_f_do_left A.f_do_left
  F_f_do_of : Fd K "do_of" "do_of" s_f_do_of A.f_do_of
  F_i_Hangar : Fd K "__init__" "Hangar.__init__" s_i_Hangar A.i_Hangar
  F_i_Tape : Fd K "__init__" "Tape.__init__" s_i_Tape A.i_Tape
  F_m_is_done : Fd K "is_done" "Tape.is_done" s_m_is_done A.m_is_done
  F_m_take_one : Fd K "take_one" "Tape.take_one" s_m_take_one A.m_take_one
  F_m_take_many : Fd K "take_many" "Tape.take_many" s_m_take_many A.m_take_many
  F_f_answer_start : Fd K "answer_start" "answer_start" s_f_answer_start A.f_answer_start
  F_f_answer : Fd K "answer" "answer" s_f_answer A.f_answer
  F_f_answers : Fd K "answers" "answers" s_f_answers A.f_answers
  g_year_of : mg "year_of" = some (.ref A.f_year_of)
  g_month_of : mg "month_of" = some (.ref A.f_month_of)
  g_day_of : mg "day_of" = some (.ref A.f_day_of)
  g_is_leap : mg "is_leap" = some (.ref A.f_is_leap)
  g_length_of : mg "length_of" = some (.ref A.f_length_of)
  g_is_date : mg "is_date" = some (.ref A.f_is_date)
  g_leaps_before : mg "leaps_before" = some (.ref A.f_leaps_before)
  g_number_of : mg "number_of" = some (.ref A.f_number_of)
  g_parts_in : mg "parts_in" = some (.ref A.f_parts_in)
  g_is_past : mg "is_past" = some (.ref A.f_is_past)
  g_what_bars : mg "what_bars" = some (.ref A.f_what_bars)
  g_first_bar : mg "first_bar" = some (.ref A.f_first_bar)
  g_least_left : mg "least_left" = some (.ref A.f_least_left)
  g_left_in : mg "left_in" = some (.ref A.f_left_in)
  g_count_flight : mg "count_flight" = some (.ref A.f_count_flight)
  g_do_task : mg "do_task" = some (.ref A.f_do_task)
  g_ask : mg "ask" = some (.ref A.f_ask)
  g_ask_plane : mg "ask_plane" = some (.ref A.f_ask_plane)
  g_ask_order : mg "ask_order" = some (.ref A.f_ask_order)
  g_part_at : mg "part_at" = some (.ref A.f_part_at)
  g_do_part : mg "do_part" = some (.ref A.f_do_part)
  g_do_put : mg "do_put" = some (.ref A.f_do_put)
  g_do_take : mg "do_take" = some (.ref A.f_do_take)
  g_do_did : mg "do_did" = some (.ref A.f_do_did)
  g_ask_flight : mg "ask_flight" = some (.ref A.f_ask_flight)
  g_do_go : mg "do_go" = some (.ref A.f_do_go)
  g_do_bars : mg "do_bars" = some (.ref A.f_do_bars)
  g_told_again : mg "told_again" = some (.ref A.f_told_again)
  g_do_flew : mg "do_flew" = some (.ref A.f_do_flew)
  g_do_left : mg "do_left" = some (.ref A.f_do_left)
  g_do_of : mg "do_of" = some (.ref A.f_do_of)
  g_answer_start : mg "answer_start" = some (.ref A.f_answer_start)
  g_answer : mg "answer" = some (.ref A.f_answer)
  g_answers : mg "answers" = some (.ref A.f_answers)
  g_FIRST_YEAR : ∃ t, mg "FIRST_YEAR" = some (.int 1900 t)
  g_LAST_YEAR : ∃ t, mg "LAST_YEAR" = some (.int 2199 t)
  g_FEBRUARY : ∃ t, mg "FEBRUARY" = some (.int 2 t)
  g_TASKS : ∃ t, mg "TASKS" = some (.int 4 t)
  g_PLANES : ∃ t, mg "PLANES" = some (.int 16 t)
  g_NO_PLANE : ∃ t, mg "NO_PLANE" = some (.int 255 t)
  g_NO_LIMIT : ∃ t, mg "NO_LIMIT" = some (.int 4294967295 t)
  g_BY_MINUTES : ∃ t, mg "BY_MINUTES" = some (.int 0 t)
  g_BY_LANDINGS : ∃ t, mg "BY_LANDINGS" = some (.int 1 t)
  g_BY_DAYS : ∃ t, mg "BY_DAYS" = some (.int 2 t)
  g_WRONG : ∃ t, mg "WRONG" = some (.int (-22) t)
  g_NO_SUCH : ∃ t, mg "NO_SUCH" = some (.int (-2) t)
  g_IN_NONE : ∃ t, mg "IN_NONE" = some (.int (-11) t)
  g_BEFORE : ∃ t, mg "BEFORE" = some (.int (-13) t)
  g_AWAY : ∃ t, mg "AWAY" = some (.int (-16) t)
  g_OTHERWISE : ∃ t, mg "OTHERWISE" = some (.int (-17) t)
  g_FULL : ∃ t, mg "FULL" = some (.int (-28) t)
  g_BARRED : ∃ t, mg "BARRED" = some (.int (-33) t)
  g_NOT_FLOWN : ∃ t, mg "NOT_FLOWN" = some (.int (-71) t)
  g_MOST_PARTS : ∃ t, mg "MOST_PARTS" = some (.int 256 t)
  g_MOST_IN_PLANE : ∃ t, mg "MOST_IN_PLANE" = some (.int 32 t)
  g_MOST_LET_GO : ∃ t, mg "MOST_LET_GO" = some (.int 1440 t)
  g_MOST_MINUTES : ∃ t, mg "MOST_MINUTES" = some (.int 65535 t)
  g_MOST_SINCE : ∃ t, mg "MOST_SINCE" = some (.int 64 t)
  g_FLIGHT_BOUND : ∃ t, mg "FLIGHT_BOUND" = some (.int 2147483648 t)
  g_START : ∃ t, mg "START" = some (.int 0 t)
  g_KIND_NUMBERS : ∃ t, mg "KIND_NUMBERS" = some (.int 12 t)
  g_MOST_KINDS : ∃ t, mg "MOST_KINDS" = some (.int 16 t)
  n_range : mg "range" = none
  n_len : mg "len" = none
  n_int : mg "int" = none
  n_min : mg "min" = none
  n_max : mg "max" = none
  n_list : mg "list" = none
  gD : mg "DEEDS" = some (.ref A.D)
  gML : mg "MONTH_LENGTHS" = some (.ref A.ML)
  ml : ∀ H, SqT K H A.ML [.int 31, .int 28, .int 31, .int 30, .int 31, .int 30, .int 31, .int 31, .int 30, .int 31, .int 30, .int 31]
  dd1 : KDctI K A.D 1 (.ref A.d1)
  dt1 : ∀ H, SqT K H A.d1 [.int 2, .ref A.f_do_part]
  dd2 : KDctI K A.D 2 (.ref A.d2)
  dt2 : ∀ H, SqT K H A.d2 [.int 3, .ref A.f_do_put]
  dd3 : KDctI K A.D 3 (.ref A.d3)
  dt3 : ∀ H, SqT K H A.d3 [.int 2, .ref A.f_do_take]
  dd4 : KDctI K A.D 4 (.ref A.d4)
  dt4 : ∀ H, SqT K H A.d4 [.int 3, .ref A.f_do_did]
  dd5 : KDctI K A.D 5 (.ref A.d5)
  dt5 : ∀ H, SqT K H A.d5 [.int 3, .ref A.f_do_go]
  dd6 : KDctI K A.D 6 (.ref A.d6)
  dt6 : ∀ H, SqT K H A.d6 [.int 3, .ref A.f_do_bars]
  dd7 : KDctI K A.D 7 (.ref A.d7)
  dt7 : ∀ H, SqT K H A.d7 [.int 3, .ref A.f_do_flew]
  dd8 : KDctI K A.D 8 (.ref A.d8)
  dt8 : ∀ H, SqT K H A.d8 [.int 2, .ref A.f_do_left]
  dd9 : KDctI K A.D 9 (.ref A.d9)
  dt9 : ∀ H, SqT K H A.d9 [.int 1, .ref A.f_do_of]
/-- a def keeps its promise, and is called by its name -/
structure Ok (P : Program) (w : World) (K : PySem.W.Frag) (mg : Str → Option Value) (base : Heap) (CX : CXT) (k : Nat) (x : Str) (f : Addr) (ps : List Str) (sp : Sp) : Prop where
  ex : ∃ fd, FnOk P w K mg base CX k f fd ps sp ∧ Binds K fd ps [] ∧ PySem.W.keepIn K (.ref f) = true
  g : mg x = some (.ref f)
/-- a method, an __init__ -/
structure OkM (P : Program) (w : World) (K : PySem.W.Frag) (mg : Str → Option Value) (base : Heap) (CX : CXT) (k : Nat) (f : Addr) (ps : List Str) (sp : Sp) : Prop where
  ex : ∃ fd, FnOk P w K mg base CX k f fd ps sp ∧ Binds K fd ps []
section
variable {P : Program} {w : World} {K : PySem.W.Frag} {mg : Str → Option Value} {base : Heap} {CX : CXT}
theorem Fd.ok {x qual : Str} {st : Stmt} {f : Addr} {N ps : List Str} {k : Nat} {sp : Sp} (F : Fd K x qual st f) (g : mg x = some (.ref f)) (S : FnScope N ps (defScope st)) (len : ∀ vs H Q E, sp vs H Q E → vs.length = ps.length)
    (hb : ∀ (kV doc pm : Value) (an : Option Addr) (cdv ct : Value) (us : List Value), us.length = ps.length → bindArgs (PySem.W.fnOf x qual (defArgs st) (defBody st) (defScope st) .none kV doc pm an cdv ct) ⟨us, []⟩ = pure (ps.zip us))
    (hbody : ∀ (fd : FuncData) (cdv : Value) (A : Around) (outer : List Env) (s : Shared) (H : Hp) (vs : List V) (Q : VK) (E : XK), Room k (A.deeper (envOfC qual (defScope st) s.heap.objs.size f cdv)) → sp vs H Q E →
      ∃ t, PSs (cxOf CX0 P w K mg base N qual (defScope st) f cdv A outer s H E).nox (defBody st) t ∧ t { nx := fun _ H' => Q .non H', rt := Q } (start N vs) H) : Ok P w K mg base CX0 (k + 1) x f ps sp := by
  obtain ⟨fd, F⟩ := F.ex
  exact ⟨⟨fd, F.ok S len (hbody fd), F.binds hb, F.kp⟩, g⟩
/-- the same, of a known fd -/
theorem Fd.okN {x qual : Str} {st : Stmt} {f : Addr} {fd : FuncData} {N ps : List Str} {k : Nat} {sp : Sp} (F : Fun K x qual st f fd) (S : FnScope N ps (defScope st)) (len : ∀ vs H Q E, sp vs H Q E → vs.length = ps.length)
    (hbody : ∀ (fd : FuncData) (cdv : Value) (A : Around) (outer : List Env) (s : Shared) (H : Hp) (vs : List V) (Q : VK) (E : XK), Room k (A.deeper (envOfC qual (defScope st) s.heap.objs.size f cdv)) → sp vs H Q E →
      ∃ t, PSs (cxOf CX0 P w K mg base N qual (defScope st) f cdv A outer s H E).nox (defBody st) t ∧ t { nx := fun _ H' => Q .non H', rt := Q } (start N vs) H) : FnOk P w K mg base CX0 (k + 1) f fd ps sp := F.ok S len (hbody fd)
theorem Fd.okX {x qual : Str} {st : Stmt} {f : Addr} {N ps : List Str} {k : Nat} {sp : Sp} (F : Fd K x qual st f) (g : mg x = some (.ref f)) (S : FnScope N ps (defScope st)) (len : ∀ vs H Q E, sp vs H Q E → vs.length = ps.length)
    (hb : ∀ (kV doc pm : Value) (an : Option Addr) (cdv ct : Value) (us : List Value), us.length = ps.length → bindArgs (PySem.W.fnOf x qual (defArgs st) (defBody st) (defScope st) .none kV doc pm an cdv ct) ⟨us, []⟩ = pure (ps.zip us))
    (hbody : ∀ (fd : FuncData) (cdv : Value) (A : Around) (outer : List Env) (s : Shared) (H : Hp) (vs : List V) (Q : VK) (E : XK), Room k (A.deeper (envOfC qual (defScope st) s.heap.objs.size f cdv)) → sp vs H Q E →
      ∃ t, PSs (cxOf (L2.CX P w) P w K mg base N qual (defScope st) f cdv A outer s H E) (defBody st) t ∧ t { nx := fun _ H' => Q .non H', rt := Q } (start N vs) H) : Ok P w K mg base (L2.CX P w) (k + 1) x f ps sp := by
  obtain ⟨fd, F⟩ := F.ex
  exact ⟨⟨fd, F.okX S len (hbody fd), F.binds hb, F.kp⟩, g⟩
theorem Fd.okM {x qual : Str} {st : Stmt} {f : Addr} {N ps : List Str} {k : Nat} {sp : Sp} (F : Fd K x qual st f) (S : FnScope N ps (defScope st)) (len : ∀ vs H Q E, sp vs H Q E → vs.length = ps.length)
    (hb : ∀ (kV doc pm : Value) (an : Option Addr) (cdv ct : Value) (us : List Value), us.length = ps.length → bindArgs (PySem.W.fnOf x qual (defArgs st) (defBody st) (defScope st) .none kV doc pm an cdv ct) ⟨us, []⟩ = pure (ps.zip us))
    (hbody : ∀ (fd : FuncData) (cdv : Value) (A : Around) (outer : List Env) (s : Shared) (H : Hp) (vs : List V) (Q : VK) (E : XK), Room k (A.deeper (envOfC qual (defScope st) s.heap.objs.size f cdv)) → sp vs H Q E →
      ∃ t, PSs (cxOf CX0 P w K mg base N qual (defScope st) f cdv A outer s H E).nox (defBody st) t ∧ t { nx := fun _ H' => Q .non H', rt := Q } (start N vs) H) : OkM P w K mg base CX0 (k + 1) f ps sp := by
  obtain ⟨fd, F⟩ := F.ex
  exact ⟨⟨fd, F.ok S len (hbody fd), F.binds hb⟩⟩
end
section
variable {X : Cx} {CX : CXT} {k : Nat} {f C : Addr} {ps : List Str} {sp : Sp} {E : XK} {x m : Str} {p pos apos : Pos} {e o : Expr} {es : List Expr} {ta : TE} {t : TA}
theorem pe_gint {i : Int} (hg : Gl X x) (hm : ∃ tk, X.mg x = some (.int i tk)) (hd : (x == ("__debug__" : Str)) = false := by decide) : PE X (.Name x pos) (tC (.int i)) := by
  obtain ⟨tk, hm⟩ := hm
  exact pe_glob hg hm ⟨_, rfl⟩ hd
theorem pe_gref {a : Addr} (hg : Gl X x) (hm : X.mg x = some (.ref a)) (hd : (x == ("__debug__" : Str)) = false := by decide) : PE X (.Name x pos) (tC (.ref a)) := pe_glob hg hm rfl hd
theorem pe_callO (O : Ok X.prog X.w X.K X.mg X.base CX k x f ps sp) (hr : Room k X.A) (hx : Passes CX X E) (hg : Gl X x) (ha : PA X (e :: es) t) (hdb : (x == ("__debug__" : Str)) = false := by decide)
    (he : starEach (e :: es) X.env = (false, eval e X.env) :: starEach es X.env := by rfl) (hpl : (backTo pos (starEach es X.env)).any (·.1) = false := by rfl) : PE X (.Call (.Name x p) (e :: es) [] pos) (tCall sp [] E t) := by
  obtain ⟨fd, F, hb, hk⟩ := O.ex
  exact pe_call F hr hg O.g hk hb .nil hx ha hdb he hpl
theorem pe_makeO (O : OkM X.prog X.w X.K X.mg X.base CX k f ps sp) (M : Mk X.K C f) (hm : X.mg x = some (.ref C)) (hr : Room (k + 1) X.A) (hx : Passes CX X E) (hg : Gl X x) (ha : PA X (e :: es) t) (hdb : (x == ("__debug__" : Str)) = false := by decide)
    (he : starEach (e :: es) X.env = (false, eval e X.env) :: starEach es X.env := by rfl) (hpl : (backTo pos (starEach es X.env)).any (·.1) = false := by rfl) : PE X (.Call (.Name x p) (e :: es) [] pos) (tMake C sp [] E t) := by
  obtain ⟨fd, F, hb⟩ := O.ex
  exact pe_make M F hr hg hm hb .nil hx ha hdb he hpl
theorem pe_makeO0 (O : OkM X.prog X.w X.K X.mg X.base CX k f ps sp) (M : Mk X.K C f) (hm : X.mg x = some (.ref C)) (hr : Room (k + 1) X.A) (hx : Passes CX X E) (hg : Gl X x) (hdb : (x == ("__debug__" : Str)) = false := by decide) :
    PE X (.Call (.Name x p) [] [] pos) (tMake C sp [] E tNil) := by
  obtain ⟨fd, F, hb⟩ := O.ex
  exact pe_make0 M F hr hg hm hb .nil hx hdb
theorem pe_methO {pl : Sem Bool} (O : OkM X.prog X.w X.K X.mg X.base CX k f ps sp) (c : Cls X.K C) (hm : Meth X.K C m f) (hr : Room k X.A) (hx : Passes CX X E) (he : PE X o ta) (ha : PA X (e :: es) t)
    (hst : starEach (e :: es) X.env = (false, eval e X.env) :: starEach es X.env := by rfl) (hpl : (backTo pos (starEach es X.env)).any (·.1) = false := by rfl)
    (ht : eval (.Call (.Attribute o m apos) (e :: es) [] pos) X.env = (do
      let ov ← eval o X.env
      standAt apos.atName
      let (f, first) ← holding [ov] (getMethod ov m pl)
      callWith pos f first (backTo pos (starEach (e :: es) X.env)) (backToKw pos (keywordEach [] X.env))) := by rfl) : PE X (.Call (.Attribute o m apos) (e :: es) [] pos) (tMeth C m sp [] E ta t) := by
  obtain ⟨fd, F, hb⟩ := O.ex
  exact pe_meth he c hm F hr hb .nil hx ha hst hpl ht
theorem pe_methO0 {pl : Sem Bool} (O : OkM X.prog X.w X.K X.mg X.base CX k f ps sp) (c : Cls X.K C) (hm : Meth X.K C m f) (hr : Room k X.A) (hx : Passes CX X E) (he : PE X o ta)
    (ht : eval (Expr.Call (.Attribute o m apos) [] [] pos) X.env = (do
      let ov ← eval o X.env
      standAt apos.atName
      let (f, first) ← holding [ov] (getMethod ov m pl)
      callWith pos f first (backTo pos (starEach [] X.env)) (backToKw pos (keywordEach [] X.env))) := by rfl) : PE X (.Call (.Attribute o m apos) [] [] pos) (tMeth C m sp [] E ta tNil) := by
  obtain ⟨fd, F, hb⟩ := O.ex
  exact pe_meth0 he c hm F hr hb .nil hx ht
end
theorem sc_f_year_of : FnScope ["date"] ["date"] (defScope s_f_year_of) := ⟨rfl, rfl, rfl, by decide +kernel, rfl, by decide +kernel, by decide +kernel⟩
theorem sc_f_month_of : FnScope ["date"] ["date"] (defScope s_f_month_of) := ⟨rfl, rfl, rfl, by decide +kernel, rfl, by decide +kernel, by decide +kernel⟩
theorem sc_f_day_of : FnScope ["date"] ["date"] (defScope s_f_day_of) := ⟨rfl, rfl, rfl, by decide +kernel, rfl, by decide +kernel, by decide +kernel⟩
theorem sc_f_is_leap : FnScope ["year"] ["year"] (defScope s_f_is_leap) := ⟨rfl, rfl, rfl, by decide +kernel, rfl, by decide +kernel, by decide +kernel⟩
theorem sc_f_length_of : FnScope ["year", "month"] ["year", "month"] (defScope s_f_length_of) := ⟨rfl, rfl, rfl, by decide +kernel, rfl, by decide +kernel, by decide +kernel⟩
theorem sc_f_is_date : FnScope ["date", "year", "month"] ["date"] (defScope s_f_is_date) := ⟨rfl, rfl, rfl, by decide +kernel, rfl, by decide +kernel, by decide +kernel⟩
theorem sc_f_leaps_before : FnScope ["year", "last"] ["year"] (defScope s_f_leaps_before) := ⟨rfl, rfl, rfl, by decide +kernel, rfl, by decide +kernel, by decide +kernel⟩
theorem sc_f_number_of : FnScope ["date", "year", "month", "found", "before"] ["date"] (defScope s_f_number_of) := ⟨rfl, rfl, rfl, by decide +kernel, rfl, by decide +kernel, by decide +kernel⟩
theorem sc_i_Kind : FnScope ["self", "numbers"] ["self", "numbers"] (defScope s_i_Kind) := ⟨rfl, rfl, rfl, by decide +kernel, rfl, by decide +kernel, by decide +kernel⟩
theorem sc_i_Part : FnScope ["self", "kind", "day", "task"] ["self", "kind", "day"] (defScope s_i_Part) := ⟨rfl, rfl, rfl, by decide +kernel, rfl, by decide +kernel, by decide +kernel⟩
theorem sc_i_Plane : FnScope ["self"] ["self"] (defScope s_i_Plane) := ⟨rfl, rfl, rfl, by decide +kernel, rfl, by decide +kernel, by decide +kernel⟩
theorem sc_m_is_away : FnScope ["self"] ["self"] (defScope s_m_is_away) := ⟨rfl, rfl, rfl, by decide +kernel, rfl, by decide +kernel, by decide +kernel⟩
theorem sc_i_Book : FnScope ["self", "kinds", "k"] ["self", "kinds"] (defScope s_i_Book) := ⟨rfl, rfl, rfl, by decide +kernel, rfl, by decide +kernel, by decide +kernel⟩
theorem sc_f_parts_in : FnScope ["book", "plane", "number"] ["book", "plane"] (defScope s_f_parts_in) := ⟨rfl, rfl, rfl, by decide +kernel, rfl, by decide +kernel, by decide +kernel⟩
theorem sc_f_is_past : FnScope ["limit", "count"] ["limit", "count"] (defScope s_f_is_past) := ⟨rfl, rfl, rfl, by decide +kernel, rfl, by decide +kernel, by decide +kernel⟩
theorem sc_f_what_bars : FnScope ["book", "part", "task", "day", "minutes", "kind"] ["book", "part", "task", "day", "minutes"] (defScope s_f_what_bars) := ⟨rfl, rfl, rfl, by decide +kernel, rfl, by decide +kernel, by decide +kernel⟩
theorem sc_f_first_bar : FnScope ["book", "plane", "date", "minutes", "day", "number", "task", "what"] ["book", "plane", "date", "minutes"] (defScope s_f_first_bar) := ⟨rfl, rfl, rfl, by decide +kernel, rfl, by decide +kernel, by decide +kernel⟩
theorem sc_f_least_left : FnScope ["limit", "count", "least"] ["limit", "count", "least"] (defScope s_f_least_left) := ⟨rfl, rfl, rfl, by decide +kernel, rfl, by decide +kernel, by decide +kernel⟩
theorem sc_f_left_in : FnScope ["book", "plane", "date", "day", "found", "number", "part", "kind", "task"] ["book", "plane", "date"] (defScope s_f_left_in) := ⟨rfl, rfl, rfl, by decide +kernel, rfl, by decide +kernel, by decide +kernel⟩
theorem sc_f_count_flight : FnScope ["part", "minutes", "task"] ["part", "minutes"] (defScope s_f_count_flight) := ⟨rfl, rfl, rfl, by decide +kernel, rfl, by decide +kernel, by decide +kernel⟩
theorem sc_f_do_task : FnScope ["part", "task", "day"] ["part", "task", "day"] (defScope s_f_do_task) := ⟨rfl, rfl, rfl, by decide +kernel, rfl, by decide +kernel, by decide +kernel⟩
theorem sc_f_ask : FnScope ["is_good", "number"] ["is_good", "number"] (defScope s_f_ask) := ⟨rfl, rfl, rfl, by decide +kernel, rfl, by decide +kernel, by decide +kernel⟩
theorem sc_f_ask_plane : FnScope ["plane"] ["plane"] (defScope s_f_ask_plane) := ⟨rfl, rfl, rfl, by decide +kernel, rfl, by decide +kernel, by decide +kernel⟩
theorem sc_f_ask_order : FnScope ["book", "date", "day"] ["book", "date"] (defScope s_f_ask_order) := ⟨rfl, rfl, rfl, by decide +kernel, rfl, by decide +kernel, by decide +kernel⟩
theorem sc_f_part_at : FnScope ["book", "number"] ["book", "number"] (defScope s_f_part_at) := ⟨rfl, rfl, rfl, by decide +kernel, rfl, by decide +kernel, by decide +kernel⟩
theorem sc_f_do_part : FnScope ["book", "numbers", "kind", "date", "day"] ["book", "numbers"] (defScope s_f_do_part) := ⟨rfl, rfl, rfl, by decide +kernel, rfl, by decide +kernel, by decide +kernel⟩
theorem sc_f_do_put : FnScope ["book", "numbers", "number", "at", "flown", "part", "plane"] ["book", "numbers"] (defScope s_f_do_put) := ⟨rfl, rfl, rfl, by decide +kernel, rfl, by decide +kernel, by decide +kernel⟩
theorem sc_f_do_take : FnScope ["book", "numbers", "number", "flown", "part", "plane"] ["book", "numbers"] (defScope s_f_do_take) := ⟨rfl, rfl, rfl, by decide +kernel, rfl, by decide +kernel, by decide +kernel⟩
theorem sc_f_do_did : FnScope ["book", "numbers", "number", "task", "date", "part", "day"] ["book", "numbers"] (defScope s_f_do_did) := ⟨rfl, rfl, rfl, by decide +kernel, rfl, by decide +kernel, by decide +kernel⟩
theorem sc_f_ask_flight : FnScope ["book", "at", "date", "minutes"] ["book", "at", "date", "minutes"] (defScope s_f_ask_flight) := ⟨rfl, rfl, rfl, by decide +kernel, rfl, by decide +kernel, by decide +kernel⟩
theorem sc_f_do_go : FnScope ["book", "numbers", "at", "date", "minutes", "day", "plane"] ["book", "numbers"] (defScope s_f_do_go) := ⟨rfl, rfl, rfl, by decide +kernel, rfl, by decide +kernel, by decide +kernel⟩
theorem sc_f_do_bars : FnScope ["book", "numbers", "at", "date", "minutes", "found"] ["book", "numbers"] (defScope s_f_do_bars) := ⟨rfl, rfl, rfl, by decide +kernel, rfl, by decide +kernel, by decide +kernel⟩
theorem sc_f_told_again : FnScope ["plane", "number", "minutes"] ["plane", "number", "minutes"] (defScope s_f_told_again) := ⟨rfl, rfl, rfl, by decide +kernel, rfl, by decide +kernel, by decide +kernel⟩
theorem sc_f_do_flew : FnScope ["book", "numbers", "at", "number", "minutes", "plane", "own", "is_longer"] ["book", "numbers"] (defScope s_f_do_flew) := ⟨rfl, rfl, rfl, by decide +kernel, rfl, by decide +kernel, by decide +kernel⟩
theorem sc_f_do_left : FnScope ["book", "numbers", "at", "date"] ["book", "numbers"] (defScope s_f_do_left) := ⟨rfl, rfl, rfl, by decide +kernel, rfl, by decide +kernel, by decide +kernel⟩
theorem sc_f_do_of : FnScope ["book", "numbers", "part"] ["book", "numbers"] (defScope s_f_do_of) := ⟨rfl, rfl, rfl, by decide +kernel, rfl, by decide +kernel, by decide +kernel⟩
theorem sc_i_Hangar : FnScope ["self"] ["self"] (defScope s_i_Hangar) := ⟨rfl, rfl, rfl, by decide +kernel, rfl, by decide +kernel, by decide +kernel⟩
theorem sc_i_Tape : FnScope ["self", "numbers"] ["self", "numbers"] (defScope s_i_Tape) := ⟨rfl, rfl, rfl, by decide +kernel, rfl, by decide +kernel, by decide +kernel⟩
theorem sc_m_is_done : FnScope ["self"] ["self"] (defScope s_m_is_done) := ⟨rfl, rfl, rfl, by decide +kernel, rfl, by decide +kernel, by decide +kernel⟩
theorem sc_m_take_one : FnScope ["self", "found"] ["self"] (defScope s_m_take_one) := ⟨rfl, rfl, rfl, by decide +kernel, rfl, by decide +kernel, by decide +kernel⟩
theorem sc_m_take_many : FnScope ["self", "many", "k"] ["self", "many"] (defScope s_m_take_many) := ⟨rfl, rfl, rfl, by decide +kernel, rfl, by decide +kernel, by decide +kernel⟩
theorem sc_f_answer_start : FnScope ["hangar", "row", "many", "at"] ["hangar", "row"] (defScope s_f_answer_start) := ⟨rfl, rfl, rfl, by decide +kernel, rfl, by decide +kernel, by decide +kernel⟩
theorem sc_f_answer : FnScope ["book", "call", "tape", "many", "deed", "numbers", "found", "refused"] ["book", "call", "tape"] (defScope s_f_answer) := ⟨rfl, rfl, rfl, by decide +kernel, rfl, by decide +kernel, by decide +kernel⟩
theorem sc_f_answers : FnScope ["calls", "hangar", "tape", "found", "call", "told"] ["calls"] (defScope s_f_answers) := ⟨rfl, rfl, rfl, by decide +kernel, rfl, by decide +kernel, by decide +kernel⟩
end FBW
/-! How a book of the mirror lies in the heap, and what the promises are made of. -/
namespace FBW
open PySem PySem.Spec PyProof.Rows L2 Evl FB
/-! ### fields -/
theorem lk_here {k : Str} {v : V} {r : List (Str × V)} : List.lookup k ((k, v) :: r) = some v := by
  have e : (k == k) = true := beq_self_eq_true k
  simp only [List.lookup, e]
theorem lk_past {k g : Str} {v : V} {r : List (Str × V)} (h : (k == g) = false) : List.lookup k ((g, v) :: r) = List.lookup k r := by
  simp only [List.lookup, h]
theorem put_here {f : Str} {v x : V} {r : List (Str × V)} : putF f v ((f, x) :: r) = (f, v) :: r := if_pos rfl
theorem put_past {f g : Str} {v x : V} {r : List (Str × V)} (h : ¬ g = f) : putF f v ((g, x) :: r) = (g, x) :: putF f v r := if_neg h
theorem put_new {f : Str} {v : V} : putF f v [] = [(f, v)] := rfl
/-! ### roles -/
inductive Role where
  | book | kl | pl | al
  | kd (i : Nat) | km (i : Nat) | kn (i : Nat) | ky (i : Nat)
  | pt (i : Nat) | pm (i : Nat) | pn (i : Nat) | py (i : Nat)
  | an (j : Nat) | af (j : Nat)
  deriving DecidableEq
structure Lay where
  ad : Role → Addr
  dx : Role → Addr
def nats (l : List Nat) : List V := l.map fun (x : Nat) => V.int (x : Int)
theorem nats_len (l : List Nat) : (nats l).length = l.length := List.length_map _
theorem nats_get {l : List Nat} {t : Nat} (h : t < l.length) : (nats l)[t]? = some (.int ((l.getD t 0 : Nat) : Int)) := by
  unfold nats
  rw [List.getD_eq_getElem?_getD, List.getElem?_map]
  rw [List.getElem?_eq_getElem h]; rfl
theorem nats_set (l : List Nat) (t x : Nat) : (nats l).set t (.int (x : Int)) = nats (l.set t x) := by
  unfold nats
  rw [List.map_set]
theorem nats_map_int (l : List Nat) : nats l = (l.map fun (x : Nat) => (x : Int)).map V.int := by
  unfold nats
  rw [List.map_map]
  rfl
def kindF (L : Lay) (i : Nat) : List (Str × V) := [("minutes", .ref (L.ad (.km i))), ("landings", .ref (L.ad (.kn i))), ("days", .ref (L.ad (.ky i)))]
def partF (L : Lay) (i : Nat) (p : MPart) : List (Str × V) := [("kind", .int (p.kind : Int)), ("plane", .int (p.plane : Int)), ("minutes", .int (p.minutes : Int)), ("landings", .int (p.landings : Int)), ("minutes_since", .ref (L.ad (.pm i))), ("landings_since", .ref (L.ad (.pn i))), ("done_on", .ref (L.ad (.py i)))]
def planeF (L : Lay) (j : Nat) (p : MPlane) : List (Str × V) := [("flown", .ref (L.ad (.af j))), ("let_go", .int (p.go : Int))]
def bookF (L : Lay) (m : M) : List (Str × V) := [("kinds", .ref (L.ad .kl)), ("parts", .ref (L.ad .pl)), ("planes", .ref (L.ad .al)), ("last_day", .int (m.last : Int))]
section
variable {L : Lay} {i : Nat} {p : MPart} {q : MPlane} {m : M}
theorem kF_m : (kindF L i).lookup ("minutes" : Str) = some (.ref (L.ad (.km i))) := lk_here
theorem kF_l : (kindF L i).lookup ("landings" : Str) = some (.ref (L.ad (.kn i))) := (lk_past (by decide +kernel)).trans lk_here
theorem kF_d : (kindF L i).lookup ("days" : Str) = some (.ref (L.ad (.ky i))) := (lk_past (by decide +kernel)).trans ((lk_past (by decide +kernel)).trans lk_here)
theorem pF_kind : (partF L i p).lookup ("kind" : Str) = some (.int (p.kind : Int)) := lk_here
theorem pF_plane : (partF L i p).lookup ("plane" : Str) = some (.int (p.plane : Int)) := (lk_past (by decide +kernel)).trans lk_here
theorem pF_minutes : (partF L i p).lookup ("minutes" : Str) = some (.int (p.minutes : Int)) := (lk_past (by decide +kernel)).trans ((lk_past (by decide +kernel)).trans lk_here)
theorem pF_landings : (partF L i p).lookup ("landings" : Str) = some (.int (p.landings : Int)) := (lk_past (by decide +kernel)).trans ((lk_past (by decide +kernel)).trans ((lk_past (by decide +kernel)).trans lk_here))
theorem pF_ms : (partF L i p).lookup ("minutes_since" : Str) = some (.ref (L.ad (.pm i))) := (lk_past (by decide +kernel)).trans ((lk_past (by decide +kernel)).trans ((lk_past (by decide +kernel)).trans ((lk_past (by decide +kernel)).trans lk_here)))
theorem pF_ls : (partF L i p).lookup ("landings_since" : Str) = some (.ref (L.ad (.pn i))) := (lk_past (by decide +kernel)).trans ((lk_past (by decide +kernel)).trans ((lk_past (by decide +kernel)).trans ((lk_past (by decide +kernel)).trans ((lk_past (by decide +kernel)).trans lk_here))))
theorem pF_dn : (partF L i p).lookup ("done_on" : Str) = some (.ref (L.ad (.py i))) := (lk_past (by decide +kernel)).trans ((lk_past (by decide +kernel)).trans ((lk_past (by decide +kernel)).trans ((lk_past (by decide +kernel)).trans ((lk_past (by decide +kernel)).trans ((lk_past (by decide +kernel)).trans lk_here)))))
theorem aF_flown : (planeF L i q).lookup ("flown" : Str) = some (.ref (L.ad (.af i))) := lk_here
theorem aF_go : (planeF L i q).lookup ("let_go" : Str) = some (.int (q.go : Int)) := (lk_past (by decide +kernel)).trans lk_here
theorem aF_away : (planeF L i q).lookup ("is_away" : Str) = none := (lk_past (by decide +kernel)).trans ((lk_past (by decide +kernel)).trans rfl)
theorem bF_kinds : (bookF L m).lookup ("kinds" : Str) = some (.ref (L.ad .kl)) := lk_here
theorem bF_parts : (bookF L m).lookup ("parts" : Str) = some (.ref (L.ad .pl)) := (lk_past (by decide +kernel)).trans lk_here
theorem bF_planes : (bookF L m).lookup ("planes" : Str) = some (.ref (L.ad .al)) := (lk_past (by decide +kernel)).trans ((lk_past (by decide +kernel)).trans lk_here)
theorem bF_last : (bookF L m).lookup ("last_day" : Str) = some (.int (m.last : Int)) := (lk_past (by decide +kernel)).trans ((lk_past (by decide +kernel)).trans ((lk_past (by decide +kernel)).trans lk_here))
theorem pF_putPlane (a : Nat) : putF "plane" (.int (a : Int)) (partF L i p) = partF L i { p with plane := a } := (put_past (by decide +kernel)).trans (congrArg _ put_here)
theorem pF_putMinutes (n : Nat) : putF "minutes" (.int (n : Int)) (partF L i p) = partF L i { p with minutes := n } := (put_past (by decide +kernel)).trans (congrArg _ ((put_past (by decide +kernel)).trans (congrArg _ put_here)))
theorem pF_putLandings (n : Nat) : putF "landings" (.int (n : Int)) (partF L i p) = partF L i { p with landings := n } := (put_past (by decide +kernel)).trans (congrArg _ ((put_past (by decide +kernel)).trans (congrArg _ ((put_past (by decide +kernel)).trans (congrArg _ put_here)))))
theorem aF_putGo (n : Nat) : putF "let_go" (.int (n : Int)) (planeF L i q) = planeF L i { q with go := n } := (put_past (by decide +kernel)).trans (congrArg _ put_here)
theorem bF_putLast (d : Nat) : putF "last_day" (.int (d : Int)) (bookF L m) = bookF L { m with last := d } := (put_past (by decide +kernel)).trans (congrArg _ ((put_past (by decide +kernel)).trans (congrArg _ ((put_past (by decide +kernel)).trans (congrArg _ put_here)))))
end
def okR (m : M) : Role → Prop
  | .book | .kl | .pl | .al => True
  | .kd i | .km i | .kn i | .ky i => i < m.kinds.length
  | .pt i | .pm i | .pn i | .py i => i < m.parts.length
  | .an j | .af j => j < m.planes.length
def refsOf (f : Nat → Addr) (n : Nat) : List V := (List.range n).map fun i => V.ref (f i)
theorem refs_len (f : Nat → Addr) (n : Nat) : (refsOf f n).length = n := by unfold refsOf; simp
theorem refs_get {f : Nat → Addr} {n i : Nat} (h : i < n) : (refsOf f n)[i]? = some (.ref (f i)) := by
  unfold refsOf
  rw [List.getElem?_map, List.getElem?_range h]
  rfl
theorem refs_succ (f : Nat → Addr) (n : Nat) : refsOf f (n + 1) = refsOf f n ++ [.ref (f n)] := by
  unfold refsOf
  rw [List.range_succ, List.map_append]
  rfl
theorem refs_congr {f g : Nat → Addr} {n : Nat} (h : ∀ i, i < n → f i = g i) : refsOf f n = refsOf g n := by
  unfold refsOf
  apply List.map_congr_left
  intro i hi
  rw [h i (List.mem_range.mp hi)]
def obj (A : Ads) (L : Lay) (m : M) : Role → HO
  | .book => .ins A.c_Book (L.dx .book) (bookF L m)
  | .kl => .lst (refsOf (fun i => L.ad (.kd i)) m.kinds.length)
  | .pl => .lst (refsOf (fun i => L.ad (.pt i)) m.parts.length)
  | .al => .lst (refsOf (fun i => L.ad (.an i)) m.planes.length)
  | .kd i => .ins A.c_Kind (L.dx (.kd i)) (kindF L i)
  | .km i => .lst (nats (m.kind i).minutes)
  | .kn i => .lst (nats (m.kind i).landings)
  | .ky i => .lst (nats (m.kind i).days)
  | .pt i => .ins A.c_Part (L.dx (.pt i)) (partF L i (m.part i))
  | .pm i => .lst (nats (m.part i).ms)
  | .pn i => .lst (nats (m.part i).ls)
  | .py i => .lst (nats (m.part i).dn)
  | .an j => .ins A.c_Plane (L.dx (.an j)) (planeF L j (m.plane j))
  | .af j => .lst (nats (m.plane j).flown)
structure BookAt (A : Ads) (L : Lay) (m : M) (H : Hp) : Prop where
  ob : ∀ r, okR m r → H (L.ad r) = some (obj A L m r)
  inj : ∀ r s, okR m r → okR m s → L.ad r = L.ad s → r = s
section
variable {A : Ads} {L : Lay} {m m' : M} {H H' : Hp}
theorem BookAt.mono (e : Ex H H') (b : BookAt A L m H) : BookAt A L m H' := ⟨fun r h => e _ _ (b.ob r h), b.inj⟩
theorem BookAt.put (b : BookAt A L m H) (r : Role) (hr : okR m r) {o : HO} (hk : ∀ s, okR m' s → okR m s) (hs : ∀ s, okR m s → s ≠ r → obj A L m' s = obj A L m s) (ho : obj A L m' r = o) : BookAt A L m' (upd H (L.ad r) o) := by
  refine ⟨fun s h => ?_, fun s t hs ht e => b.inj s t (hk s hs) (hk t ht) e⟩
  by_cases e : s = r
  · subst e
    rw [upd_same, ho]
  · rw [upd_ne (fun z => e (b.inj s r (hk s h) hr z)), b.ob s (hk s h), hs s (hk s h) e]
theorem BookAt.book (b : BookAt A L m H) : H (L.ad .book) = some (.ins A.c_Book (L.dx .book) (bookF L m)) := b.ob .book trivial
theorem BookAt.kl (b : BookAt A L m H) : H (L.ad .kl) = some (.lst (refsOf (fun i => L.ad (.kd i)) m.kinds.length)) := b.ob .kl trivial
theorem BookAt.pl (b : BookAt A L m H) : H (L.ad .pl) = some (.lst (refsOf (fun i => L.ad (.pt i)) m.parts.length)) := b.ob .pl trivial
theorem BookAt.al (b : BookAt A L m H) : H (L.ad .al) = some (.lst (refsOf (fun i => L.ad (.an i)) m.planes.length)) := b.ob .al trivial
theorem BookAt.kd (b : BookAt A L m H) {i : Nat} (h : i < m.kinds.length) : H (L.ad (.kd i)) = some (.ins A.c_Kind (L.dx (.kd i)) (kindF L i)) := b.ob (.kd i) h
theorem BookAt.km (b : BookAt A L m H) {i : Nat} (h : i < m.kinds.length) : H (L.ad (.km i)) = some (.lst (nats (m.kind i).minutes)) := b.ob (.km i) h
theorem BookAt.kn (b : BookAt A L m H) {i : Nat} (h : i < m.kinds.length) : H (L.ad (.kn i)) = some (.lst (nats (m.kind i).landings)) := b.ob (.kn i) h
theorem BookAt.ky (b : BookAt A L m H) {i : Nat} (h : i < m.kinds.length) : H (L.ad (.ky i)) = some (.lst (nats (m.kind i).days)) := b.ob (.ky i) h
theorem BookAt.pt (b : BookAt A L m H) {i : Nat} (h : i < m.parts.length) : H (L.ad (.pt i)) = some (.ins A.c_Part (L.dx (.pt i)) (partF L i (m.part i))) := b.ob (.pt i) h
theorem BookAt.pm (b : BookAt A L m H) {i : Nat} (h : i < m.parts.length) : H (L.ad (.pm i)) = some (.lst (nats (m.part i).ms)) := b.ob (.pm i) h
theorem BookAt.pn (b : BookAt A L m H) {i : Nat} (h : i < m.parts.length) : H (L.ad (.pn i)) = some (.lst (nats (m.part i).ls)) := b.ob (.pn i) h
theorem BookAt.py (b : BookAt A L m H) {i : Nat} (h : i < m.parts.length) : H (L.ad (.py i)) = some (.lst (nats (m.part i).dn)) := b.ob (.py i) h
theorem BookAt.an (b : BookAt A L m H) {i : Nat} (h : i < m.planes.length) : H (L.ad (.an i)) = some (.ins A.c_Plane (L.dx (.an i)) (planeF L i (m.plane i))) := b.ob (.an i) h
theorem BookAt.af (b : BookAt A L m H) {i : Nat} (h : i < m.planes.length) : H (L.ad (.af i)) = some (.lst (nats (m.plane i).flown)) := b.ob (.af i) h
end
/-- what a deed leaves: the book behind it; all else stands; what is the book's now was so before, or is new -/
structure Post (A : Ads) (L : Lay) (m : M) (H : Hp) (L' : Lay) (m' : M) (H' : Hp) : Prop where
  at_ : BookAt A L' m' H'
  fr : ∀ b o, H b = some o → (∀ r, okR m r → L.ad r ≠ b) → H' b = some o
  new : ∀ r, okR m' r → (okR m r ∧ L'.ad r = L.ad r) ∨ H (L'.ad r) = none
  bk : L'.ad .book = L.ad .book
section
variable {A : Ads} {L L' L'' : Lay} {m m' m'' : M} {H H' H'' : Hp}
theorem Post.refl (b : BookAt A L m H) (e : Ex H H') : Post A L m H L m H' := ⟨b.mono e, fun c o h _ => e c o h, fun r h => .inl ⟨h, rfl⟩, rfl⟩
theorem Post.ex (p : Post A L m H L' m' H') (e : Ex H' H'') : Post A L m H L' m' H'' := ⟨p.at_.mono e, fun c o h q => e c o (p.fr c o h q), p.new, p.bk⟩
/-- what was tracked and not the book's is not the book's now -/
theorem Post.out (p : Post A L m H L' m' H') {c : Addr} {o : HO} (h : H c = some o) (q : ∀ r, okR m r → L.ad r ≠ c) : ∀ r, okR m' r → L'.ad r ≠ c := fun r hr z => by
  rcases p.new r hr with ⟨h1, h2⟩ | h1
  · exact q r h1 (h2.symm.trans z)
  · rw [z, h] at h1
    cases h1
theorem Post.trans (p : Post A L m H L' m' H') (q : Post A L' m' H' L'' m'' H'') (hf : ∀ b o, H b = some o → ∃ o', H' b = some o') : Post A L m H L'' m'' H'' := by
  refine ⟨q.at_, fun c o h z => q.fr c o (p.fr c o h z) (p.out h z), fun r hr => ?_, q.bk.trans p.bk⟩
  rcases q.new r hr with ⟨h1, h2⟩ | h1
  · rcases p.new r h1 with ⟨h3, h4⟩ | h3
    · exact .inl ⟨h3, h2.trans h4⟩
    · exact .inr (by rw [h2]; exact h3)
  · refine .inr ?_
    cases z : H (L''.ad r) with
    | none => rfl
    | some o =>
      obtain ⟨o', h'⟩ := hf _ _ z
      rw [h'] at h1
      cases h1
/-- one object of the book is changed, behind new ones -/
theorem Post.put (b : BookAt A L m H) (e : Ex H H') (r : Role) (hr : okR m r) {o : HO} (hk : ∀ s, okR m' s → okR m s) (hs : ∀ s, okR m s → s ≠ r → obj A L m' s = obj A L m s) (ho : obj A L m' r = o) : Post A L m H L m' (upd H' (L.ad r) o) :=
  ⟨(b.mono e).put r hr hk hs ho, fun c u h q => by rw [upd_ne (Ne.symm (q r hr))]; exact e c u h, fun s h => .inl ⟨hk s h, rfl⟩, rfl⟩
theorem there_put {a : Addr} {o : HO} (e : Ex H H') : ∀ b u, H b = some u → ∃ u', upd H' a o b = some u' := fun b u h => by
  by_cases z : b = a
  · subst z; exact ⟨_, upd_same⟩
  · exact ⟨u, by rw [upd_ne z]; exact e b u h⟩
end
theorem free_there {H H' : Hp} {p : Addr} (t : ∀ b o, H b = some o → ∃ o', H' b = some o') (h : H' p = none) : H p = none := by
  cases z : H p with
  | none => rfl
  | some o =>
    obtain ⟨o', h'⟩ := t p o z
    rw [h'] at h
    cases h
theorem there_trans {H H' H'' : Hp} (a : ∀ b o, H b = some o → ∃ o', H' b = some o') (c : ∀ b o, H' b = some o → ∃ o', H'' b = some o') : ∀ b o, H b = some o → ∃ o', H'' b = some o' := fun b o h => let ⟨o', h'⟩ := a b o h; c b o' h'
/-! ### promises -/
def spV (R : List V → Hp → V → Prop) : Sp := fun vs H Q _ => ∃ v, R vs H v ∧ RetV v H Q
def spL (R : List V → Hp → List V → Prop) : Sp := fun vs H Q _ => ∃ xs, R vs H xs ∧ RetL xs H Q
def spX (CR : Addr) (R : List V → Hp → Except Int V → Prop) : Sp := fun vs H Q E => ∃ r, R vs H r ∧ (∀ v, r = .ok v → RetV v H Q) ∧ (∀ n, r = .error n → ErrK CR n H E)
section
variable {H H' : Hp} {vs xs : List V} {v : V} {CR : Addr} {r : Except Int V}
theorem spV_ev {R : List V → Hp → V → Prop} (h : ∀ H1, Ex H H1 → R vs H1 v) : SpV (spV R) vs H v := fun H1 e Q q _ => ⟨v, h H1 e, q⟩
theorem spL_ev {R : List V → Hp → List V → Prop} (h : ∀ H1, Ex H H1 → R vs H1 xs) : SpL (spL R) vs H xs := fun H1 e Q q _ => ⟨xs, h H1 e, q⟩
theorem spX_ev {R : List V → Hp → Except Int V → Prop} (h : ∀ H1, Ex H H1 → R vs H1 r) : SpX CR (spX CR R) vs H r := fun H1 e Q E k q => ⟨r, h H1 e, fun v hv H2 e2 => k v hv H2 e2, q⟩
theorem RetV.mono {Q : VK} (e : Ex H H') (k : RetV v H Q) : RetV v H' Q := fun H2 e2 => k H2 (e.trans e2)
theorem RetL.mono {Q : VK} (e : Ex H H') (k : RetL xs H Q) : RetL xs H' Q := fun p H2 hp e2 h => k p H2 (fresh_back e hp) (e.trans e2) h
end
def rYear : List V → Hp → V → Prop := fun vs _ v => ∃ d : Nat, vs = [.int (d : Int)] ∧ v = .int (yearOf d : Nat)
def rMonth : List V → Hp → V → Prop := fun vs _ v => ∃ d : Nat, vs = [.int (d : Int)] ∧ v = .int (monthOf d : Nat)
def rDay : List V → Hp → V → Prop := fun vs _ v => ∃ d : Nat, vs = [.int (d : Int)] ∧ v = .int (dayOf d : Nat)
def rLeap : List V → Hp → V → Prop := fun vs _ v => ∃ y : Nat, vs = [.int (y : Int)] ∧ v = .bl (isLeap y)
def rLength : List V → Hp → V → Prop := fun vs _ v => ∃ y mo : Nat, vs = [.int (y : Int), .int (mo : Int)] ∧ 1 ≤ mo ∧ mo ≤ 12 ∧ v = .int (lengthOf y mo : Nat)
def rIsDate : List V → Hp → V → Prop := fun vs _ v => ∃ d : Nat, vs = [.int (d : Int)] ∧ v = .bl (isDate d)
def rLeaps : List V → Hp → V → Prop := fun vs _ v => ∃ y : Nat, vs = [.int (y : Int)] ∧ 1 ≤ y ∧ v = .int (leapsBefore y : Nat)
def rNumber : List V → Hp → V → Prop := fun vs _ v => ∃ d : Nat, vs = [.int (d : Int)] ∧ isDate d = true ∧ v = .int (numberOf d : Nat)
def rPast : List V → Hp → V → Prop := fun vs _ v => ∃ l c : Int, vs = [.int l, .int c] ∧ v = .bl (isPast l c)
def rLeast : List V → Hp → V → Prop := fun vs _ v => ∃ l c w : Int, vs = [.int l, .int c, .int w] ∧ v = .int (leastLeft l c w)
def barV : Option Nat → V
  | none => .non
  | some w => .int (w : Int)
section
variable (A : Ads)
def rPartsIn : List V → Hp → List V → Prop := fun vs H xs => ∃ (L : Lay) (m : M) (a : Nat), vs = [.ref (L.ad .book), .int (a : Int)] ∧ BookAt A L m H ∧ m.parts.length ≤ 256 ∧ xs = nats (m.partsIn a)
def rWhat : List V → Hp → V → Prop := fun vs H v => ∃ (L : Lay) (m : M) (c i t day n : Nat), vs = [.ref (L.ad .book), .ref (L.ad (.pt i)), .int (t : Int), .int (day : Int), .int (n : Int)] ∧ BookAt A L m H ∧ Good c m ∧ i < m.parts.length ∧ t < 4 ∧
  v = barV (whatBars (m.kind (m.part i).kind) (m.part i) t day n)
def spBar : Sp := fun vs H Q _ => ∃ (L : Lay) (m : M) (c a date n : Nat), vs = [.ref (L.ad .book), .int (a : Int), .int (date : Int), .int (n : Int)] ∧ BookAt A L m H ∧ Good c m ∧ isDate date = true ∧
  (firstBar m a date n = none → RetV .non H Q) ∧ (∀ l, firstBar m a date n = some l → RetL (nats l) H Q)
def rLeftIn : List V → Hp → List V → Prop := fun vs H xs => ∃ (L : Lay) (m : M) (c a date : Nat), vs = [.ref (L.ad .book), .int (a : Int), .int (date : Int)] ∧ BookAt A L m H ∧ Good c m ∧ isDate date = true ∧
  xs = [.int (leftIn m a date).1, .int (leftIn m a date).2.1, .int (leftIn m a date).2.2]
def rAway : List V → Hp → V → Prop := fun vs H v => ∃ (L : Lay) (m : M) (a : Nat), vs = [.ref (L.ad (.an a))] ∧ BookAt A L m H ∧ a < m.planes.length ∧ v = .bl (m.away a)
def rAgain : List V → Hp → List V → Prop := fun vs H xs => ∃ (L : Lay) (m : M) (a k n : Nat), vs = [.ref (L.ad (.an a)), .int (k : Int), .int (n : Int)] ∧ BookAt A L m H ∧ a < m.planes.length ∧ k < (m.plane a).flown.length ∧ xs = [.int (toldAgain (m.plane a) k n)]
def rAskPlane : List V → Hp → Except Int V → Prop := fun vs _ r => ∃ a : Nat, vs = [.int (a : Int)] ∧ r = if a < 16 then .ok .non else .error (-22)
def rOrder : List V → Hp → Except Int V → Prop := fun vs H r => ∃ (L : Lay) (m : M) (d : Nat), vs = [.ref (L.ad .book), .int (d : Int)] ∧ BookAt A L m H ∧ isDate d = true ∧ r = if numberOf d < m.last then .error (-13) else .ok (.int (numberOf d : Nat))
def rPartAt : List V → Hp → Except Int V → Prop := fun vs H r => ∃ (L : Lay) (m : M) (i : Nat), vs = [.ref (L.ad .book), .int (i : Int)] ∧ BookAt A L m H ∧ r = if i < m.parts.length then .ok (.ref (L.ad (.pt i))) else .error (-2)
def rFlight : List V → Hp → Except Int V → Prop := fun vs H r => ∃ (L : Lay) (m : M) (a d n : Nat), vs = [.ref (L.ad .book), .int (a : Int), .int (d : Int), .int (n : Int)] ∧ BookAt A L m H ∧
  r = if okFlight a d n = false then .error (-22) else if numberOf d < m.last then .error (-13) else .ok (.int (numberOf d : Nat))
def spCount : Sp := fun vs H Q _ => ∃ (L : Lay) (m : M) (c i n : Nat), vs = [.ref (L.ad (.pt i)), .int (n : Int)] ∧ BookAt A L m H ∧ Good c m ∧ i < m.parts.length ∧
  ∀ H', Post A L m H L (m.setPart i ((m.part i).flies n)) H' → (∀ b o, H b = some o → ∃ o', H' b = some o') → Q .non H'
def spTask : Sp := fun vs H Q _ => ∃ (L : Lay) (m : M) (c i t d : Nat), vs = [.ref (L.ad (.pt i)), .int (t : Int), .int (d : Int)] ∧ BookAt A L m H ∧ Good c m ∧ i < m.parts.length ∧ t < 4 ∧
  ∀ H', Post A L m H L (m.setPart i ((m.part i).did t d)) H' → (∀ b o, H b = some o → ∃ o', H' b = some o') → Q .non H'
/-- a deed's: f tells what is refused, or the book behind it and what is answered -/
def spDeed (f : M → List Nat → Option Deed) : Sp := fun vs H Q E => ∃ (L : Lay) (m : M) (c : Nat) (nl : Addr) (ns : List Nat) (r : Deed), vs = [.ref (L.ad .book), .ref nl] ∧ BookAt A L m H ∧ Good c m ∧ c ≤ 1000 ∧ H nl = some (.lst (nats ns)) ∧ f m ns = some r ∧
  (∀ n, r = .error n → ErrK A.c_Refused n H E) ∧
  (∀ m' out, r = .ok (m', out) → ∀ p L' H', Post A L m H L' m' H' → H p = none → H' p = some (.lst (out.map V.int)) → Q (.ref p) H')
end
end FBW
namespace FBW
open PySem PySem.Spec PyProof.Rows L2 Evl FB
section
variable {P : Program} {w : World} {K : PySem.W.Frag} {mg : Str → Option Value} {base : Heap} {A : Ads}
theorem ok_year_of (T : Txt K mg A) : Ok P w K mg base CX0 1 "year_of" A.f_year_of ["date"] (spV rYear) := by
  refine T.F_f_year_of.ok T.g_year_of sc_f_year_of (fun vs H Q E h => ?_) (fun _ _ _ _ _ _ us hl => match us, hl with | [_], _ => rfl) (fun fd cdv A0 outer s H vs Q E hr h => ?_)
  · obtain ⟨_, ⟨d, rfl, _⟩, _⟩ := h
    rfl
  · refine ⟨_, (pss_one (ps_ret (pe_op op_mod (pv 0) pe_int))), ?_⟩
    obtain ⟨_, ⟨d, rfl, rfl⟩, k⟩ := h
    exact s_ret (ev_in (ev_mod (ev_var rfl) ev_c (by decide)) (by unfold yearOf; omega)) k
theorem ok_month_of (T : Txt K mg A) : Ok P w K mg base CX0 1 "month_of" A.f_month_of ["date"] (spV rMonth) := by
  refine T.F_f_month_of.ok T.g_month_of sc_f_month_of (fun vs H Q E h => ?_) (fun _ _ _ _ _ _ us hl => match us, hl with | [_], _ => rfl) (fun fd cdv A0 outer s H vs Q E hr h => ?_)
  · obtain ⟨_, ⟨d, rfl, _⟩, _⟩ := h
    rfl
  · refine ⟨_, (pss_one (ps_ret (pe_op op_mod (pe_op op_fdiv (pv 0) pe_int) pe_int))), ?_⟩
    obtain ⟨_, ⟨d, rfl, rfl⟩, k⟩ := h
    exact s_ret (ev_in (ev_mod (ev_div (ev_var rfl) ev_c ⟨by decide, by decide⟩) ev_c (by decide)) (by unfold monthOf; omega)) k
theorem ok_day_of (T : Txt K mg A) : Ok P w K mg base CX0 1 "day_of" A.f_day_of ["date"] (spV rDay) := by
  refine T.F_f_day_of.ok T.g_day_of sc_f_day_of (fun vs H Q E h => ?_) (fun _ _ _ _ _ _ us hl => match us, hl with | [_], _ => rfl) (fun fd cdv A0 outer s H vs Q E hr h => ?_)
  · obtain ⟨_, ⟨d, rfl, _⟩, _⟩ := h
    rfl
  · refine ⟨_, (pss_one (ps_ret (pe_op op_fdiv (pv 0) pe_int))), ?_⟩
    obtain ⟨_, ⟨d, rfl, rfl⟩, k⟩ := h
    exact s_ret (ev_in (ev_div (ev_var rfl) ev_c ⟨by decide, by decide⟩) (by unfold dayOf; omega)) k
theorem ok_is_leap (T : Txt K mg A) : Ok P w K mg base CX0 1 "is_leap" A.f_is_leap ["year"] (spV rLeap) := by
  refine T.F_f_is_leap.ok T.g_is_leap sc_f_is_leap (fun vs H Q E h => ?_) (fun _ _ _ _ _ _ us hl => match us, hl with | [_], _ => rfl) (fun fd cdv A0 outer s H vs Q E hr h => ?_)
  · obtain ⟨_, ⟨d, rfl, _⟩, _⟩ := h
    rfl
  · refine ⟨_, (pss_one (ps_ret (pe_and (pe_cmpR op_eqI (pe_op op_mod (pv 0) pe_int) pe_int (nomark _)) (pe_one (pe_or (pe_cmpR op_neI (pe_op op_mod (pv 0) pe_int) pe_int (nomark _)) (pe_one (pe_cmpR op_eqI (pe_op op_mod (pv 0) pe_int) pe_int (nomark _)))))))), ?_⟩
    obtain ⟨_, ⟨d, rfl, rfl⟩, k⟩ := h
    refine s_ret (ev_bl (ev_andV (ev_eq (ev_mod (ev_var rfl) ev_c (by decide)) ev_c) fun _ => ev_orV (ev_ne (ev_mod (ev_var rfl) ev_c (by decide)) ev_c) fun _ => ev_eq (ev_mod (ev_var rfl) ev_c (by decide)) ev_c) ?_) k
    unfold isLeap
    have e1 : decide ((d : Int) % 4 = 0) = decide (d % 4 = 0) := by congr 1; rw [eq_iff_iff]; omega
    have e2 : decide ((d : Int) % 100 = 0) = decide (d % 100 = 0) := by congr 1; rw [eq_iff_iff]; omega
    have e3 : decide ((d : Int) % 400 = 0) = decide (d % 400 = 0) := by congr 1; rw [eq_iff_iff]; omega
    rw [e1, e2, e3]
theorem ok_length_of (T : Txt K mg A) : Ok P w K mg base CX0 2 "length_of" A.f_length_of ["year", "month"] (spV rLength) := by
  have o_f_is_leap := ok_is_leap (P := P) (w := w) (base := base) T
  refine T.F_f_length_of.ok T.g_length_of sc_f_length_of (fun vs H Q E h => ?_) (fun _ _ _ _ _ _ us hl => match us, hl with | [_, _], _ => rfl) (fun fd cdv A0 outer s H vs Q E hr h => ?_)
  · obtain ⟨_, ⟨y, mo, rfl, _⟩, _⟩ := h
    rfl
  · refine ⟨_, (pss_one (ps_ret (pe_op op_add (pe_ix ix_tup (pe_gref rfl T.gML) (pe_op op_sub (pv 1) pe_int) (fun _ _ => rfl)) (pe_callTy call_int1 (by rfl) T.n_int (by decide +kernel) (pa_cons (pe_and (pe_cmpR op_eqI (pv 1) (pe_gint rfl T.g_FEBRUARY) (nomark _)) (pe_one (pe_callO o_f_is_leap (hr.mono (by decide)) pass0 rfl (pa_cons (pv 0) pa_nil)))) pa_nil))))), ?_⟩
    obtain ⟨_, ⟨y, mo, rfl, h1, h2, rfl⟩, k⟩ := h
    refine s_ret (ev_in (ev_add (i := ((MONTHS.getD (mo - 1) 0 : Nat) : Int)) (ev_ixT (j := mo - 1) ev_c (ev_in (ev_sub (ev_var rfl) ev_c) (by omega)) (T.ml H) ?_)
      (ev_cb (ea_cons (ev_andV (ev_eq (ev_var rfl) ev_c) fun _ => ev_call (ea_cons (ev_var rfl) ea_nil) (spV_ev fun _ _ => ⟨y, rfl, rfl⟩)) ea_nil) rc_int_bl)) ?_) k
    · have : mo = 1 ∨ mo = 2 ∨ mo = 3 ∨ mo = 4 ∨ mo = 5 ∨ mo = 6 ∨ mo = 7 ∨ mo = 8 ∨ mo = 9 ∨ mo = 10 ∨ mo = 11 ∨ mo = 12 := by omega
      rcases this with e | e | e | e | e | e | e | e | e | e | e | e <;> subst e <;> rfl
    · have e1 : decide ((mo : Int) = 2) = decide (mo = 2) := by congr 1; rw [eq_iff_iff]; omega
      rw [e1]
      unfold lengthOf
      split <;> simp
end
end FBW
namespace FBW
open PySem PySem.Spec PyProof.Rows L2 Evl FB
theorem dec_lt (a b : Nat) : decide ((a : Int) < (b : Int)) = decide (a < b) := by congr 1; rw [eq_iff_iff]; omega
theorem dec_le (a b : Nat) : decide ((a : Int) ≤ (b : Int)) = decide (a ≤ b) := by congr 1; rw [eq_iff_iff]; omega
theorem dec_eq (a b : Nat) : decide ((a : Int) = (b : Int)) = decide (a = b) := by congr 1; rw [eq_iff_iff]; omega
section
variable {P : Program} {w : World} {K : PySem.W.Frag} {mg : Str → Option Value} {base : Heap} {A : Ads}
theorem ok_is_date (T : Txt K mg A) : Ok P w K mg base CX0 3 "is_date" A.f_is_date ["date"] (spV rIsDate) := by
  have o_f_year_of := ok_year_of (P := P) (w := w) (base := base) T
  have o_f_month_of := ok_month_of (P := P) (w := w) (base := base) T
  have o_f_day_of := ok_day_of (P := P) (w := w) (base := base) T
  have o_f_length_of := ok_length_of (P := P) (w := w) (base := base) T
  refine T.F_f_is_date.ok T.g_is_date sc_f_is_date (fun vs H Q E h => ?_) (fun _ _ _ _ _ _ us hl => match us, hl with | [_], _ => rfl) (fun fd cdv A0 outer s H vs Q E hr h => ?_)
  · obtain ⟨_, ⟨d, rfl, _⟩, _⟩ := h
    rfl
  · refine ⟨_, (pss_cons (ps_set (i := 1) sc_f_is_date.nd rfl (Or.inl rfl) (pe_callO o_f_year_of (hr.mono (by decide)) pass0 rfl (pa_cons (pv 0) pa_nil)))
    (pss_cons (ps_set (i := 2) sc_f_is_date.nd rfl (Or.inl rfl) (pe_callO o_f_month_of (hr.mono (by decide)) pass0 rfl (pa_cons (pv 0) pa_nil)))
    (pss_cons (ps_if (PW.pt (pw_or (pt_cmpR op_lt (pv 1) (pe_gint rfl T.g_FIRST_YEAR) (nomark _)) (pw_or (pt_cmpR op_gt (pv 1) (pe_gint rfl T.g_LAST_YEAR) (nomark _)) (pw_or (pt_cmpR op_lt (pv 2) pe_int (nomark _)) (pw_or1 (pt_cmpR op_gt (pv 2) pe_int (nomark _))))))) (pss_one (ps_ret pe_bl)) pss_nil)
    (pss_one (ps_ret (pe_chain op_le op_le pe_int (pe_callO o_f_day_of (hr.mono (by decide)) pass0 rfl (pa_cons (pv 0) pa_nil)) (pe_callO o_f_length_of (hr.mono (by decide)) pass0 rfl (pa_cons (pv 1) (pa_cons (pv 2) pa_nil))))))))), ?_⟩
    obtain ⟨_, ⟨d, rfl, rfl⟩, k⟩ := h
    refine q_asg (ev_call (ea_cons (ev_var rfl) ea_nil) (spV_ev fun _ _ => ⟨d, rfl, rfl⟩)) fun H1 e1 => ?_
    refine q_asg (ev_call (ea_cons (ev_var rfl) ea_nil) (spV_ev fun _ _ => ⟨d, rfl, rfl⟩)) fun H2 e2 => ?_
    refine q_when (b := decide (yearOf d < 1900 ∨ 2199 < yearOf d ∨ monthOf d < 1 ∨ 12 < monthOf d)) (et_is (et_or (et_test (ev_lt (ev_var rfl) ev_c)) fun _ => et_or (et_test (ev_gt (ev_var rfl) ev_c)) fun _ => et_or (et_test (ev_lt (ev_var rfl) ev_c)) fun _ => et_test (ev_gt (ev_var rfl) ev_c)) ?_) (fun hb H3 e3 => ?_) (fun hb H3 e3 => ?_)
    · rw [Bool.eq_iff_iff]
      simp only [Bool.or_eq_true, decide_eq_true_eq]
      omega
    · refine s_ret ev_c fun H4 e4 => ?_
      have q := k H4 (((e1.trans e2).trans e3).trans e4)
      have e : isDate d = false := by unfold isDate; rw [if_pos (of_decide_eq_true hb)]
      rw [e] at q
      exact q
    · have hb' := of_decide_eq_false hb
      refine s_ret (ev_bl (ev_chain ev_c (ev_call (ea_cons (ev_var rfl) ea_nil) (spV_ev fun _ _ => ⟨d, rfl, rfl⟩)) (ev_call (ea_cons (ev_var rfl) (ea_cons (ev_var rfl) ea_nil)) (spV_ev fun _ _ => ⟨yearOf d, monthOf d, rfl, by omega, by omega, rfl⟩)) rv_I0 rv_I0) ?_) fun H4 e4 => k H4 (((e1.trans e2).trans e3).trans e4)
      unfold isDate
      rw [if_neg hb']
      have c1 : decide ((1 : Int) ≤ ((dayOf d : Nat) : Int)) = decide (1 ≤ dayOf d) := by congr 1; rw [eq_iff_iff]; omega
      rw [c1, dec_le]
theorem ok_leaps_before (T : Txt K mg A) : Ok P w K mg base CX0 1 "leaps_before" A.f_leaps_before ["year"] (spV rLeaps) := by
  refine T.F_f_leaps_before.ok T.g_leaps_before sc_f_leaps_before (fun vs H Q E h => ?_) (fun _ _ _ _ _ _ us hl => match us, hl with | [_], _ => rfl) (fun fd cdv A0 outer s H vs Q E hr h => ?_)
  · obtain ⟨_, ⟨d, rfl, _⟩, _⟩ := h
    rfl
  · refine ⟨_, (pss_cons (ps_set (i := 1) sc_f_leaps_before.nd rfl (Or.inl rfl) (pe_op op_sub (pv 0) pe_int))
    (pss_one (ps_ret (pe_op op_add (pe_op op_sub (pe_op op_fdiv (pv 1) pe_int) (pe_op op_fdiv (pv 1) pe_int)) (pe_op op_fdiv (pv 1) pe_int))))), ?_⟩
    obtain ⟨_, ⟨y, rfl, hy, rfl⟩, k⟩ := h
    refine q_asg (ev_in (j := ((y - 1 : Nat) : Int)) (ev_sub (ev_var rfl) ev_c) (by omega)) fun H1 e1 => ?_
    refine s_ret (ev_in (ev_add (ev_sub (ev_div (ev_var rfl) ev_c ⟨by decide, by decide⟩) (ev_div (ev_var rfl) ev_c ⟨by decide, by decide⟩)) (ev_div (ev_var rfl) ev_c ⟨by decide, by decide⟩)) ?_) fun H2 e2 => k H2 (e1.trans e2)
    unfold leapsBefore
    omega
theorem ok_number_of (T : Txt K mg A) : Ok P w K mg base CX0 3 "number_of" A.f_number_of ["date"] (spV rNumber) := by
  have o_f_year_of := ok_year_of (P := P) (w := w) (base := base) T
  have o_f_month_of := ok_month_of (P := P) (w := w) (base := base) T
  have o_f_day_of := ok_day_of (P := P) (w := w) (base := base) T
  have o_f_length_of := ok_length_of (P := P) (w := w) (base := base) T
  have o_f_leaps_before := ok_leaps_before (P := P) (w := w) (base := base) T
  refine T.F_f_number_of.ok T.g_number_of sc_f_number_of (fun vs H Q E h => ?_) (fun _ _ _ _ _ _ us hl => match us, hl with | [_], _ => rfl) (fun fd cdv A0 outer s H vs Q E hr h => ?_)
  · obtain ⟨_, ⟨d, rfl, _⟩, _⟩ := h
    rfl
  · refine ⟨_, (pss_cons (ps_set (i := 1) sc_f_number_of.nd rfl (Or.inl rfl) (pe_callO o_f_year_of (hr.mono (by decide)) pass0 rfl (pa_cons (pv 0) pa_nil)))
    (pss_cons (ps_set (i := 2) sc_f_number_of.nd rfl (Or.inl rfl) (pe_callO o_f_month_of (hr.mono (by decide)) pass0 rfl (pa_cons (pv 0) pa_nil)))
    (pss_cons (ps_set (i := 3) sc_f_number_of.nd rfl (Or.inl rfl) (pe_op op_add (pe_op op_add (pe_op op_mul pe_int (pv 1)) (pe_callO o_f_leaps_before (hr.mono (by decide)) pass0 rfl (pa_cons (pv 1) pa_nil))) (pe_callO o_f_day_of (hr.mono (by decide)) pass0 rfl (pa_cons (pv 0) pa_nil))))
    (pss_cons (ps_for PassesOwn.never rfl (pi_range2 (by rfl) T.n_range (pa_cons pe_int (pa_cons (pv 2) pa_nil))) (pg_name (i := 4) sc_f_number_of.nd rfl (Or.inl rfl)) (pss_one (ps_aug (i := 3) sc_f_number_of.nd rfl (Or.inl rfl) (pe_callO o_f_length_of (hr.mono (by decide)) pass0 rfl (pa_cons (pv 1) (pa_cons (pv 4) pa_nil))) ip_add)))
    (pss_one (ps_ret (pv 3))))))), ?_⟩
    obtain ⟨_, ⟨d, rfl, hd, rfl⟩, k⟩ := h
    obtain ⟨h1, h2, h3, h4, h5, h6⟩ := isDate_parts hd
    refine q_asg (ev_call (ea_cons (ev_var rfl) ea_nil) (spV_ev fun _ _ => ⟨d, rfl, rfl⟩)) fun H1 e1 => ?_
    refine q_asg (ev_call (ea_cons (ev_var rfl) ea_nil) (spV_ev fun _ _ => ⟨d, rfl, rfl⟩)) fun H2 e2 => ?_
    refine q_asg (ev_in (j := ((365 * yearOf d + leapsBefore (yearOf d) + dayOf d : Nat) : Int)) (ev_add (ev_add (ev_mul ev_c (ev_var rfl) (.inl ⟨by decide, by decide⟩)) (ev_call (ea_cons (ev_var rfl) ea_nil) (spV_ev fun _ _ => ⟨yearOf d, rfl, by omega, rfl⟩)))
      (ev_call (ea_cons (ev_var rfl) ea_nil) (spV_ev fun _ _ => ⟨d, rfl, rfl⟩))) (by simp)) fun H3 e3 => ?_
    refine q_forR2 (lo := 1) (n := ((monthOf d : Nat) : Int)) (ea_cons ev_c (ea_cons (ev_var rfl) ea_nil)) (by omega)
      (fun i σ H' => ∃ v, σ = [some (.int (d : Int)), some (.int (yearOf d : Nat)), some (.int (monthOf d : Nat)), some (.int ((365 * yearOf d + leapsBefore (yearOf d) + dayOf d + monthsSum (yearOf d) i : Nat) : Int)), v] ∧ Ex H3 H') (fun H4 e4 => ⟨none, rfl, e4⟩) ?_ ?_
    · rintro i σ H' hi ⟨v, rfl, e5⟩
      refine s_aug rfl (ev_call (ea_cons (ev_var rfl) (ea_cons (ev_in (j := ((i + 1 : Nat) : Int)) (ev_var rfl) (by omega)) ea_nil)) (spV_ev fun _ _ => ⟨yearOf d, i + 1, rfl, by omega, by omega, rfl⟩)) fun H6 e6 => ⟨some (.int (1 + (i : Int))), ?_, e5.trans e6⟩
      show [_, _, _, some (V.int (((365 * yearOf d + leapsBefore (yearOf d) + dayOf d + monthsSum (yearOf d) i : Nat) : Int) + ((lengthOf (yearOf d) (i + 1) : Nat) : Int))), _] = _
      rw [show ((365 * yearOf d + leapsBefore (yearOf d) + dayOf d + monthsSum (yearOf d) i : Nat) : Int) + ((lengthOf (yearOf d) (i + 1) : Nat) : Int) = ((365 * yearOf d + leapsBefore (yearOf d) + dayOf d + monthsSum (yearOf d) (i + 1) : Nat) : Int) from by
        show _ = ((365 * yearOf d + leapsBefore (yearOf d) + dayOf d + (monthsSum (yearOf d) i + lengthOf (yearOf d) (i + 1)) : Nat) : Int)
        omega]
    · rintro σ H' ⟨v, rfl, e5⟩
      refine s_ret (ev_in (ev_var rfl) ?_) fun H6 e6 => k H6 ((((e1.trans e2).trans e3).trans e5).trans e6)
      unfold numberOf
      rw [show ((monthOf d : Int) - 1).toNat = monthOf d - 1 by omega]
end
end FBW
/-! The book read: its fields, its parts, kinds, aeroplanes. -/
namespace FBW
open PySem PySem.Spec PyProof.Rows L2 Evl FB
section
variable {K : PySem.W.Frag} {mg : Str → Option Value} {A : Ads} {L : Lay} {m : M} {H : Hp} {σ : L2.St} {te ti : TE} {i : Nat}
theorem evB_kinds (T : Txt K mg A) (b : BookAt A L m H) (h : Ev te σ H (.ref (L.ad .book))) : Ev (tFld K te "kinds") σ H (.ref (L.ad .kl)) := ev_fld h b.book T.cl_Book T.na_Book_kinds bF_kinds
theorem evB_parts (T : Txt K mg A) (b : BookAt A L m H) (h : Ev te σ H (.ref (L.ad .book))) : Ev (tFld K te "parts") σ H (.ref (L.ad .pl)) := ev_fld h b.book T.cl_Book T.na_Book_parts bF_parts
theorem evB_planes (T : Txt K mg A) (b : BookAt A L m H) (h : Ev te σ H (.ref (L.ad .book))) : Ev (tFld K te "planes") σ H (.ref (L.ad .al)) := ev_fld h b.book T.cl_Book T.na_Book_planes bF_planes
theorem evB_last (T : Txt K mg A) (b : BookAt A L m H) (h : Ev te σ H (.ref (L.ad .book))) : Ev (tFld K te "last_day") σ H (.int (m.last : Int)) := ev_fld h b.book T.cl_Book T.na_Book_last_day bF_last
theorem evB_part (T : Txt K mg A) (b : BookAt A L m H) (h : Ev te σ H (.ref (L.ad .book))) (hi : Ev ti σ H (.int (i : Int))) (l : i < m.parts.length) : Ev (tOp (rIxL K) (tFld K te "parts") ti) σ H (.ref (L.ad (.pt i))) := ev_ixL (evB_parts T b h) hi (sq_of b.pl) (refs_get l)
theorem evB_kind (T : Txt K mg A) (b : BookAt A L m H) (h : Ev te σ H (.ref (L.ad .book))) (hi : Ev ti σ H (.int (i : Int))) (l : i < m.kinds.length) : Ev (tOp (rIxL K) (tFld K te "kinds") ti) σ H (.ref (L.ad (.kd i))) := ev_ixL (evB_kinds T b h) hi (sq_of b.kl) (refs_get l)
theorem evB_plane (T : Txt K mg A) (b : BookAt A L m H) (h : Ev te σ H (.ref (L.ad .book))) (hi : Ev ti σ H (.int (i : Int))) (l : i < m.planes.length) : Ev (tOp (rIxL K) (tFld K te "planes") ti) σ H (.ref (L.ad (.an i))) := ev_ixL (evB_planes T b h) hi (sq_of b.al) (refs_get l)
theorem evK_m (T : Txt K mg A) (b : BookAt A L m H) (l : i < m.kinds.length) (h : Ev te σ H (.ref (L.ad (.kd i)))) : Ev (tFld K te "minutes") σ H (.ref (L.ad (.km i))) := ev_fld h (b.kd l) T.cl_Kind T.na_Kind_minutes kF_m
theorem evK_l (T : Txt K mg A) (b : BookAt A L m H) (l : i < m.kinds.length) (h : Ev te σ H (.ref (L.ad (.kd i)))) : Ev (tFld K te "landings") σ H (.ref (L.ad (.kn i))) := ev_fld h (b.kd l) T.cl_Kind T.na_Kind_landings kF_l
theorem evK_d (T : Txt K mg A) (b : BookAt A L m H) (l : i < m.kinds.length) (h : Ev te σ H (.ref (L.ad (.kd i)))) : Ev (tFld K te "days") σ H (.ref (L.ad (.ky i))) := ev_fld h (b.kd l) T.cl_Kind T.na_Kind_days kF_d
theorem evP_kind (T : Txt K mg A) (b : BookAt A L m H) (l : i < m.parts.length) (h : Ev te σ H (.ref (L.ad (.pt i)))) : Ev (tFld K te "kind") σ H (.int ((m.part i).kind : Int)) := ev_fld h (b.pt l) T.cl_Part T.na_Part_kind pF_kind
theorem evP_plane (T : Txt K mg A) (b : BookAt A L m H) (l : i < m.parts.length) (h : Ev te σ H (.ref (L.ad (.pt i)))) : Ev (tFld K te "plane") σ H (.int ((m.part i).plane : Int)) := ev_fld h (b.pt l) T.cl_Part T.na_Part_plane pF_plane
theorem evP_minutes (T : Txt K mg A) (b : BookAt A L m H) (l : i < m.parts.length) (h : Ev te σ H (.ref (L.ad (.pt i)))) : Ev (tFld K te "minutes") σ H (.int ((m.part i).minutes : Int)) := ev_fld h (b.pt l) T.cl_Part T.na_Part_minutes pF_minutes
theorem evP_landings (T : Txt K mg A) (b : BookAt A L m H) (l : i < m.parts.length) (h : Ev te σ H (.ref (L.ad (.pt i)))) : Ev (tFld K te "landings") σ H (.int ((m.part i).landings : Int)) := ev_fld h (b.pt l) T.cl_Part T.na_Part_landings pF_landings
theorem evP_ms (T : Txt K mg A) (b : BookAt A L m H) (l : i < m.parts.length) (h : Ev te σ H (.ref (L.ad (.pt i)))) : Ev (tFld K te "minutes_since") σ H (.ref (L.ad (.pm i))) := ev_fld h (b.pt l) T.cl_Part T.na_Part_minutes_since pF_ms
theorem evP_ls (T : Txt K mg A) (b : BookAt A L m H) (l : i < m.parts.length) (h : Ev te σ H (.ref (L.ad (.pt i)))) : Ev (tFld K te "landings_since") σ H (.ref (L.ad (.pn i))) := ev_fld h (b.pt l) T.cl_Part T.na_Part_landings_since pF_ls
theorem evP_dn (T : Txt K mg A) (b : BookAt A L m H) (l : i < m.parts.length) (h : Ev te σ H (.ref (L.ad (.pt i)))) : Ev (tFld K te "done_on") σ H (.ref (L.ad (.py i))) := ev_fld h (b.pt l) T.cl_Part T.na_Part_done_on pF_dn
theorem evA_flown (T : Txt K mg A) (b : BookAt A L m H) (l : i < m.planes.length) (h : Ev te σ H (.ref (L.ad (.an i)))) : Ev (tFld K te "flown") σ H (.ref (L.ad (.af i))) := ev_fld h (b.an l) T.cl_Plane T.na_Plane_flown aF_flown
theorem evA_go (T : Txt K mg A) (b : BookAt A L m H) (l : i < m.planes.length) (h : Ev te σ H (.ref (L.ad (.an i)))) : Ev (tFld K te "let_go") σ H (.int ((m.plane i).go : Int)) := ev_fld h (b.an l) T.cl_Plane T.na_Plane_let_go aF_go
/-- xs[t] of a list of numbers -/
theorem ev_nat {l : List Nat} {p : Addr} {t : Nat} (h : Ev te σ H (.ref p)) (hi : Ev ti σ H (.int (t : Int))) (hl : H p = some (.lst (nats l))) (ht : t < l.length) : Ev (tOp (rIxL K) te ti) σ H (.int ((l.getD t 0 : Nat) : Int)) := ev_ixL h hi (sq_of hl) (nats_get ht)
theorem evB_lenParts (T : Txt K mg A) (b : BookAt A L m H) (h : Ev te σ H (.ref (L.ad .book))) : Ev (tCB (rLenS K) (tCons (tFld K te "parts") tNil)) σ H (.int (m.parts.length : Int)) := by
  have q := ev_lenL (K := K) (evB_parts T b h) b.pl
  rw [refs_len] at q
  exact q
theorem evB_lenKinds (T : Txt K mg A) (b : BookAt A L m H) (h : Ev te σ H (.ref (L.ad .book))) : Ev (tCB (rLenS K) (tCons (tFld K te "kinds") tNil)) σ H (.int (m.kinds.length : Int)) := by
  have q := ev_lenL (K := K) (evB_kinds T b h) b.kl
  rw [refs_len] at q
  exact q
theorem evA_lenFlown (T : Txt K mg A) (b : BookAt A L m H) (l : i < m.planes.length) (h : Ev te σ H (.ref (L.ad (.an i)))) : Ev (tCB (rLenS K) (tCons (tFld K te "flown") tNil)) σ H (.int ((m.plane i).flown.length : Int)) := by
  have q := ev_lenL (K := K) (evA_flown T b l h) (b.af l)
  rw [nats_len] at q
  exact q
end
end FBW
namespace FBW
open PySem PySem.Spec PyProof.Rows L2 Evl FB
section
variable {P : Program} {w : World} {K : PySem.W.Frag} {mg : Str → Option Value} {base : Heap} {A : Ads}
theorem ok_parts_in (T : Txt K mg A) : Ok P w K mg base CX0 1 "parts_in" A.f_parts_in ["book", "plane"] (spL (rPartsIn A)) := by
  refine T.F_f_parts_in.ok T.g_parts_in sc_f_parts_in (fun vs H Q E h => ?_) (fun _ _ _ _ _ _ us hl => match us, hl with | [_, _], _ => rfl) (fun fd cdv A0 outer s H vs Q E hr h => ?_)
  · obtain ⟨_, ⟨L, m, a, rfl, _⟩, _⟩ := h
    rfl
  -- slots: 0 book, 1 plane, 2 number
  refine ⟨_, (pss_one (ps_ret (pe_lc (own := [("number", 2)]) (g := gName 2) (tt := tTest (tOp (rI0 fun i j => .bl (decide (i = j))) (tFld K (tOp (rIxL K) (tFld K (tVar 0) "parts") (tVar 2)) "plane") (tVar 1))) rfl sc_f_parts_in.nd (pi_range1 (by rfl) T.n_range (pa_cons (pe_callB call_len_seq (by rfl) T.n_len PySem.boot_len (pa_cons (pe_fld (pv 0) rfl) pa_nil)) pa_nil)) (blkOk_by (N := ["book", "plane", "number"]) (sc := defScope s_f_parts_in) (by decide +kernel)) (fun _ _ _ _ _ => pg_name (i := 2) sc_f_parts_in.nd rfl (Or.inl rfl)) (fun _ _ _ _ _ => by exact (pts_one (pt_cmpR op_eqI (pe_fld (by exact (pe_ix ix_list (pe_fld (pv 0) rfl) (pv 2) (fun _ _ => rfl))) rfl) (pv 1) (nomark _)))) (fun _ _ _ _ _ => by exact (pv 2))))), ?_⟩
  obtain ⟨_, ⟨L, m, a, rfl, b, hn, rfl⟩, k⟩ := h
  refine s_retL (EvL.to (el_lcR1 (fun i => decide ((m.part i).plane = a)) (fun i => V.int (i : Int)) (ea_cons (evB_lenParts T b (ev_var rfl)) ea_nil) (by omega) (fun _ => rfl) (fun i H1 e1 hi => ?_) (fun i H1 e1 hi _ => ev_var rfl)) ?_) k
  · exact et_is (et_test (ev_eq (evP_plane T (b.mono e1) (by omega) (evB_part T (b.mono e1) (ev_var rfl) (ev_var rfl) (by omega))) (ev_var rfl))) (dec_eq _ _)
  · unfold given nats M.partsIn
    rw [Int.toNat_natCast]
theorem ok_is_past (T : Txt K mg A) : Ok P w K mg base CX0 1 "is_past" A.f_is_past ["limit", "count"] (spV rPast) := by
  refine T.F_f_is_past.ok T.g_is_past sc_f_is_past (fun vs H Q E h => ?_) (fun _ _ _ _ _ _ us hl => match us, hl with | [_, _], _ => rfl) (fun fd cdv A0 outer s H vs Q E hr h => ?_)
  · obtain ⟨_, ⟨l, c, rfl, _⟩, _⟩ := h
    rfl
  -- slots: 0 limit, 1 count
  refine ⟨_, (pss_one (ps_ret (pe_and (pe_cmpR op_gt (pv 0) pe_int (nomark _)) (pe_one (pe_cmpR op_gt (pv 1) (pv 0) (nomark _)))))), ?_⟩
  obtain ⟨_, ⟨l, c, rfl, rfl⟩, k⟩ := h
  exact s_ret (ev_andV (ev_gt (ev_var rfl) ev_c) fun _ => ev_gt (ev_var rfl) (ev_var rfl)) k
theorem ok_what_bars (T : Txt K mg A) : Ok P w K mg base CX0 2 "what_bars" A.f_what_bars ["book", "part", "task", "day", "minutes"] (spV (rWhat A)) := by
  have o_f_is_past := ok_is_past (P := P) (w := w) (base := base) T
  refine T.F_f_what_bars.ok T.g_what_bars sc_f_what_bars (fun vs H Q E h => ?_) (fun _ _ _ _ _ _ us hl => match us, hl with | [_, _, _, _, _], _ => rfl) (fun fd cdv A0 outer s H vs Q E hr h => ?_)
  · obtain ⟨_, ⟨L, m, c, i, t, day, n, rfl, _⟩, _⟩ := h
    rfl
  -- slots: 0 book, 1 part, 2 task, 3 day, 4 minutes, 5 kind
  refine ⟨_, (pss_cons (ps_set (i := 5) sc_f_what_bars.nd rfl (Or.inl rfl) (pe_ix ix_list (pe_fld (pv 0) rfl) (pe_fld (pv 1) rfl) (fun _ _ => rfl)))
    (pss_cons (ps_if (pt_val (pe_callO o_f_is_past (hr.mono (by decide)) pass0 rfl (pa_cons (pe_ix ix_list (pe_fld (pv 5) rfl) (pv 2) (fun _ _ => rfl)) (pa_cons (pe_op op_add (pe_ix ix_list (pe_fld (pv 1) rfl) (pv 2) (fun _ _ => rfl)) (pv 4)) pa_nil)))) (pss_one (ps_ret (pe_gint rfl T.g_BY_MINUTES))) pss_nil)
    (pss_cons (ps_if (pt_val (pe_callO o_f_is_past (hr.mono (by decide)) pass0 rfl (pa_cons (pe_ix ix_list (pe_fld (pv 5) rfl) (pv 2) (fun _ _ => rfl)) (pa_cons (pe_op op_add (pe_ix ix_list (pe_fld (pv 1) rfl) (pv 2) (fun _ _ => rfl)) pe_int) pa_nil)))) (pss_one (ps_ret (pe_gint rfl T.g_BY_LANDINGS))) pss_nil)
    (pss_cons (ps_if (pt_val (pe_callO o_f_is_past (hr.mono (by decide)) pass0 rfl (pa_cons (pe_ix ix_list (pe_fld (pv 5) rfl) (pv 2) (fun _ _ => rfl)) (pa_cons (pe_op op_sub (pv 3) (pe_ix ix_list (pe_fld (pv 1) rfl) (pv 2) (fun _ _ => rfl))) pa_nil)))) (pss_one (ps_ret (pe_gint rfl T.g_BY_DAYS))) pss_nil)
    (pss_one (ps_ret pe_non)))))), ?_⟩
  obtain ⟨_, ⟨L, m, c, i, t, day, n, rfl, b, g, hi, ht, rfl⟩, k⟩ := h
  have gp := g.parts _ (part_mem hi)
  have gk := g.kinds _ (kind_mem gp.kind)
  refine q_asg (evB_kind T b (ev_var rfl) (evP_kind T b hi (ev_var rfl)) gp.kind) fun H1 e1 => ?_
  have b1 := b.mono e1
  refine q_when (et_B (ev_call (ea_cons (ev_nat (evK_m T b1 gp.kind (ev_var rfl)) (ev_var rfl) (b1.km gp.kind) (by rw [gk.lm]; exact ht)) (ea_cons (ev_add (ev_nat (evP_ms T b1 hi (ev_var rfl)) (ev_var rfl) (b1.pm hi) (by rw [gp.lm]; exact ht)) (ev_var rfl)) ea_nil)) (spV_ev fun _ _ => ⟨_, _, rfl, rfl⟩))) (fun h0 H2 e2 => ?_) (fun h0 H2 e2 => ?_)
  · refine s_ret ev_c fun H3 e3 => ?_
    have q := k H3 ((e1.trans e2).trans e3)
    unfold whatBars at q
    rw [if_pos h0] at q
    exact q
  have b2 := b1.mono e2
  refine q_when (et_B (ev_call (ea_cons (ev_nat (evK_l T b2 gp.kind (ev_var rfl)) (ev_var rfl) (b2.kn gp.kind) (by rw [gk.ll]; exact ht)) (ea_cons (ev_add (ev_nat (evP_ls T b2 hi (ev_var rfl)) (ev_var rfl) (b2.pn hi) (by rw [gp.ll]; exact ht)) ev_c) ea_nil)) (spV_ev fun _ _ => ⟨_, _, rfl, rfl⟩))) (fun h1 H3 e3 => ?_) (fun h1 H3 e3 => ?_)
  · refine s_ret ev_c fun H4 e4 => ?_
    have q := k H4 (((e1.trans e2).trans e3).trans e4)
    unfold whatBars at q
    rw [h0, if_neg Bool.false_ne_true, if_pos h1] at q
    exact q
  have b3 := b2.mono e3
  refine q_when (et_B (ev_call (ea_cons (ev_nat (evK_d T b3 gp.kind (ev_var rfl)) (ev_var rfl) (b3.ky gp.kind) (by rw [gk.ld]; exact ht)) (ea_cons (ev_sub (ev_var rfl) (ev_nat (evP_dn T b3 hi (ev_var rfl)) (ev_var rfl) (b3.py hi) (by rw [gp.ld]; exact ht))) ea_nil)) (spV_ev fun _ _ => ⟨_, _, rfl, rfl⟩))) (fun h2 H4 e4 => ?_) (fun h2 H4 e4 => ?_)
  · refine s_ret ev_c fun H5 e5 => ?_
    have q := k H5 ((((e1.trans e2).trans e3).trans e4).trans e5)
    unfold whatBars at q
    rw [h0, if_neg Bool.false_ne_true, h1, if_neg Bool.false_ne_true, if_pos h2] at q
    exact q
  · refine s_ret ev_c fun H5 e5 => ?_
    have q := k H5 ((((e1.trans e2).trans e3).trans e4).trans e5)
    unfold whatBars at q
    rw [h0, if_neg Bool.false_ne_true, h1, if_neg Bool.false_ne_true, h2, if_neg Bool.false_ne_true] at q
    exact q
theorem ok_least_left (T : Txt K mg A) : Ok P w K mg base CX0 1 "least_left" A.f_least_left ["limit", "count", "least"] (spV rLeast) := by
  refine T.F_f_least_left.ok T.g_least_left sc_f_least_left (fun vs H Q E h => ?_) (fun _ _ _ _ _ _ us hl => match us, hl with | [_, _, _], _ => rfl) (fun fd cdv A0 outer s H vs Q E hr h => ?_)
  · obtain ⟨_, ⟨l, c, z, rfl, _⟩, _⟩ := h
    rfl
  -- slots: 0 limit, 1 count, 2 least
  refine ⟨_, (pss_cons (ps_if (pt_cmpR op_eqI (pv 0) pe_int (nomark _)) (pss_one (ps_ret (pv 2))) pss_nil)
    (pss_one (ps_ret (pe_callB (call_min2 rfl) (by rfl) T.n_min (by decide +kernel) (pa_cons (pv 2) (pa_cons (pe_callB (call_max2 rfl) (by rfl) T.n_max (by decide +kernel) (pa_cons pe_int (pa_cons (pe_op op_sub (pv 0) (pv 1)) pa_nil))) pa_nil)))))), ?_⟩
  obtain ⟨_, ⟨l, c, z, rfl, rfl⟩, k⟩ := h
  refine q_when (et_test (ev_eq (ev_var rfl) ev_c)) (fun h0 H2 e2 => ?_) (fun h0 H2 e2 => ?_)
  · refine s_ret (ev_var rfl) fun H3 e3 => ?_
    have q := k H3 (e2.trans e3)
    unfold leastLeft at q
    rw [if_pos (of_decide_eq_true h0)] at q
    exact q
  · refine s_ret (ev_cb (ea_cons (ev_var rfl) (ea_cons (ev_cb (ea_cons ev_c (ea_cons (ev_sub (ev_var rfl) (ev_var rfl)) ea_nil)) rc_max) ea_nil)) rc_min) fun H3 e3 => ?_
    have q := k H3 (e2.trans e3)
    unfold leastLeft at q
    rw [if_neg (of_decide_eq_false h0)] at q
    exact q
theorem ok_m_is_away (T : Txt K mg A) : OkM P w K mg base CX0 1 A.m_is_away ["self"] (spV (rAway A)) := by
  refine T.F_m_is_away.okM sc_m_is_away (fun vs H Q E h => ?_) (fun _ _ _ _ _ _ us hl => match us, hl with | [_], _ => rfl) (fun fd cdv A0 outer s H vs Q E hr h => ?_)
  · obtain ⟨_, ⟨L, m, a, rfl, _⟩, _⟩ := h
    rfl
  -- slots: 0 self
  refine ⟨_, (pss_one (ps_ret (pe_cmpR op_gt (pe_fld (pv 0) rfl) pe_int (nomark _)))), ?_⟩
  obtain ⟨_, ⟨L, m, a, rfl, b, ha, rfl⟩, k⟩ := h
  refine s_ret (ev_bl (ev_gt (evA_go T b ha (ev_var rfl)) ev_c) ?_) k
  unfold M.away
  congr 1
  rw [eq_iff_iff]
  omega
theorem ok_told_again (T : Txt K mg A) : Ok P w K mg base CX0 1 "told_again" A.f_told_again ["plane", "number", "minutes"] (spL (rAgain A)) := by
  refine T.F_f_told_again.ok T.g_told_again sc_f_told_again (fun vs H Q E h => ?_) (fun _ _ _ _ _ _ us hl => match us, hl with | [_, _, _], _ => rfl) (fun fd cdv A0 outer s H vs Q E hr h => ?_)
  · obtain ⟨_, ⟨L, m, a, z, n, rfl, _⟩, _⟩ := h
    rfl
  -- slots: 0 plane, 1 number, 2 minutes
  refine ⟨_, (pss_cons (ps_if (PW.pt (pw_or (pt_cmpR op_eqI (pe_ix ix_list (pe_fld (pv 0) rfl) (pv 1) (fun _ _ => rfl)) (pv 2) (nomark _)) (pw_or1 (pt_cmpR op_ge (pe_op op_sub (pe_op op_sub (pe_callB call_len_seq (by rfl) T.n_len PySem.boot_len (pa_cons (pe_fld (pv 0) rfl) pa_nil)) pe_int) (pv 1)) (pe_gint rfl T.g_MOST_SINCE) (nomark _))))) (pss_one (ps_ret (pe_lst (pa_cons pe_int pa_nil)))) pss_nil)
    (pss_one (ps_ret (pe_lst (pa_cons (pe_gint rfl T.g_OTHERWISE) pa_nil))))), ?_⟩
  obtain ⟨_, ⟨L, m, a, z, n, rfl, b, ha, hz, rfl⟩, k⟩ := h
  refine q_when (b := decide ((m.plane a).flown.getD z 0 = n ∨ 64 ≤ ((m.plane a).flown.length : Int) - 1 - z)) (et_is (et_or (et_test (ev_eq (ev_nat (evA_flown T b ha (ev_var rfl)) (ev_var rfl) (b.af ha) hz) (ev_var rfl))) fun _ => et_test (ev_ge (ev_sub (ev_sub (evA_lenFlown T b ha (ev_var rfl)) ev_c) (ev_var rfl)) ev_c)) ?_) (fun h0 H2 e2 => ?_) (fun h0 H2 e2 => ?_)
  · rw [dec_eq, Bool.eq_iff_iff]
    simp only [Bool.or_eq_true, decide_eq_true_eq]
  · refine s_retL (el_lst (ea_cons ev_c ea_nil) (by show 1 ≤ 100000; decide)) fun p H3 hp e3 h3 => ?_
    refine k p H3 (fresh_back e2 hp) (e2.trans e3) ?_
    unfold toldAgain
    rw [if_pos (of_decide_eq_true h0)]
    exact h3
  · refine s_retL (el_lst (ea_cons ev_c ea_nil) (by show 1 ≤ 100000; decide)) fun p H3 hp e3 h3 => ?_
    refine k p H3 (fresh_back e2 hp) (e2.trans e3) ?_
    unfold toldAgain
    rw [if_neg (of_decide_eq_false h0)]
    exact h3
end
end FBW
namespace FBW
open PySem PySem.Spec PyProof.Rows L2 Evl FB
theorem take_more {α : Type} : ∀ {l : List α} {i : Nat} {x : α}, l[i]? = some x → l.take (i + 1) = l.take i ++ [x]
  | [], i, x, h => by simp at h
  | a :: l, 0, x, h => by
    have e : a = x := Option.some.inj h
    subst e
    rfl
  | a :: l, i + 1, x, h => by
    have ih := take_more (l := l) (i := i) (x := x) h
    show a :: l.take (i + 1) = a :: l.take i ++ [x]
    rw [ih]
    rfl
theorem find_append {α β : Type} (f : α → Option β) : ∀ l r : List α, (l ++ r).findSome? f = match l.findSome? f with | some y => some y | none => r.findSome? f
  | [], r => rfl
  | x :: l, r => by
    rw [List.cons_append, List.findSome?_cons, List.findSome?_cons, find_append f l r]
    cases f x <;> rfl
theorem find_none {α β : Type} {f : α → Option β} {l : List α} {i : Nat} {x : α} (h : (l.take i).findSome? f = none) (hx : l[i]? = some x) (hf : f x = none) : (l.take (i + 1)).findSome? f = none := by
  rw [take_more hx, find_append, h]
  show ([x] : List α).findSome? f = none
  rw [List.findSome?_cons, hf]
  rfl
theorem find_at {α β : Type} {f : α → Option β} {l : List α} {i : Nat} {x : α} {y : β} (h : (l.take i).findSome? f = none) (hx : l[i]? = some x) (hf : f x = some y) : l.findSome? f = some y := by
  have e : l = l.take (i + 1) ++ l.drop (i + 1) := (List.take_append_drop _ _).symm
  rw [e, find_append, take_more hx, find_append, h]
  show (match ([x] : List α).findSome? f with | some y => some y | none => _) = _
  rw [List.findSome?_cons, hf]
theorem fold_more {α β : Type} {f : β → α → β} {l : List α} {i : Nat} {x : α} {s : β} (hx : l[i]? = some x) : (l.take (i + 1)).foldl f s = f ((l.take i).foldl f s) x := by
  rw [take_more hx, List.foldl_append]
  rfl
theorem range_get {n i : Nat} (h : i < n) : (List.range n)[i]? = some i := List.getElem?_range h
theorem nats_some {l : List Nat} {i : Nat} {x : V} (h : (nats l)[i]? = some x) : ∃ z, l[i]? = some z ∧ x = .int (z : Int) := by
  unfold nats at h
  rw [List.getElem?_map] at h
  cases e : l[i]? with
  | none => rw [e] at h <;> cases h
  | some z => rw [e] at h; exact ⟨z, rfl, (Option.some.inj h).symm⟩
section
variable {P : Program} {w : World} {K : PySem.W.Frag} {mg : Str → Option Value} {base : Heap} {A : Ads}
theorem ok_first_bar (T : Txt K mg A) : Ok P w K mg base CX0 4 "first_bar" A.f_first_bar ["book", "plane", "date", "minutes"] (spBar A) := by
  have o_f_number_of := ok_number_of (P := P) (w := w) (base := base) T
  have o_f_parts_in := ok_parts_in (P := P) (w := w) (base := base) T
  have o_f_what_bars := ok_what_bars (P := P) (w := w) (base := base) T
  refine T.F_f_first_bar.ok T.g_first_bar sc_f_first_bar (fun vs H Q E h => ?_) (fun _ _ _ _ _ _ us hl => match us, hl with | [_, _, _, _], _ => rfl) (fun fd cdv A0 outer s H vs Q E hr h => ?_)
  · obtain ⟨L, m, c, a, date, n, rfl, _⟩ := h
    rfl
  -- slots: 0 book, 1 plane, 2 date, 3 minutes, 4 day, 5 number, 6 task, 7 what
  refine ⟨_, (pss_cons (ps_set (i := 4) sc_f_first_bar.nd rfl (Or.inl rfl) (pe_callO o_f_number_of (hr.mono (by decide)) pass0 rfl (pa_cons (pv 2) pa_nil)))
    (pss_cons (ps_for PassesOwn.never rfl (pi_list (pe_callO o_f_parts_in (hr.mono (by decide)) pass0 rfl (pa_cons (pv 0) (pa_cons (pv 1) pa_nil)))) (pg_name (i := 5) sc_f_first_bar.nd rfl (Or.inl rfl)) (pss_one (ps_for PassesOwn.never rfl (pi_range1 (by rfl) T.n_range (pa_cons (pe_gint rfl T.g_TASKS) pa_nil)) (pg_name (i := 6) sc_f_first_bar.nd rfl (Or.inl rfl)) (pss_cons (ps_set (i := 7) sc_f_first_bar.nd rfl (Or.inl rfl) (pe_callO o_f_what_bars (hr.mono (by decide)) pass0 rfl (pa_cons (pv 0) (pa_cons (pe_ix ix_list (pe_fld (pv 0) rfl) (pv 5) (fun _ _ => rfl)) (pa_cons (pv 6) (pa_cons (pv 4) (pa_cons (pv 3) pa_nil)))))))
    (pss_one (ps_if (pt_cmpR op_notN (pv 7) pe_non (nomark _)) (pss_one (ps_ret (pe_lst (pa_cons (pv 5) (pa_cons (pv 6) (pa_cons (pv 7) pa_nil)))))) pss_nil))))))
    (pss_one (ps_ret pe_non)))), ?_⟩
  obtain ⟨L, m, c, a, date, n, rfl, b, g, hd, kN, kS⟩ := h
  refine q_asg (ev_call (ea_cons (ev_var rfl) ea_nil) (spV_ev fun _ _ => ⟨date, rfl, hd, rfl⟩)) fun H1 e1 => ?_
  have b1 := b.mono e1
  refine q_forNLn (xs := nats (m.partsIn a)) (el_call (ea_cons (ev_var rfl) (ea_cons (ev_var rfl) ea_nil)) (spL_ev fun H2 e2 => ⟨L, m, a, rfl, b1.mono e2, g.pn, rfl⟩))
    (fun p i σ H' => (∃ v5 v6 v7, σ = [some (.ref (L.ad .book)), some (.int (a : Int)), some (.int (date : Int)), some (.int (n : Int)), some (.int (numberOf date : Nat)), v5, v6, v7]) ∧ Ex H1 H' ∧ H' p = some (.lst (nats (m.partsIn a))) ∧ ((m.partsIn a).take i).findSome? (fun i => barOf m i (numberOf date) n) = none)
    (fun p H2 _ e2 h2 => ⟨⟨none, none, none, rfl⟩, e2, h2, rfl⟩) (fun p i σ' H' _ q => sq_of q.2.2.1) ?_ ?_
  · rintro p i x σ' H' hx ⟨⟨v5, v6, v7, rfl⟩, e2, hp, hn⟩
    obtain ⟨z, hz, rfl⟩ := nats_some hx
    obtain ⟨hzl, hza⟩ := partsIn_lt (List.mem_of_getElem? hz)
    refine s_forR1 (n := 4) (ea_cons ev_c ea_nil) (by decide)
      (fun t σ H'' => (∃ v6 v7, σ = [some (.ref (L.ad .book)), some (.int (a : Int)), some (.int (date : Int)), some (.int (n : Int)), some (.int (numberOf date : Nat)), some (.int (z : Int)), v6, v7]) ∧ Ex H' H'' ∧ ((List.range 4).take t).findSome? (fun t => (whatBars (m.kind (m.part z).kind) (m.part z) t (numberOf date) n).map fun w => [z, t, w]) = none)
      (fun H3 e3 => ⟨⟨v6, v7, rfl⟩, e3, rfl⟩) ?_ ?_
    · rintro t σ H'' ht ⟨⟨u6, u7, rfl⟩, e3, ht0⟩
      have b3 := (b1.mono e2).mono e3
      have ht' : t < 4 := by omega
      refine q_asg (ev_call (ea_cons (ev_var rfl) (ea_cons (evB_part T b3 (ev_var rfl) (ev_var rfl) hzl) (ea_cons (ev_var rfl) (ea_cons (ev_var rfl) (ea_cons (ev_var rfl) ea_nil))))) (spV_ev fun H4 e4 => ⟨L, m, c, z, t, numberOf date, n, rfl, b3.mono e4, g, hzl, ht', rfl⟩)) fun H4 e4 => ?_
      cases hw : whatBars (m.kind (m.part z).kind) (m.part z) t (numberOf date) n with
      | none =>
        refine s_when (b := false) (et_is (et_test (ev_op (ev_var rfl) ev_c rv_notN)) (by rfl)) (fun q => nomatch q) fun _ H5 e5 => ?_
        exact ⟨⟨_, _, rfl⟩, (e3.trans e4).trans e5, find_none ht0 (range_get ht') (by rw [hw]; rfl)⟩
      | some r =>
        refine s_when (b := true) (et_is (et_test (ev_op (ev_var rfl) ev_c rv_notN)) (by rfl)) (fun _ H5 e5 => ?_) fun q => nomatch q
        refine s_retL (el_lst (ea_cons (ev_var rfl) (ea_cons (ev_var rfl) (ea_cons (ev_var rfl) ea_nil))) (by show 3 ≤ 100000; decide)) fun q H6 hq e6 h6 => ?_
        have eb : barOf m z (numberOf date) n = some [z, t, r] := find_at ht0 (range_get ht') (by rw [hw]; rfl)
        exact kS _ (find_at hn hz eb) q H6 (fresh_back ((((e1.trans e2).trans e3).trans e4).trans e5) hq) (((((e1.trans e2).trans e3).trans e4).trans e5).trans e6) h6
    · rintro σ H'' ⟨⟨u6, u7, rfl⟩, e3, ht0⟩
      exact ⟨⟨_, _, _, rfl⟩, e2.trans e3, e3 _ _ hp, find_none hn hz ht0⟩
  · rintro p σ' H' ⟨⟨v5, v6, v7, rfl⟩, e2, hp, hn⟩
    rw [nats_len, List.take_length] at hn
    exact s_ret ev_c fun H3 e3 => kN hn H3 ((e1.trans e2).trans e3)
def tri (s : Int × Int × Int) : List V := [.int s.1, .int s.2.1, .int s.2.2]
theorem ok_left_in (T : Txt K mg A) : Ok P w K mg base CX0 4 "left_in" A.f_left_in ["book", "plane", "date"] (spL (rLeftIn A)) := by
  have o_f_number_of := ok_number_of (P := P) (w := w) (base := base) T
  have o_f_parts_in := ok_parts_in (P := P) (w := w) (base := base) T
  have o_f_least_left := ok_least_left (P := P) (w := w) (base := base) T
  refine T.F_f_left_in.ok T.g_left_in sc_f_left_in (fun vs H Q E h => ?_) (fun _ _ _ _ _ _ us hl => match us, hl with | [_, _, _], _ => rfl) (fun fd cdv A0 outer s H vs Q E hr h => ?_)
  · obtain ⟨_, ⟨L, m, c, a, date, rfl, _⟩, _⟩ := h
    rfl
  -- slots: 0 book, 1 plane, 2 date, 3 day, 4 found, 5 number, 6 part, 7 kind, 8 task
  refine ⟨_, (pss_cons (ps_set (i := 3) sc_f_left_in.nd rfl (Or.inl rfl) (pe_callO o_f_number_of (hr.mono (by decide)) pass0 rfl (pa_cons (pv 2) pa_nil)))
    (pss_cons (ps_set (i := 4) sc_f_left_in.nd rfl (Or.inl rfl) (pe_lst (pa_cons (pe_gint rfl T.g_NO_LIMIT) (pa_cons (pe_gint rfl T.g_NO_LIMIT) (pa_cons (pe_gint rfl T.g_NO_LIMIT) pa_nil)))))
    (pss_cons (ps_for PassesOwn.never rfl (pi_list (pe_callO o_f_parts_in (hr.mono (by decide)) pass0 rfl (pa_cons (pv 0) (pa_cons (pv 1) pa_nil)))) (pg_name (i := 5) sc_f_left_in.nd rfl (Or.inl rfl)) (pss_cons (ps_set (i := 6) sc_f_left_in.nd rfl (Or.inl rfl) (pe_ix ix_list (pe_fld (pv 0) rfl) (pv 5) (fun _ _ => rfl)))
    (pss_cons (ps_set (i := 7) sc_f_left_in.nd rfl (Or.inl rfl) (pe_ix ix_list (pe_fld (pv 0) rfl) (pe_fld (pv 6) rfl) (fun _ _ => rfl)))
    (pss_one (ps_for PassesOwn.never rfl (pi_range1 (by rfl) T.n_range (pa_cons (pe_gint rfl T.g_TASKS) pa_nil)) (pg_name (i := 8) sc_f_left_in.nd rfl (Or.inl rfl)) (pss_cons (ps_asg (pe_callO o_f_least_left (hr.mono (by decide)) pass0 rfl (pa_cons (pe_ix ix_list (pe_fld (pv 7) rfl) (pv 8) (fun _ _ => rfl)) (pa_cons (pe_ix ix_list (pe_fld (pv 6) rfl) (pv 8) (fun _ _ => rfl)) (pa_cons (pe_ix ix_list (pv 4) pe_int (fun _ _ => rfl)) pa_nil)))) (pg_sub (pv 4) pe_int set_list))
    (pss_cons (ps_asg (pe_callO o_f_least_left (hr.mono (by decide)) pass0 rfl (pa_cons (pe_ix ix_list (pe_fld (pv 7) rfl) (pv 8) (fun _ _ => rfl)) (pa_cons (pe_ix ix_list (pe_fld (pv 6) rfl) (pv 8) (fun _ _ => rfl)) (pa_cons (pe_ix ix_list (pv 4) pe_int (fun _ _ => rfl)) pa_nil)))) (pg_sub (pv 4) pe_int set_list))
    (pss_one (ps_asg (pe_callO o_f_least_left (hr.mono (by decide)) pass0 rfl (pa_cons (pe_ix ix_list (pe_fld (pv 7) rfl) (pv 8) (fun _ _ => rfl)) (pa_cons (pe_op op_sub (pv 3) (pe_ix ix_list (pe_fld (pv 6) rfl) (pv 8) (fun _ _ => rfl))) (pa_cons (pe_ix ix_list (pv 4) pe_int (fun _ _ => rfl)) pa_nil)))) (pg_sub (pv 4) pe_int set_list))))))))))
    (pss_one (ps_ret (pv 4)))))), ?_⟩
  obtain ⟨_, ⟨L, m, c, a, date, rfl, b, g, hd, rfl⟩, k⟩ := h
  refine q_asg (ev_call (ea_cons (ev_var rfl) ea_nil) (spV_ev fun _ _ => ⟨date, rfl, hd, rfl⟩)) fun H1 e1 => ?_
  have b1 := b.mono e1
  refine q_asgL (el_lst (ea_cons ev_c (ea_cons ev_c (ea_cons ev_c ea_nil))) (by show 3 ≤ 100000; decide)) fun fl H2 hf e2 hl => ?_
  have b2 := b1.mono e2
  refine q_forNLn (xs := nats (m.partsIn a)) (el_call (ea_cons (ev_var rfl) (ea_cons (ev_var rfl) ea_nil)) (spL_ev fun H3 e3 => ⟨L, m, a, rfl, b2.mono e3, g.pn, rfl⟩))
    (fun p i σ H' => (∃ v5 v6 v7 v8, σ = [some (.ref (L.ad .book)), some (.int (a : Int)), some (.int (date : Int)), some (.int (numberOf date : Nat)), some (.ref fl), v5, v6, v7, v8]) ∧ Ex H1 H' ∧ p ≠ fl ∧ H' p = some (.lst (nats (m.partsIn a))) ∧ H' fl = some (.lst (tri (((m.partsIn a).take i).foldl (leftPart m (numberOf date)) (4294967295, 4294967295, 4294967295)))))
    (fun p H3 hp e3 h3 => ⟨⟨none, none, none, none, rfl⟩, e2.trans e3, (ne_of_none hl hp).symm, h3, e3 _ _ hl⟩) (fun p i σ' H' _ q => sq_of q.2.2.2.1) ?_ ?_
  · rintro p i x σ' H' hx ⟨⟨v5, v6, v7, v8, rfl⟩, e3, hpf, hp, hs⟩
    obtain ⟨z, hz, rfl⟩ := nats_some hx
    obtain ⟨hzl, hza⟩ := partsIn_lt (List.mem_of_getElem? hz)
    have gp := g.parts _ (part_mem hzl)
    have gk := g.kinds _ (kind_mem gp.kind)
    have b3 := b1.mono e3
    refine q_asg (evB_part T b3 (ev_var rfl) (ev_var rfl) hzl) fun H4 e4 => ?_
    have b4 := b3.mono e4
    refine q_asg (evB_kind T b4 (ev_var rfl) (evP_kind T b4 hzl (ev_var rfl)) gp.kind) fun H5 e5 => ?_
    generalize hS : ((m.partsIn a).take i).foldl (leftPart m (numberOf date)) (4294967295, 4294967295, 4294967295) = S at hs
    refine s_forR1 (n := 4) (ea_cons ev_c ea_nil) (by decide)
      (fun t σ H'' => (∃ v8, σ = [some (.ref (L.ad .book)), some (.int (a : Int)), some (.int (date : Int)), some (.int (numberOf date : Nat)), some (.ref fl), some (.int (z : Int)), some (.ref (L.ad (.pt z))), some (.ref (L.ad (.kd (m.part z).kind))), v8]) ∧ Ex H1 H'' ∧ H'' p = some (.lst (nats (m.partsIn a))) ∧ H'' fl = some (.lst (tri (((List.range 4).take t).foldl (leftTask (m.kind (m.part z).kind) (m.part z) (numberOf date)) S))))
      (fun H6 e6 => ⟨⟨v8, rfl⟩, ((e3.trans e4).trans e5).trans e6, e6 _ _ (e5 _ _ (e4 _ _ hp)), e6 _ _ (e5 _ _ (e4 _ _ hs))⟩) ?_ ?_
    · rintro t σ H'' ht ⟨⟨u8, rfl⟩, e6, hp6, hs6⟩
      have ht' : t < 4 := by omega
      generalize hR : ((List.range 4).take t).foldl (leftTask (m.kind (m.part z).kind) (m.part z) (numberOf date)) S = R at hs6
      have b6 := b1.mono e6
      refine q_setL (j := 0) hs6 (ev_call (ea_cons (ev_nat (evK_m T b6 gp.kind (ev_var rfl)) (ev_var rfl) (b6.km gp.kind) (by rw [gk.lm]; exact ht')) (ea_cons (ev_nat (evP_ms T b6 hzl (ev_var rfl)) (ev_var rfl) (b6.pm hzl) (by rw [gp.lm]; exact ht')) (ea_cons (ev_ixL (j := 0) (ev_var rfl) ev_c (sq_of hs6) rfl) ea_nil))) (spV_ev fun _ _ => ⟨_, _, _, rfl, rfl⟩)) (ev_var rfl) ev_c (by show 0 < 3; decide) fun H7 e7 => ?_
      have f7 : Ex H1 (upd H7 fl (.lst ((tri R).set 0 (.int (leastLeft ((m.kind (m.part z).kind).minutes.getD t 0 : Nat) ((m.part z).ms.getD t 0 : Nat) R.1))))) := Ex.mut (e6.trans e7) hf
      have b7 := b1.mono f7
      refine q_setL (j := 1) upd_same (ev_call (ea_cons (ev_nat (evK_l T b7 gp.kind (ev_var rfl)) (ev_var rfl) (b7.kn gp.kind) (by rw [gk.ll]; exact ht')) (ea_cons (ev_nat (evP_ls T b7 hzl (ev_var rfl)) (ev_var rfl) (b7.pn hzl) (by rw [gp.ll]; exact ht')) (ea_cons (ev_ixL (j := 1) (ev_var rfl) ev_c (sq_of upd_same) rfl) ea_nil))) (spV_ev fun _ _ => ⟨_, _, _, rfl, rfl⟩)) (ev_var rfl) ev_c (by show 1 < 3; decide) fun H8 e8 => ?_
      have f8 := Ex.mut (p := fl) (o := .lst (((tri R).set 0 (.int (leastLeft ((m.kind (m.part z).kind).minutes.getD t 0 : Nat) ((m.part z).ms.getD t 0 : Nat) R.1))).set 1 (.int (leastLeft ((m.kind (m.part z).kind).landings.getD t 0 : Nat) ((m.part z).ls.getD t 0 : Nat) R.2.1)))) (f7.trans e8) hf
      have b8 := b1.mono f8
      refine s_setL (j := 2) upd_same (ev_call (ea_cons (ev_nat (evK_d T b8 gp.kind (ev_var rfl)) (ev_var rfl) (b8.ky gp.kind) (by rw [gk.ld]; exact ht')) (ea_cons (ev_sub (ev_var rfl) (ev_nat (evP_dn T b8 hzl (ev_var rfl)) (ev_var rfl) (b8.py hzl) (by rw [gp.ld]; exact ht'))) (ea_cons (ev_ixL (j := 2) (ev_var rfl) ev_c (sq_of upd_same) rfl) ea_nil))) (spV_ev fun _ _ => ⟨_, _, _, rfl, rfl⟩)) (ev_var rfl) ev_c (by show 2 < 3; decide) fun H9 e9 => ?_
      refine ⟨⟨_, rfl⟩, Ex.mut (f8.trans e9) hf, ?_, ?_⟩
      · rw [upd_ne hpf]
        refine e9 _ _ ?_
        rw [upd_ne hpf]
        refine e8 _ _ ?_
        rw [upd_ne hpf]
        exact e7 _ _ hp6
      · rw [upd_same, fold_more (range_get ht'), hR]
        rfl
    · rintro σ H'' ⟨⟨u8, rfl⟩, e6, hp6, hs6⟩
      refine ⟨⟨_, _, _, _, rfl⟩, e6, hpf, hp6, ?_⟩
      rw [hs6, fold_more hz, hS]
      rfl
  · rintro p σ' H' ⟨⟨v5, v6, v7, v8, rfl⟩, e3, hpf, hp, hs⟩
    rw [nats_len, List.take_length] at hs
    exact s_ret (ev_var rfl) fun H3 e4 => k fl H3 (fresh_back e1 hf) ((e1.trans e3).trans e4) (e4 _ _ hs)
end
end FBW
namespace FBW
open PySem PySem.Spec PyProof.Rows L2 Evl FB
/-! ### one object of the book is changed -/
structure Step (A : Ads) (L : Lay) (m : M) (H : Hp) (m' : M) (H' : Hp) : Prop where
  post : Post A L m H L m' H'
  there : ∀ b o, H b = some o → ∃ o', H' b = some o'
section
variable {A : Ads} {L : Lay} {m m' m'' : M} {H H' H'' H1 : Hp} {i : Nat}
theorem Step.trans (a : Step A L m H m' H') (b : Step A L m' H' m'' H'') : Step A L m H m'' H'' :=
  ⟨a.post.trans b.post a.there, fun c o h => let ⟨o', h'⟩ := a.there c o h; b.there c o' h'⟩
theorem Step.ex (a : Step A L m H m' H') (e : Ex H' H'') : Step A L m H m' H'' := ⟨a.post.ex e, fun c o h => let ⟨o', h'⟩ := a.there c o h; ⟨o', e c o' h'⟩⟩
theorem Step.bk (a : Step A L m H m' H') : BookAt A L m' H' := a.post.at_
theorem setPart_len (q : MPart) : (m.setPart i q).parts.length = m.parts.length := List.length_set
theorem setPlane_len (q : MPlane) : (m.setPlane i q).planes.length = m.planes.length := List.length_set
theorem okR_setPart (q : MPart) {s : Role} (h : okR (m.setPart i q) s) : okR m s := by
  cases s <;> first | exact h | (show _ < m.parts.length; rw [← setPart_len (i := i) q]; exact h)
theorem okR_setPlane (q : MPlane) {s : Role} (h : okR (m.setPlane i q) s) : okR m s := by
  cases s <;> first | exact h | (show _ < m.planes.length; rw [← setPlane_len (i := i) q]; exact h)
theorem part_same (q : MPart) (hi : i < m.parts.length) : (m.setPart i q).part i = q := by rw [setPart_at, if_pos ⟨rfl, hi⟩]
theorem part_other (q : MPart) {j : Nat} (h : i ≠ j) : (m.setPart i q).part j = m.part j := by rw [setPart_at, if_neg fun z => h z.1]
theorem setPlane_at {j : Nat} (q : MPlane) : (m.setPlane i q).plane j = if i = j ∧ i < m.planes.length then q else m.plane j := by
  unfold M.setPlane M.plane
  show (m.planes.set i q).getD j MPlane.zero = _
  rw [List.getD_eq_getElem?_getD, List.getElem?_set]
  by_cases e : i = j
  · subst e
    rw [if_pos rfl]
    by_cases l : i < m.planes.length
    · rw [if_pos l, if_pos ⟨rfl, l⟩]; rfl
    · rw [if_neg l, if_neg (fun z => l z.2), List.getD_eq_getElem?_getD, List.getElem?_eq_none (by omega)]
  · rw [if_neg e, if_neg (fun z => e z.1), List.getD_eq_getElem?_getD]
theorem plane_same (q : MPlane) (hi : i < m.planes.length) : (m.setPlane i q).plane i = q := by rw [setPlane_at, if_pos ⟨rfl, hi⟩]
theorem plane_other (q : MPlane) {j : Nat} (h : i ≠ j) : (m.setPlane i q).plane j = m.plane j := by rw [setPlane_at, if_neg fun z => h z.1]
theorem setPart_twice (q r : MPart) : (m.setPart i q).setPart i r = m.setPart i r := by
  unfold M.setPart
  simp only [List.set_set]
/-- the parts' objects of another book that differs in the i-th part alone -/
theorem obj_part (q : MPart) (hi : i < m.parts.length) {s : Role} (h : s ≠ .pt i) (hm : s = .pm i → q.ms = (m.part i).ms) (hn : s = .pn i → q.ls = (m.part i).ls) (hy : s = .py i → q.dn = (m.part i).dn) : obj A L (m.setPart i q) s = obj A L m s := by
  cases s with
  | pl =>
    show HO.lst (refsOf _ (m.setPart i q).parts.length) = _
    rw [setPart_len]
    rfl
  | pt j =>
    have e : i ≠ j := fun z => h (by rw [z])
    show HO.ins _ _ (partF L j ((m.setPart i q).part j)) = _
    rw [part_other q e]
    rfl
  | pm j =>
    show HO.lst (nats ((m.setPart i q).part j).ms) = HO.lst (nats (m.part j).ms)
    by_cases e : i = j
    · subst e; rw [part_same q hi, hm rfl]
    · rw [part_other q e]
  | pn j =>
    show HO.lst (nats ((m.setPart i q).part j).ls) = HO.lst (nats (m.part j).ls)
    by_cases e : i = j
    · subst e; rw [part_same q hi, hn rfl]
    · rw [part_other q e]
  | py j =>
    show HO.lst (nats ((m.setPart i q).part j).dn) = HO.lst (nats (m.part j).dn)
    by_cases e : i = j
    · subst e; rw [part_same q hi, hy rfl]
    · rw [part_other q e]
  | _ => rfl
theorem step_of (b : BookAt A L m H) (e : Ex H H1) (r : Role) (hr : okR m r) {o : HO} (hk : ∀ s, okR m' s → okR m s) (hs : ∀ s, okR m s → s ≠ r → obj A L m' s = obj A L m s) (ho : obj A L m' r = o) : Step A L m H m' (upd H1 (L.ad r) o) :=
  ⟨Post.put b e r hr hk hs ho, there_put e⟩
theorem put_pt (b : BookAt A L m H) (e : Ex H H1) (hi : i < m.parts.length) (q : MPart) (h1 : q.ms = (m.part i).ms) (h2 : q.ls = (m.part i).ls) (h3 : q.dn = (m.part i).dn) :
    Step A L m H (m.setPart i q) (upd H1 (L.ad (.pt i)) (.ins A.c_Part (L.dx (.pt i)) (partF L i q))) :=
  step_of b e (.pt i) hi (fun s h => okR_setPart q h) (fun s _ hn => obj_part q hi hn (fun _ => h1) (fun _ => h2) (fun _ => h3)) (by show HO.ins _ _ (partF L i ((m.setPart i q).part i)) = _; rw [part_same q hi])
theorem pt_field (q : MPart) (hi : i < m.parts.length) (h : partF L i q = partF L i (m.part i)) : obj A L (m.setPart i q) (.pt i) = obj A L m (.pt i) := by
  show HO.ins _ _ (partF L i ((m.setPart i q).part i)) = HO.ins _ _ (partF L i (m.part i))
  rw [part_same q hi, h]
theorem put_pm (b : BookAt A L m H) (e : Ex H H1) (hi : i < m.parts.length) (l : List Nat) : Step A L m H (m.setPart i { m.part i with ms := l }) (upd H1 (L.ad (.pm i)) (.lst (nats l))) :=
  step_of b e (.pm i) hi (fun s h => okR_setPart _ h) (fun s _ hn => by
    by_cases z : s = .pt i
    · subst z; exact pt_field _ hi rfl
    · exact obj_part _ hi z (fun q => absurd q hn) (fun _ => rfl) (fun _ => rfl)) (by show HO.lst (nats ((m.setPart i _).part i).ms) = _; rw [part_same _ hi])
theorem put_pn (b : BookAt A L m H) (e : Ex H H1) (hi : i < m.parts.length) (l : List Nat) : Step A L m H (m.setPart i { m.part i with ls := l }) (upd H1 (L.ad (.pn i)) (.lst (nats l))) :=
  step_of b e (.pn i) hi (fun s h => okR_setPart _ h) (fun s _ hn => by
    by_cases z : s = .pt i
    · subst z; exact pt_field _ hi rfl
    · exact obj_part _ hi z (fun _ => rfl) (fun q => absurd q hn) (fun _ => rfl)) (by show HO.lst (nats ((m.setPart i _).part i).ls) = _; rw [part_same _ hi])
theorem put_py (b : BookAt A L m H) (e : Ex H H1) (hi : i < m.parts.length) (l : List Nat) : Step A L m H (m.setPart i { m.part i with dn := l }) (upd H1 (L.ad (.py i)) (.lst (nats l))) :=
  step_of b e (.py i) hi (fun s h => okR_setPart _ h) (fun s _ hn => by
    by_cases z : s = .pt i
    · subst z; exact pt_field _ hi rfl
    · exact obj_part _ hi z (fun _ => rfl) (fun _ => rfl) (fun q => absurd q hn)) (by show HO.lst (nats ((m.setPart i _).part i).dn) = _; rw [part_same _ hi])
theorem obj_plane (q : MPlane) (hi : i < m.planes.length) {s : Role} (ha : s = .an i → planeF L i q = planeF L i (m.plane i)) (hf : s = .af i → q.flown = (m.plane i).flown) : obj A L (m.setPlane i q) s = obj A L m s := by
  cases s with
  | al =>
    show HO.lst (refsOf _ (m.setPlane i q).planes.length) = _
    rw [setPlane_len]
    rfl
  | an j =>
    show HO.ins _ _ (planeF L j ((m.setPlane i q).plane j)) = HO.ins _ _ (planeF L j (m.plane j))
    by_cases e : i = j
    · subst e; rw [plane_same q hi, ha rfl]
    · rw [plane_other q e]
  | af j =>
    show HO.lst (nats ((m.setPlane i q).plane j).flown) = HO.lst (nats (m.plane j).flown)
    by_cases e : i = j
    · subst e; rw [plane_same q hi, hf rfl]
    · rw [plane_other q e]
  | _ => rfl
theorem put_an (b : BookAt A L m H) (e : Ex H H1) (hi : i < m.planes.length) (n : Nat) : Step A L m H (m.setPlane i { m.plane i with go := n }) (upd H1 (L.ad (.an i)) (.ins A.c_Plane (L.dx (.an i)) (planeF L i { m.plane i with go := n }))) :=
  step_of b e (.an i) hi (fun s h => okR_setPlane _ h) (fun s _ hn => obj_plane _ hi (fun q => absurd q hn) (fun _ => rfl)) (by show HO.ins _ _ (planeF L i ((m.setPlane i _).plane i)) = _; rw [plane_same _ hi])
theorem put_af (b : BookAt A L m H) (e : Ex H H1) (hi : i < m.planes.length) (l : List Nat) : Step A L m H (m.setPlane i { m.plane i with flown := l }) (upd H1 (L.ad (.af i)) (.lst (nats l))) :=
  step_of b e (.af i) hi (fun s h => okR_setPlane _ h) (fun s _ hn => obj_plane _ hi (fun _ => rfl) (fun q => absurd q hn)) (by show HO.lst (nats ((m.setPlane i _).plane i).flown) = _; rw [plane_same _ hi])
theorem put_last (b : BookAt A L m H) (e : Ex H H1) (d : Nat) : Step A L m H { m with last := d } (upd H1 (L.ad .book) (.ins A.c_Book (L.dx .book) (bookF L { m with last := d }))) :=
  step_of b e .book trivial (fun s h => h) (fun s _ hn => by cases s <;> first | rfl | exact absurd rfl hn) rfl
end
/-! ### a number more at each of the first t places -/
def addTo (t n : Nat) (l : List Nat) : List Nat := (l.take t).map (· + n) ++ l.drop t
theorem addTo_len (t n : Nat) (l : List Nat) : (addTo t n l).length = l.length := by
  unfold addTo
  rw [List.length_append, List.length_map, List.length_take, List.length_drop]
  omega
theorem addTo_get {t n : Nat} {l : List Nat} (h : t < l.length) : (addTo t n l).getD t 0 = l.getD t 0 := by
  unfold addTo
  rw [List.getD_eq_getElem?_getD, List.getElem?_append_right (by rw [List.length_map, List.length_take]; omega), List.length_map, List.length_take, List.getElem?_drop, List.getD_eq_getElem?_getD]
  congr 2
  omega
theorem addTo_set {t n : Nat} {l : List Nat} (h : t < l.length) : (addTo t n l).set t (l.getD t 0 + n) = addTo (t + 1) n l := by
  unfold addTo
  have e : l[t]? = some (l.getD t 0) := by rw [List.getD_eq_getElem?_getD, List.getElem?_eq_getElem h]; rfl
  rw [take_more e, List.map_append, List.append_assoc, List.set_append_right _ _ (by rw [List.length_map, List.length_take]; omega)]
  congr 1
  rw [List.length_map, List.length_take, show t - min t l.length = 0 by omega, List.drop_eq_getElem_cons h]
  show (l.getD t 0 + n) :: l.drop (t + 1) = _
  rfl
theorem addTo_zero (n : Nat) (l : List Nat) : addTo 0 n l = l := by
  unfold addTo
  simp
theorem addTo_all {n : Nat} {l : List Nat} (h : l.length = 4) : addTo 4 n l = l.map (· + n) := by
  unfold addTo
  rw [List.take_of_length_le (by omega), List.drop_eq_nil_of_le (by omega), List.append_nil]
section
variable {P : Program} {w : World} {K : PySem.W.Frag} {mg : Str → Option Value} {base : Heap} {A : Ads}
theorem ok_count_flight (T : Txt K mg A) : Ok P w K mg base CX0 1 "count_flight" A.f_count_flight ["part", "minutes"] (spCount A) := by
  refine T.F_f_count_flight.ok T.g_count_flight sc_f_count_flight (fun vs H Q E h => ?_) (fun _ _ _ _ _ _ us hl => match us, hl with | [_, _], _ => rfl) (fun fd cdv A0 outer s H vs Q E hr h => ?_)
  · obtain ⟨L, m, c, i, n, rfl, _⟩ := h
    rfl
  -- slots: 0 part, 1 minutes, 2 task
  refine ⟨_, (pss_cons (ps_fldaug (pv 0) (pv 1) in_add)
    (pss_cons (ps_fldaug (pv 0) pe_int in_add)
    (pss_one (ps_for PassesOwn.never rfl (pi_range1 (by rfl) T.n_range (pa_cons (pe_gint rfl T.g_TASKS) pa_nil)) (pg_name (i := 2) sc_f_count_flight.nd rfl (Or.inl rfl)) (pss_cons (ps_augS (pe_fld (pv 0) rfl) (pv 2) get_list (pv 1) ip_add set_list)
    (pss_one (ps_augS (pe_fld (pv 0) rfl) (pv 2) get_list pe_int ip_add set_list))))))), ?_⟩
  obtain ⟨L, m, c, i, n, rfl, b, g, hi, k⟩ := h
  have gp := g.parts _ (part_mem hi)
  refine q_fldaug (ev_var rfl) (b.pt hi) T.cl_Part T.na_Part_minutes pF_minutes (ev_var rfl) (by show 7 < 1000; decide) fun H1 e1 => ?_
  have s1 : Step A L m H (m.setPart i { m.part i with minutes := (m.part i).minutes + n }) (upd H1 (L.ad (.pt i)) (.ins A.c_Part (L.dx (.pt i)) (putF "minutes" (.int ((m.part i).minutes + (n : Int))) (partF L i (m.part i))))) := by
    have q := put_pt b e1 hi { m.part i with minutes := (m.part i).minutes + n } rfl rfl rfl
    rw [← pF_putMinutes] at q
    exact q
  have hi1 : i < (m.setPart i { m.part i with minutes := (m.part i).minutes + n }).parts.length := by rw [setPart_len]; exact hi
  have o1 := s1.bk.pt hi1
  rw [part_same _ hi] at o1
  refine q_fldaug (ev_var rfl) o1 T.cl_Part T.na_Part_landings pF_landings ev_c (by show 7 < 1000; decide) fun H2 e2 => ?_
  have s2 : Step A L m H (m.setPart i { m.part i with minutes := (m.part i).minutes + n, landings := (m.part i).landings + 1 }) (upd H2 (L.ad (.pt i)) (.ins A.c_Part (L.dx (.pt i)) (putF "landings" (.int ((m.part i).landings + 1)) (partF L i { m.part i with minutes := (m.part i).minutes + n })))) := by
    have q := put_pt s1.bk e2 hi1 { m.part i with minutes := (m.part i).minutes + n, landings := (m.part i).landings + 1 } (by rw [part_same _ hi]) (by rw [part_same _ hi]) (by rw [part_same _ hi])
    have q2 := s1.trans q
    rw [setPart_twice] at q2
    have e := pF_putLandings (L := L) (i := i) (p := { m.part i with minutes := (m.part i).minutes + n }) ((m.part i).landings + 1)
    rw [← e] at q2
    exact q2
  refine s_forR1 (n := 4) (ea_cons ev_c ea_nil) (by decide)
    (fun t σ H' => (∃ v, σ = [some (.ref (L.ad (.pt i))), some (.int (n : Int)), v]) ∧ Step A L m H (m.setPart i { m.part i with minutes := (m.part i).minutes + n, landings := (m.part i).landings + 1, ms := addTo t n (m.part i).ms, ls := addTo t 1 (m.part i).ls }) H')
    (fun H3 e3 => ⟨⟨none, rfl⟩, by rw [addTo_zero, addTo_zero]; exact s2.ex e3⟩) ?_ ?_
  · rintro t σ H' ht ⟨⟨v, rfl⟩, s3⟩
    have ht' : t < 4 := by omega
    have b3 := s3.bk
    have hi3 : i < (m.setPart i { m.part i with minutes := (m.part i).minutes + n, landings := (m.part i).landings + 1, ms := addTo t n (m.part i).ms, ls := addTo t 1 (m.part i).ls }).parts.length := by rw [setPart_len]; exact hi
    have o3 := b3.pm hi3
    rw [part_same _ hi] at o3
    refine q_lstaug o3 (evP_ms T b3 hi3 (ev_var rfl)) (ev_var rfl) ((nats_get (by rw [addTo_len, gp.lm]; exact ht')).trans (by rw [addTo_get (by rw [gp.lm]; exact ht')])) (ev_var rfl) fun H4 e4 => ?_
    have s4 := s3.trans (put_pm b3 e4 hi3 (addTo (t + 1) n (m.part i).ms))
    rw [setPart_twice, part_same _ hi, ← addTo_set (by rw [gp.lm]; exact ht'), ← nats_set] at s4
    have b4 := s4.bk
    have hi4 : i < (m.setPart i { m.part i with minutes := (m.part i).minutes + n, landings := (m.part i).landings + 1, ms := (addTo t n (m.part i).ms).set t ((m.part i).ms.getD t 0 + n), ls := addTo t 1 (m.part i).ls }).parts.length := by rw [setPart_len]; exact hi
    have o4 := b4.pn hi4
    rw [part_same _ hi] at o4
    refine s_lstaug o4 (evP_ls T b4 hi4 (ev_var rfl)) (ev_var rfl) ((nats_get (by rw [addTo_len, gp.ll]; exact ht')).trans (by rw [addTo_get (by rw [gp.ll]; exact ht')])) ev_c fun H5 e5 => ?_
    have s5 := s4.trans (put_pn b4 e5 hi4 (addTo (t + 1) 1 (m.part i).ls))
    rw [setPart_twice, part_same _ hi, ← addTo_set (n := 1) (by rw [gp.ll]; exact ht'), ← nats_set] at s5
    refine ⟨⟨_, rfl⟩, ?_⟩
    rw [← addTo_set (n := n) (by rw [gp.lm]; exact ht'), ← addTo_set (n := 1) (by rw [gp.ll]; exact ht')]
    exact s5
  · rintro σ H' ⟨⟨v, rfl⟩, s3⟩
    rw [show (4 : Int).toNat = 4 from rfl, addTo_all gp.lm, addTo_all gp.ll] at s3
    exact k H' s3.post s3.there
theorem ok_do_task (T : Txt K mg A) : Ok P w K mg base CX0 1 "do_task" A.f_do_task ["part", "task", "day"] (spTask A) := by
  refine T.F_f_do_task.ok T.g_do_task sc_f_do_task (fun vs H Q E h => ?_) (fun _ _ _ _ _ _ us hl => match us, hl with | [_, _, _], _ => rfl) (fun fd cdv A0 outer s H vs Q E hr h => ?_)
  · obtain ⟨L, m, c, i, t, d, rfl, _⟩ := h
    rfl
  -- slots: 0 part, 1 task, 2 day
  refine ⟨_, (pss_cons (ps_asg pe_int (pg_sub (pe_fld (pv 0) rfl) (pv 1) set_list))
    (pss_cons (ps_asg pe_int (pg_sub (pe_fld (pv 0) rfl) (pv 1) set_list))
    (pss_one (ps_asg (pv 2) (pg_sub (pe_fld (pv 0) rfl) (pv 1) set_list))))), ?_⟩
  obtain ⟨L, m, c, i, t, d, rfl, b, g, hi, ht, k⟩ := h
  have gp := g.parts _ (part_mem hi)
  refine q_setL (j := t) (b.pm hi) ev_c (evP_ms T b hi (ev_var rfl)) (ev_var rfl) (by rw [nats_len, gp.lm]; exact ht) fun H1 e1 => ?_
  have s1 := put_pm b e1 hi ((m.part i).ms.set t 0)
  rw [← nats_set] at s1
  have b1 := s1.bk
  have hi1 : i < (m.setPart i { m.part i with ms := (m.part i).ms.set t 0 }).parts.length := by rw [setPart_len]; exact hi
  have o1 := b1.pn hi1
  rw [part_same _ hi] at o1
  refine q_setL (j := t) o1 ev_c (evP_ls T b1 hi1 (ev_var rfl)) (ev_var rfl) (by rw [nats_len, gp.ll]; exact ht) fun H2 e2 => ?_
  have s2 := s1.trans (put_pn b1 e2 hi1 ((m.part i).ls.set t 0))
  rw [setPart_twice, part_same _ hi, ← nats_set] at s2
  have b2 := s2.bk
  have hi2 : i < (m.setPart i { m.part i with ms := (m.part i).ms.set t 0, ls := (m.part i).ls.set t 0 }).parts.length := by rw [setPart_len]; exact hi
  have o2 := b2.py hi2
  rw [part_same _ hi] at o2
  refine s_setL (j := t) o2 (ev_var rfl) (evP_dn T b2 hi2 (ev_var rfl)) (ev_var rfl) (by rw [nats_len, gp.ld]; exact ht) fun H3 e3 => ?_
  have s3 := s2.trans (put_py b2 e3 hi2 ((m.part i).dn.set t d))
  rw [setPart_twice, part_same _ hi, ← nats_set] at s3
  exact k _ s3.post s3.there
end
end FBW
namespace FBW
open PySem PySem.Spec PyProof.Rows L2 Evl FB
section
variable {P : Program} {w : World} {K : PySem.W.Frag} {mg : Str → Option Value} {base : Heap} {A : Ads}
theorem ok_ask (T : Txt K mg A) : Ok P w K mg base (L2.CX P w) 3 "ask" A.f_ask ["is_good", "number"] (spAsk A.c_Refused) := by
  refine T.F_f_ask.okX T.g_ask sc_f_ask (fun vs H Q E h => ?_) (fun _ _ _ _ _ _ us hl => match us, hl with | [_, _], _ => rfl) (fun fd cdv A0 outer s H vs Q E hr h => ?_)
  · obtain ⟨b, n, rfl, _⟩ := h
    rfl
  -- slots: 0 is_good, 1 number
  refine ⟨_, (pss_one (ps_if (pt_not (pt_val (pv 0))) (pss_one (ps_raiseLow rfl T.low hr (takes_of rfl rfl rfl rfl) (by exact (pa_cons (pv 1) pa_nil)))) pss_nil)), ?_⟩
  obtain ⟨b, n, rfl, kT, kF⟩ := h
  refine s_when (et_not (et_B (ev_var rfl))) (fun hb H1 e1 => ?_) (fun hb H1 e1 => ?_)
  · have e : b = false := by revert hb; cases b <;> simp
    exact ⟨_, rfl, _, rfl, fun d hd => (kF e) d _ (e1.trans (Ex.new hd)) upd_same⟩
  · have e : b = true := by revert hb; cases b <;> simp
    exact kT e H1 e1
theorem ok_ask_plane (T : Txt K mg A) : Ok P w K mg base (L2.CX P w) 4 "ask_plane" A.f_ask_plane ["plane"] (spX A.c_Refused rAskPlane) := by
  have o_f_ask := ok_ask (P := P) (w := w) (base := base) T
  refine T.F_f_ask_plane.okX T.g_ask_plane sc_f_ask_plane (fun vs H Q E h => ?_) (fun _ _ _ _ _ _ us hl => match us, hl with | [_], _ => rfl) (fun fd cdv A0 outer s H vs Q E hr h => ?_)
  · obtain ⟨_, ⟨a, rfl, _⟩, _⟩ := h
    rfl
  -- slots: 0 plane
  refine ⟨_, (pss_one (ps_expr (pe_callO o_f_ask (hr.mono (by decide)) (passes_call (takes_of rfl rfl rfl rfl) (fun _ _ _ _ h => h)) rfl (pa_cons (pe_cmpR op_lt (pv 0) (pe_gint rfl T.g_PLANES) (nomark _)) (pa_cons (pe_gint rfl T.g_WRONG) pa_nil))))), ?_⟩
  obtain ⟨_, ⟨a, rfl, rfl⟩, kV, kE⟩ := h
  refine s_ask (b := decide (a < 16)) (ev_bl (ev_lt (ev_var rfl) ev_c) (dec_lt a 16)) ev_c (fun hb => ?_) (fun hb => ?_)
  · exact kV _ (if_pos (of_decide_eq_true hb))
  · exact kE _ (if_neg (of_decide_eq_false hb))
theorem ok_ask_order (T : Txt K mg A) : Ok P w K mg base (L2.CX P w) 4 "ask_order" A.f_ask_order ["book", "date"] (spX A.c_Refused (rOrder A)) := by
  have o_f_number_of := ok_number_of (P := P) (w := w) (base := base) T
  have o_f_ask := ok_ask (P := P) (w := w) (base := base) T
  refine T.F_f_ask_order.okX T.g_ask_order sc_f_ask_order (fun vs H Q E h => ?_) (fun _ _ _ _ _ _ us hl => match us, hl with | [_, _], _ => rfl) (fun fd cdv A0 outer s H vs Q E hr h => ?_)
  · obtain ⟨_, ⟨L, m, d, rfl, _⟩, _⟩ := h
    rfl
  -- slots: 0 book, 1 date, 2 day
  refine ⟨_, (pss_cons (ps_set (i := 2) sc_f_ask_order.nd rfl (Or.inl rfl) (pe_callO o_f_number_of (hr.mono (by decide)) pass0 rfl (pa_cons (pv 1) pa_nil)))
    (pss_cons (ps_expr (pe_callO o_f_ask (hr.mono (by decide)) (passes_call (takes_of rfl rfl rfl rfl) (fun _ _ _ _ h => h)) rfl (pa_cons (pe_cmpR op_ge (pv 2) (pe_fld (pv 0) rfl) (nomark _)) (pa_cons (pe_gint rfl T.g_BEFORE) pa_nil))))
    (pss_one (ps_ret (pv 2))))), ?_⟩
  obtain ⟨_, ⟨L, m, d, rfl, b, hd, rfl⟩, kV, kE⟩ := h
  refine q_asg (ev_call (ea_cons (ev_var rfl) ea_nil) (spV_ev fun _ _ => ⟨d, rfl, hd, rfl⟩)) fun H1 e1 => ?_
  refine q_ask (b := decide (m.last ≤ numberOf d)) (ev_bl (ev_ge (ev_var rfl) (evB_last T (b.mono e1) (ev_var rfl))) (dec_le _ _)) ev_c (fun hb H2 e2 => ?_) (fun hb => ?_)
  · refine s_ret (ev_var rfl) fun H3 e3 => kV _ (if_neg (by have := of_decide_eq_true hb; omega)) H3 ((e1.trans e2).trans e3)
  · exact (kE _ (if_pos (by have := of_decide_eq_false hb; omega))).mono e1
theorem ok_part_at (T : Txt K mg A) : Ok P w K mg base (L2.CX P w) 4 "part_at" A.f_part_at ["book", "number"] (spX A.c_Refused (rPartAt A)) := by
  have o_f_ask := ok_ask (P := P) (w := w) (base := base) T
  refine T.F_f_part_at.okX T.g_part_at sc_f_part_at (fun vs H Q E h => ?_) (fun _ _ _ _ _ _ us hl => match us, hl with | [_, _], _ => rfl) (fun fd cdv A0 outer s H vs Q E hr h => ?_)
  · obtain ⟨_, ⟨L, m, i, rfl, _⟩, _⟩ := h
    rfl
  -- slots: 0 book, 1 number
  refine ⟨_, (pss_cons (ps_expr (pe_callO o_f_ask (hr.mono (by decide)) (passes_call (takes_of rfl rfl rfl rfl) (fun _ _ _ _ h => h)) rfl (pa_cons (pe_cmpR op_lt (pv 1) (pe_callB call_len_seq (by rfl) T.n_len PySem.boot_len (pa_cons (pe_fld (pv 0) rfl) pa_nil)) (nomark _)) (pa_cons (pe_gint rfl T.g_NO_SUCH) pa_nil))))
    (pss_one (ps_ret (pe_ix ix_list (pe_fld (pv 0) rfl) (pv 1) (fun _ _ => rfl))))), ?_⟩
  obtain ⟨_, ⟨L, m, i, rfl, b, rfl⟩, kV, kE⟩ := h
  refine q_ask (b := decide (i < m.parts.length)) (ev_bl (ev_lt (ev_var rfl) (evB_lenParts T b (ev_var rfl))) (dec_lt _ _)) ev_c (fun hb H2 e2 => ?_) (fun hb => ?_)
  · have hi := of_decide_eq_true hb
    exact s_ret (evB_part T (b.mono e2) (ev_var rfl) (ev_var rfl) hi) fun H3 e3 => kV _ (if_pos hi) H3 (e2.trans e3)
  · exact kE _ (if_neg (of_decide_eq_false hb))
theorem ok_ask_flight (T : Txt K mg A) : Ok P w K mg base (L2.CX P w) 5 "ask_flight" A.f_ask_flight ["book", "at", "date", "minutes"] (spX A.c_Refused (rFlight A)) := by
  have o_f_ask := ok_ask (P := P) (w := w) (base := base) T
  have o_f_is_date := ok_is_date (P := P) (w := w) (base := base) T
  have o_f_ask_order := ok_ask_order (P := P) (w := w) (base := base) T
  refine T.F_f_ask_flight.okX T.g_ask_flight sc_f_ask_flight (fun vs H Q E h => ?_) (fun _ _ _ _ _ _ us hl => match us, hl with | [_, _, _, _], _ => rfl) (fun fd cdv A0 outer s H vs Q E hr h => ?_)
  · obtain ⟨_, ⟨L, m, a, d, n, rfl, _⟩, _⟩ := h
    rfl
  -- slots: 0 book, 1 at, 2 date, 3 minutes
  refine ⟨_, (pss_cons (ps_expr (pe_callO o_f_ask (hr.mono (by decide)) (passes_call (takes_of rfl rfl rfl rfl) (fun _ _ _ _ h => h)) rfl (pa_cons (pe_and (pe_cmpR op_lt (pv 1) (pe_gint rfl T.g_PLANES) (nomark _)) (pe_and (pe_chain op_le op_le pe_int (pv 3) (pe_gint rfl T.g_MOST_LET_GO)) (pe_one (pe_callO o_f_is_date (hr.mono (by decide)) pass0 rfl (pa_cons (pv 2) pa_nil))))) (pa_cons (pe_gint rfl T.g_WRONG) pa_nil))))
    (pss_one (ps_ret (pe_callO o_f_ask_order (hr.mono (by decide)) (passes_call (takes_of rfl rfl rfl rfl) (fun _ _ _ _ h => h)) rfl (pa_cons (pv 0) (pa_cons (pv 2) pa_nil)))))), ?_⟩
  obtain ⟨_, ⟨L, m, a, d, n, rfl, b, rfl⟩, kV, kE⟩ := h
  refine q_ask (b := okFlight a d n) (ev_bl (ev_andV (ev_bl (ev_lt (ev_var rfl) ev_c) (dec_lt a 16)) fun _ => ev_andV (ev_chain ev_c (ev_var rfl) ev_c rv_I0 rv_I0) fun _ => ev_call (ea_cons (ev_var rfl) ea_nil) (spV_ev fun _ _ => ⟨d, rfl, rfl⟩)) ?_) ev_c (fun hb H2 e2 => ?_) (fun hb => ?_)
  · unfold okFlight
    rw [show decide ((1 : Int) ≤ (n : Int)) = decide (1 ≤ n) from dec_le 1 n, show decide ((n : Int) ≤ 1440) = decide (n ≤ 1440) from dec_le n 1440]
  · have hd : isDate d = true := by
      unfold okFlight at hb
      simp only [Bool.and_eq_true] at hb
      exact hb.2.2
    have e0 : ¬ okFlight a d n = false := by rw [hb]; decide
    refine s_retX (ea_cons (ev_var rfl) (ea_cons (ev_var rfl) ea_nil)) (spX_ev fun H3 e3 => ⟨L, m, d, rfl, (b.mono e2).mono e3, hd, rfl⟩) (fun v hv H3 e3 => ?_) (fun z hz => ?_)
    · refine kV v ?_ H3 (e2.trans e3)
      rw [if_neg e0]
      exact hv
    · refine (kE z ?_).mono e2
      rw [if_neg e0]
      exact hz
  · exact kE _ (if_pos hb)
end
end FBW
namespace FBW
open PySem PySem.Spec PyProof.Rows L2 Evl FB
section
variable {K : PySem.W.Frag} {mg : Str → Option Value} {A : Ads} {L : Lay} {m : M} {H : Hp} {σ : L2.St} {te ti : TE} {ta : TA} {D : Ends} {tz : TS} {E : XK} {i : Nat}
theorem ev_meth0 {C dx a : Addr} {fs : List (Str × V)} {me : Str} {sp : Sp} {v : V} (ha : Ev te σ H (.ref a)) (ho : H a = some (.ins C dx fs)) (hl : fs.lookup me = none) (hs : SpV sp [.ref a] H v) : Ev (tMeth C me sp [] E te tNil) σ H v := fun H1 e Q q =>
  ha H1 e _ fun H2 e2 => ⟨a, dx, fs, rfl, e2 _ _ (e _ _ ho), hl, hs H2 (e.trans e2) Q (fun H3 e3 => q H3 (e2.trans e3)) E⟩
theorem evA_away (T : Txt K mg A) (b : BookAt A L m H) (l : i < m.planes.length) (h : Ev te σ H (.ref (L.ad (.an i)))) : Ev (tMeth A.c_Plane "is_away" (spV (rAway A)) [] E te tNil) σ H (.bl (m.away i)) :=
  ev_meth0 h (b.an l) aF_away (spV_ev fun H1 e => ⟨L, m, i, rfl, b.mono e, l, rfl⟩)
/-- first_bar(..) is None -/
theorem ev_barN {c a date n : Nat} (b : BookAt A L m H) (g : Good c m) (hd : isDate date = true) (h : EvA ta σ H [.ref (L.ad .book), .int (a : Int), .int (date : Int), .int (n : Int)]) :
    Ev (tOp (fun x y H Q => y = .non ∧ Q (.bl (decide (x = .non))) H) (tCall (spBar A) [] E ta) (tC .non)) σ H (.bl (firstBar m a date n).isNone) := fun H1 e Q q =>
  show ta σ H1 fun vs H2 => spBar A (vs ++ []) H2 _ E from
  h H1 e _ fun H2 e2 => ⟨L, m, c, a, date, n, rfl, (b.mono e).mono e2, g, hd, fun z H3 e3 => by
    rw [z] at q
    exact ⟨rfl, q H3 (e2.trans e3)⟩, fun l z p H3 hp e3 h3 => by
    rw [z] at q
    exact ⟨rfl, q H3 (e2.trans e3)⟩⟩
/-- x = first_bar(..) -/
theorem q_bar {c a date n j : Nat} (b : BookAt A L m H) (g : Good c m) (hd : isDate date = true) (h : EvA ta σ H [.ref (L.ad .book), .int (a : Int), .int (date : Int), .int (n : Int)]) (kN : firstBar m a date n = none → ∀ H1, Ex H H1 → tz D (σ.set j (some .non)) H1)
    (kS : ∀ l, firstBar m a date n = some l → ∀ p H1, H p = none → Ex H H1 → H1 p = some (.lst (nats l)) → tz D (σ.set j (some (.ref p))) H1) : tSeq (tAsg (tCall (spBar A) [] E ta) (gName j)) tz D σ H :=
  show ta σ H fun vs H2 => spBar A (vs ++ []) H2 (fun x H1 => tz D (σ.set j (some x)) H1) E from
  h H (Ex.refl H) _ fun H2 e2 => ⟨L, m, c, a, date, n, rfl, b.mono e2, g, hd, fun z H3 e3 => kN z H3 (e2.trans e3), fun l z p H3 hp e3 h3 => kS l z p H3 (fresh_back e2 hp) (e2.trans e3) h3⟩
end
/-- what stood but at p stands -/
def Exm (p : Addr) (H H' : Hp) : Prop := ∀ b o, H b = some o → b ≠ p → H' b = some o
theorem Exm.refl (p : Addr) (H : Hp) : Exm p H H := fun _ _ h _ => h
theorem Exm.ex {p : Addr} {H H' H'' : Hp} (a : Exm p H H') (e : Ex H' H'') : Exm p H H'' := fun b o h n => e b o (a b o h n)
theorem Exm.put {p : Addr} {H H' : Hp} {o : HO} (a : Exm p H H') : Exm p H (upd H' p o) := fun b u h n => by
  rw [upd_ne n]
  exact a b u h n
theorem Exm.trans {p : Addr} {H H' H'' : Hp} (a : Exm p H H') (b : Exm p H' H'') : Exm p H H'' := fun c o h n => b c o (a c o h n) n
def partG (kind day : Nat) (a b c : Addr) : List (Str × V) := [("kind", .int (kind : Int)), ("plane", .int 255), ("minutes", .int 0), ("landings", .int 0), ("minutes_since", .ref a), ("landings_since", .ref b), ("done_on", .ref c)]
def spPart (A : Ads) : Sp := fun vs H Q _ => ∃ (p dx : Addr) (kind day : Nat), vs = [.ref p, .int (kind : Int), .int (day : Int)] ∧ H p = some (.ins A.c_Part dx []) ∧
  ∀ (H' : Hp) (a b c : Addr), H a = none → H b = none → H c = none → a ≠ b → a ≠ c → b ≠ c → H' a = some (.lst (nats [0, 0, 0, 0])) → H' b = some (.lst (nats [0, 0, 0, 0])) → H' c = some (.lst (nats [day, day, day, day])) →
    H' p = some (.ins A.c_Part dx (partG kind day a b c)) → Exm p H H' → Q .non H'
section
variable {P : Program} {w : World} {K : PySem.W.Frag} {mg : Str → Option Value} {base : Heap} {A : Ads}
theorem none_at {H H' : Hp} {b p : Addr} {o : HO} (e : Exm p H H') (hp : H' p = some o) (h : H' b = none) : H b = none := by
  cases z : H b with
  | none => rfl
  | some u =>
    by_cases q : b = p
    · rw [q, hp] at h; cases h
    · rw [e b u z q] at h; cases h
theorem ok_i_Part (T : Txt K mg A) : OkM P w K mg base CX0 1 A.i_Part ["self", "kind", "day"] (spPart A) := by
  refine T.F_i_Part.okM sc_i_Part (fun vs H Q E h => ?_) (fun _ _ _ _ _ _ us hl => match us, hl with | [_, _, _], _ => rfl) (fun fd cdv A0 outer s H vs Q E hr h => ?_)
  · obtain ⟨p, dx, kind, day, rfl, _⟩ := h
    rfl
  -- slots: 0 self, 1 kind, 2 day, 3 task
  refine ⟨_, (pss_cons (ps_fld (pv 0) (pv 1) rfl)
    (pss_cons (ps_fld (pv 0) (pe_gint rfl T.g_NO_PLANE) rfl)
    (pss_cons (ps_fld (pv 0) pe_int rfl)
    (pss_cons (ps_fld (pv 0) pe_int rfl)
    (pss_cons (ps_fld (pv 0) (pe_lc (own := [("task", 3)]) (g := gName 3) (tt := tYes) rfl sc_i_Part.nd (pi_range1 (by rfl) T.n_range (pa_cons (pe_gint rfl T.g_TASKS) pa_nil)) (blkOk_by (N := ["self", "kind", "day", "task"]) (sc := defScope s_i_Part) (by decide +kernel)) (fun _ _ _ _ _ => pg_name (i := 3) sc_i_Part.nd rfl (Or.inl rfl)) (fun _ _ _ _ _ => by exact pts_nil) (fun _ _ _ _ _ => by exact pe_int)) rfl)
    (pss_cons (ps_fld (pv 0) (pe_lc (own := [("task", 3)]) (g := gName 3) (tt := tYes) rfl sc_i_Part.nd (pi_range1 (by rfl) T.n_range (pa_cons (pe_gint rfl T.g_TASKS) pa_nil)) (blkOk_by (N := ["self", "kind", "day", "task"]) (sc := defScope s_i_Part) (by decide +kernel)) (fun _ _ _ _ _ => pg_name (i := 3) sc_i_Part.nd rfl (Or.inl rfl)) (fun _ _ _ _ _ => by exact pts_nil) (fun _ _ _ _ _ => by exact pe_int)) rfl)
    (pss_one (ps_fld (pv 0) (pe_lc (own := [("task", 3)]) (g := gName 3) (tt := tYes) rfl sc_i_Part.nd (pi_range1 (by rfl) T.n_range (pa_cons (pe_gint rfl T.g_TASKS) pa_nil)) (blkOk_by (N := ["self", "kind", "day", "task"]) (sc := defScope s_i_Part) (by decide +kernel)) (fun _ _ _ _ _ => pg_name (i := 3) sc_i_Part.nd rfl (Or.inl rfl)) (fun _ _ _ _ _ => by exact pts_nil) (fun _ _ _ _ _ => by exact (pv 2))) rfl)))))))), ?_⟩
  obtain ⟨p, dx, kind, day, rfl, hp, k⟩ := h
  refine q_fld (ev_var rfl) (ev_var rfl) hp T.cl_Part T.na_Part_kind (by show 0 < 1000; decide) fun H1 e1 => ?_
  have x1 : Exm p H _ := ((Exm.refl p H).ex e1).put (o := .ins A.c_Part dx (putF "kind" (.int (kind : Int)) []))
  refine q_fld ev_c (ev_var rfl) upd_same T.cl_Part T.na_Part_plane (by show 1 < 1000; decide) fun H2 e2 => ?_
  have x2 := (x1.ex e2).put (o := .ins A.c_Part dx (putF "plane" (.int 255) (putF "kind" (.int (kind : Int)) [])))
  refine q_fld ev_c (ev_var rfl) upd_same T.cl_Part T.na_Part_minutes (by show 2 < 1000; decide) fun H3 e3 => ?_
  have x3 := (x2.ex e3).put (o := .ins A.c_Part dx (putF "minutes" (.int 0) (putF "plane" (.int 255) (putF "kind" (.int (kind : Int)) []))))
  refine q_fld ev_c (ev_var rfl) upd_same T.cl_Part T.na_Part_landings (by show 3 < 1000; decide) fun H4 e4 => ?_
  have x4 := (x3.ex e4).put (o := .ins A.c_Part dx (putF "landings" (.int 0) (putF "minutes" (.int 0) (putF "plane" (.int 255) (putF "kind" (.int (kind : Int)) [])))))
  refine q_fldL (EvL.to (el_lcR1 (n := 4) (fun _ => true) (fun _ => V.int 0) (ea_cons ev_c ea_nil) (by decide) (fun _ => rfl) (fun i H1 e1 hi => fun _ _ _ q => q _ (Ex.refl _)) (fun i H1 e1 hi _ => ev_c)) (show _ = nats [0, 0, 0, 0] from rfl)) (ev_var rfl) upd_same T.cl_Part T.na_Part_minutes_since (by show 4 < 1000; decide) fun a H5 ha e5 h5 => ?_
  have na := none_at x4 upd_same ha
  have pa : a ≠ p := fun z => by rw [z, upd_same] at ha; cases ha
  have x5 := (x4.ex e5).put (o := .ins A.c_Part dx (putF "minutes_since" (.ref a) (putF "landings" (.int 0) (putF "minutes" (.int 0) (putF "plane" (.int 255) (putF "kind" (.int (kind : Int)) []))))))
  refine q_fldL (EvL.to (el_lcR1 (n := 4) (fun _ => true) (fun _ => V.int 0) (ea_cons ev_c ea_nil) (by decide) (fun _ => rfl) (fun i H1 e1 hi => fun _ _ _ q => q _ (Ex.refl _)) (fun i H1 e1 hi _ => ev_c)) (show _ = nats [0, 0, 0, 0] from rfl)) (ev_var rfl) upd_same T.cl_Part T.na_Part_landings_since (by show 5 < 1000; decide) fun b H6 hb e6 h6 => ?_
  have nb := none_at x5 upd_same hb
  have pb : b ≠ p := fun z => by rw [z, upd_same] at hb; cases hb
  have ab : a ≠ b := ne_of_none (by rw [upd_ne pa]; exact h5) hb
  have x6 := (x5.ex e6).put (o := .ins A.c_Part dx (putF "landings_since" (.ref b) (putF "minutes_since" (.ref a) (putF "landings" (.int 0) (putF "minutes" (.int 0) (putF "plane" (.int 255) (putF "kind" (.int (kind : Int)) [])))))))
  have a6 : upd H6 p (.ins A.c_Part dx (putF "landings_since" (.ref b) (putF "minutes_since" (.ref a) (putF "landings" (.int 0) (putF "minutes" (.int 0) (putF "plane" (.int 255) (putF "kind" (.int (kind : Int)) []))))))) a = some (.lst (nats [0, 0, 0, 0])) := by
    rw [upd_ne pa]
    refine e6 _ _ ?_
    rw [upd_ne pa]
    exact h5
  refine s_fldL (EvL.to (el_lcR1 (n := 4) (fun _ => true) (fun _ => V.int (day : Int)) (ea_cons ev_c ea_nil) (by decide) (fun _ => rfl) (fun i H1 e1 hi => fun _ _ _ q => q _ (Ex.refl _)) (fun i H1 e1 hi _ => ev_var rfl)) (show _ = nats [day, day, day, day] from rfl)) (ev_var rfl) upd_same T.cl_Part T.na_Part_done_on (by show 6 < 1000; decide) fun c H7 hc e7 h7 => ?_
  have nc := none_at x6 upd_same hc
  have pc : c ≠ p := fun z => by rw [z, upd_same] at hc; cases hc
  have ac : a ≠ c := ne_of_none a6 hc
  have bc : b ≠ c := ne_of_none (by rw [upd_ne pb]; exact h6) hc
  refine k _ a b c na nb nc ab ac bc ?_ ?_ ?_ ?_ ((x6.ex e7).put)
  · rw [upd_ne pa]
    exact e7 _ _ a6
  · rw [upd_ne pb]
    refine e7 _ _ ?_
    rw [upd_ne pb]
    exact h6
  · rw [upd_ne pc]
    exact h7
  · rw [upd_same]
    congr 2
end
end FBW
namespace FBW
open PySem PySem.Spec PyProof.Rows L2 Evl FB
section
variable {K : PySem.W.Frag} {σ : L2.St} {H H' : Hp} {te : TE} {ta : TA} {D : Ends} {tz : TS} {CR : Addr} {E : XK} {sp : Sp} {vs : List V} {v : V} {n : Int}
theorem q_dropOk (ha : EvA ta σ H vs) (hs : SpX CR sp (vs ++ []) H (.ok v)) (k : ∀ H1, Ex H H1 → tz D σ H1) : tSeq (tDrop (tCall sp [] E ta)) tz D σ H := q_dropX ha hs (fun _ _ H1 e1 => k H1 e1) fun _ z => nomatch z
theorem q_dropErr (ha : EvA ta σ H vs) (hs : SpX CR sp (vs ++ []) H (.error n)) (q : ErrK CR n H E) : tSeq (tDrop (tCall sp [] E ta)) tz D σ H := q_dropX ha hs (fun _ z => nomatch z) fun z hz => by
  cases hz
  exact q
theorem q_callOk {i : Nat} (ha : EvA ta σ H vs) (hs : SpX CR sp (vs ++ []) H (.ok v)) (k : ∀ H1, Ex H H1 → tz D (σ.set i (some v)) H1) : tSeq (tAsg (tCall sp [] E ta) (gName i)) tz D σ H := q_callX ha hs (fun z hz H1 e1 => by
  cases hz
  exact k H1 e1) fun _ z => nomatch z
theorem q_callErr {i : Nat} (ha : EvA ta σ H vs) (hs : SpX CR sp (vs ++ []) H (.error n)) (q : ErrK CR n H E) : tSeq (tAsg (tCall sp [] E ta) (gName i)) tz D σ H := q_callX ha hs (fun _ z => nomatch z) fun z hz => by
  cases hz
  exact q
end
def f1 (g : M → Nat → Deed) (m : M) : List Nat → Option Deed
  | [x] => some (g m x)
  | _ => none
def f2 (g : M → Nat → Nat → Deed) (m : M) : List Nat → Option Deed
  | [x, y] => some (g m x y)
  | _ => none
def f3 (g : M → Nat → Nat → Nat → Deed) (m : M) : List Nat → Option Deed
  | [x, y, z] => some (g m x y z)
  | _ => none
theorem f1_some {g : M → Nat → Deed} {m : M} {l : List Nat} {r : Deed} (h : f1 g m l = some r) : ∃ x, l = [x] ∧ r = g m x := by
  match l, h with
  | [x], h => exact ⟨x, rfl, (Option.some.inj h).symm⟩
theorem f2_some {g : M → Nat → Nat → Deed} {m : M} {l : List Nat} {r : Deed} (h : f2 g m l = some r) : ∃ x y, l = [x, y] ∧ r = g m x y := by
  match l, h with
  | [x, y], h => exact ⟨x, y, rfl, (Option.some.inj h).symm⟩
theorem f3_some {g : M → Nat → Nat → Nat → Deed} {m : M} {l : List Nat} {r : Deed} (h : f3 g m l = some r) : ∃ x y z, l = [x, y, z] ∧ r = g m x y z := by
  match l, h with
  | [x, y, z], h => exact ⟨x, y, z, rfl, (Option.some.inj h).symm⟩
theorem out0 {p : Addr} {H : Hp} (h : H p = some (.lst [.int 0])) : H p = some (.lst (([0] : List Int).map V.int)) := h
theorem nn {p : Prop} (h : p) : ¬ ¬ p := fun z => z h
section
variable {P : Program} {w : World} {K : PySem.W.Frag} {mg : Str → Option Value} {base : Heap} {A : Ads}
theorem ok_do_put (T : Txt K mg A) : Ok P w K mg base (L2.CX P w) 6 "do_put" A.f_do_put ["book", "numbers"] (spDeed A (f3 doPut)) := by
  have o_f_ask_plane := ok_ask_plane (P := P) (w := w) (base := base) T
  have o_f_part_at := ok_part_at (P := P) (w := w) (base := base) T
  have o_f_ask := ok_ask (P := P) (w := w) (base := base) T
  have o_m_is_away := ok_m_is_away (P := P) (w := w) (base := base) T
  have o_f_parts_in := ok_parts_in (P := P) (w := w) (base := base) T
  refine T.F_f_do_put.okX T.g_do_put sc_f_do_put (fun vs H Q E h => ?_) (fun _ _ _ _ _ _ us hl => match us, hl with | [_, _], _ => rfl) (fun fd cdv A0 outer s H vs Q E hr h => ?_)
  · obtain ⟨L, m, c, nl, ns, r, rfl, _⟩ := h
    rfl
  -- slots: 0 book, 1 numbers, 2 number, 3 at, 4 flown, 5 part, 6 plane
  refine ⟨_, (pss_cons (ps_asg (pv 1) (pg_lst rfl (pgs_cons (pg_name (i := 2) sc_f_do_put.nd rfl (Or.inl rfl)) (pgs_cons (pg_name (i := 3) sc_f_do_put.nd rfl (Or.inl rfl)) (pgs_cons (pg_name (i := 4) sc_f_do_put.nd rfl (Or.inl rfl)) pgs_nil)))))
    (pss_cons (ps_expr (pe_callO o_f_ask_plane (hr.mono (by decide)) (passes_call (takes_of rfl rfl rfl rfl) (fun _ _ _ _ h => h)) rfl (pa_cons (pv 3) pa_nil)))
    (pss_cons (ps_set (i := 5) sc_f_do_put.nd rfl (Or.inl rfl) (pe_callO o_f_part_at (hr.mono (by decide)) (passes_call (takes_of rfl rfl rfl rfl) (fun _ _ _ _ h => h)) rfl (pa_cons (pv 0) (pa_cons (pv 2) pa_nil))))
    (pss_cons (ps_set (i := 6) sc_f_do_put.nd rfl (Or.inl rfl) (pe_ix ix_list (pe_fld (pv 0) rfl) (pv 3) (fun _ _ => rfl)))
    (pss_cons (ps_expr (pe_callO o_f_ask (hr.mono (by decide)) (passes_call (takes_of rfl rfl rfl rfl) (fun _ _ _ _ h => h)) rfl (pa_cons (pe_and (pe_cmpR op_eqI (pe_fld (pv 5) rfl) (pe_gint rfl T.g_NO_PLANE) (nomark _)) (pe_one (pe_not (pe_methO0 o_m_is_away T.cl_Plane T.me_is_away (hr.mono (by decide)) pass0 (pv 6))))) (pa_cons (pe_gint rfl T.g_AWAY) pa_nil))))
    (pss_cons (ps_expr (pe_callO o_f_ask (hr.mono (by decide)) (passes_call (takes_of rfl rfl rfl rfl) (fun _ _ _ _ h => h)) rfl (pa_cons (pe_cmpR op_eqI (pv 4) (pe_callB call_len_seq (by rfl) T.n_len PySem.boot_len (pa_cons (pe_fld (pv 6) rfl) pa_nil)) (nomark _)) (pa_cons (pe_gint rfl T.g_NOT_FLOWN) pa_nil))))
    (pss_cons (ps_expr (pe_callO o_f_ask (hr.mono (by decide)) (passes_call (takes_of rfl rfl rfl rfl) (fun _ _ _ _ h => h)) rfl (pa_cons (pe_cmpR op_lt (pe_callB call_len_seq (by rfl) T.n_len PySem.boot_len (pa_cons (pe_callO o_f_parts_in (hr.mono (by decide)) pass0 rfl (pa_cons (pv 0) (pa_cons (pv 3) pa_nil))) pa_nil)) (pe_gint rfl T.g_MOST_IN_PLANE) (nomark _)) (pa_cons (pe_gint rfl T.g_FULL) pa_nil))))
    (pss_cons (ps_fld (pv 5) (pv 3) rfl)
    (pss_one (ps_ret (pe_lst (pa_cons pe_int pa_nil)))))))))))), ?_⟩
  obtain ⟨L, m, c, nl, ns, r, rfl, b, g, hc, hn, hf, kE, kS⟩ := h
  obtain ⟨i, a, f, rfl, hr⟩ := f3_some hf
  unfold doPut at hr
  refine q_unl3 (ev_var rfl) (sq_of hn) fun H1 e1 => ?_
  have b1 := b.mono e1
  by_cases ha : a < 16
  rotate_left
  · rw [if_pos ha] at hr
    exact q_dropErr (ea_cons (ev_var rfl) ea_nil) (spX_ev fun _ _ => ⟨a, rfl, (if_neg ha).symm⟩) ((kE _ hr).mono e1)
  rw [if_neg (nn ha)] at hr
  have hp : a < m.planes.length := by rw [g.planes]; exact ha
  refine q_dropOk (ea_cons (ev_var rfl) ea_nil) (spX_ev fun _ _ => ⟨a, rfl, (if_pos ha).symm⟩) fun H2 e2 => ?_
  have b2 := b1.mono e2
  by_cases hi : i < m.parts.length
  rotate_left
  · rw [if_pos hi] at hr
    exact q_callErr (ea_cons (ev_var rfl) (ea_cons (ev_var rfl) ea_nil)) (spX_ev fun _ e => ⟨L, m, i, rfl, b2.mono e, (if_neg hi).symm⟩) ((kE _ hr).mono (e1.trans e2))
  rw [if_neg (nn hi)] at hr
  refine q_callOk (ea_cons (ev_var rfl) (ea_cons (ev_var rfl) ea_nil)) (spX_ev fun _ e => ⟨L, m, i, rfl, b2.mono e, (if_pos hi).symm⟩) fun H3 e3 => ?_
  have b3 := b2.mono e3
  refine q_asg (evB_plane T b3 (ev_var rfl) (ev_var rfl) hp) fun H4 e4 => ?_
  have b4 := b3.mono e4
  have e14 := ((e1.trans e2).trans e3).trans e4
  refine q_ask (b := decide ((m.part i).plane = 255) && !m.away a) (ev_andV (ev_bl (ev_eq (evP_plane T b4 hi (ev_var rfl)) ev_c) (dec_eq _ 255)) fun _ => ev_notV (evA_away T b4 hp (ev_var rfl))) ev_c (fun h0 H5 e5 => ?_) (fun h0 => ?_)
  rotate_left
  · rw [if_pos h0] at hr
    exact (kE _ hr).mono e14
  rw [if_neg (by rw [h0]; decide)] at hr
  have b5 := b4.mono e5
  have e15 := e14.trans e5
  refine q_ask (b := decide (f = (m.plane a).flown.length)) (ev_bl (ev_eq (ev_var rfl) (evA_lenFlown T b5 hp (ev_var rfl))) (dec_eq _ _)) ev_c (fun h1 H6 e6 => ?_) (fun h1 => ?_)
  rotate_left
  · rw [if_pos (of_decide_eq_false h1)] at hr
    exact (kE _ hr).mono e15
  rw [if_neg (nn (of_decide_eq_true h1))] at hr
  have b6 := b5.mono e6
  have e16 := e15.trans e6
  refine q_ask (b := decide ((m.partsIn a).length < 32)) (ev_bl (ev_lt (ev_in (ev_lenN (el_call (ea_cons (ev_var rfl) (ea_cons (ev_var rfl) ea_nil)) (spL_ev fun _ e => ⟨L, m, a, rfl, b6.mono e, g.pn, rfl⟩))) (by rw [nats_len])) ev_c) (dec_lt _ 32)) ev_c (fun h2 H7 e7 => ?_) (fun h2 => ?_)
  rotate_left
  · rw [if_pos (of_decide_eq_false h2)] at hr
    exact (kE _ hr).mono e16
  rw [if_neg (nn (of_decide_eq_true h2))] at hr
  have b7 := b6.mono e7
  have e17 := e16.trans e7
  refine q_fld (ev_var rfl) (ev_var rfl) (b7.pt hi) T.cl_Part T.na_Part_plane (by show 7 < 1000; decide) fun H8 e8 => ?_
  have s8 := put_pt b (e17.trans e8) hi { m.part i with plane := a } rfl rfl rfl
  rw [← pF_putPlane] at s8
  refine s_retL (el_lst (ea_cons ev_c ea_nil) (by show 1 ≤ 100000; decide)) fun p H9 n9 e9 h9 => ?_
  exact kS _ _ hr p L H9 (s8.post.ex e9) (free_there s8.there n9) (out0 h9)
theorem ok_do_take (T : Txt K mg A) : Ok P w K mg base (L2.CX P w) 6 "do_take" A.f_do_take ["book", "numbers"] (spDeed A (f2 doTake)) := by
  have o_f_part_at := ok_part_at (P := P) (w := w) (base := base) T
  have o_f_ask := ok_ask (P := P) (w := w) (base := base) T
  have o_m_is_away := ok_m_is_away (P := P) (w := w) (base := base) T
  refine T.F_f_do_take.okX T.g_do_take sc_f_do_take (fun vs H Q E h => ?_) (fun _ _ _ _ _ _ us hl => match us, hl with | [_, _], _ => rfl) (fun fd cdv A0 outer s H vs Q E hr h => ?_)
  · obtain ⟨L, m, c, nl, ns, r, rfl, _⟩ := h
    rfl
  -- slots: 0 book, 1 numbers, 2 number, 3 flown, 4 part, 5 plane
  refine ⟨_, (pss_cons (ps_asg (pv 1) (pg_lst rfl (pgs_cons (pg_name (i := 2) sc_f_do_take.nd rfl (Or.inl rfl)) (pgs_cons (pg_name (i := 3) sc_f_do_take.nd rfl (Or.inl rfl)) pgs_nil))))
    (pss_cons (ps_set (i := 4) sc_f_do_take.nd rfl (Or.inl rfl) (pe_callO o_f_part_at (hr.mono (by decide)) (passes_call (takes_of rfl rfl rfl rfl) (fun _ _ _ _ h => h)) rfl (pa_cons (pv 0) (pa_cons (pv 2) pa_nil))))
    (pss_cons (ps_expr (pe_callO o_f_ask (hr.mono (by decide)) (passes_call (takes_of rfl rfl rfl rfl) (fun _ _ _ _ h => h)) rfl (pa_cons (pe_cmpR op_neI (pe_fld (pv 4) rfl) (pe_gint rfl T.g_NO_PLANE) (nomark _)) (pa_cons (pe_gint rfl T.g_IN_NONE) pa_nil))))
    (pss_cons (ps_set (i := 5) sc_f_do_take.nd rfl (Or.inl rfl) (pe_ix ix_list (pe_fld (pv 0) rfl) (pe_fld (pv 4) rfl) (fun _ _ => rfl)))
    (pss_cons (ps_expr (pe_callO o_f_ask (hr.mono (by decide)) (passes_call (takes_of rfl rfl rfl rfl) (fun _ _ _ _ h => h)) rfl (pa_cons (pe_not (pe_methO0 o_m_is_away T.cl_Plane T.me_is_away (hr.mono (by decide)) pass0 (pv 5))) (pa_cons (pe_gint rfl T.g_AWAY) pa_nil))))
    (pss_cons (ps_expr (pe_callO o_f_ask (hr.mono (by decide)) (passes_call (takes_of rfl rfl rfl rfl) (fun _ _ _ _ h => h)) rfl (pa_cons (pe_cmpR op_eqI (pv 3) (pe_callB call_len_seq (by rfl) T.n_len PySem.boot_len (pa_cons (pe_fld (pv 5) rfl) pa_nil)) (nomark _)) (pa_cons (pe_gint rfl T.g_NOT_FLOWN) pa_nil))))
    (pss_cons (ps_fld (pv 4) (pe_gint rfl T.g_NO_PLANE) rfl)
    (pss_one (ps_ret (pe_lst (pa_cons pe_int pa_nil))))))))))), ?_⟩
  obtain ⟨L, m, c, nl, ns, r, rfl, b, g, hc, hn, hf, kE, kS⟩ := h
  obtain ⟨i, f, rfl, hr⟩ := f2_some hf
  unfold doTake at hr
  refine q_unl2 (ev_var rfl) (sq_of hn) fun H1 e1 => ?_
  have b1 := b.mono e1
  by_cases hi : i < m.parts.length
  rotate_left
  · rw [if_pos hi] at hr
    exact q_callErr (ea_cons (ev_var rfl) (ea_cons (ev_var rfl) ea_nil)) (spX_ev fun _ e => ⟨L, m, i, rfl, b1.mono e, (if_neg hi).symm⟩) ((kE _ hr).mono e1)
  rw [if_neg (nn hi)] at hr
  have gp := g.parts _ (part_mem hi)
  refine q_callOk (ea_cons (ev_var rfl) (ea_cons (ev_var rfl) ea_nil)) (spX_ev fun _ e => ⟨L, m, i, rfl, b1.mono e, (if_pos hi).symm⟩) fun H2 e2 => ?_
  have b2 := b1.mono e2
  have e12 := e1.trans e2
  refine q_ask (b := !decide ((m.part i).plane = 255)) (ev_bl (ev_ne (evP_plane T b2 hi (ev_var rfl)) ev_c) (by rw [show decide (((m.part i).plane : Int) = 255) = decide ((m.part i).plane = 255) from dec_eq _ 255])) ev_c (fun h0 H3 e3 => ?_) (fun h0 => ?_)
  rotate_left
  · rw [if_pos (by simpa using h0)] at hr
    exact (kE _ hr).mono e12
  have hne : ¬ (m.part i).plane = 255 := by simpa using h0
  rw [if_neg hne] at hr
  have b3 := b2.mono e3
  have e13 := e12.trans e3
  have hp : (m.part i).plane < m.planes.length := by rw [g.planes]; exact gp.plane.resolve_left hne
  refine q_asg (evB_plane T b3 (ev_var rfl) (evP_plane T b3 hi (ev_var rfl)) hp) fun H4 e4 => ?_
  have b4 := b3.mono e4
  have e14 := e13.trans e4
  refine q_ask (b := !m.away (m.part i).plane) (ev_notV (evA_away T b4 hp (ev_var rfl))) ev_c (fun h1 H5 e5 => ?_) (fun h1 => ?_)
  rotate_left
  · rw [if_pos (by simpa using h1)] at hr
    exact (kE _ hr).mono e14
  rw [if_neg (by simpa using h1)] at hr
  have b5 := b4.mono e5
  have e15 := e14.trans e5
  refine q_ask (b := decide (f = (m.plane (m.part i).plane).flown.length)) (ev_bl (ev_eq (ev_var rfl) (evA_lenFlown T b5 hp (ev_var rfl))) (dec_eq _ _)) ev_c (fun h2 H6 e6 => ?_) (fun h2 => ?_)
  rotate_left
  · rw [if_pos (of_decide_eq_false h2)] at hr
    exact (kE _ hr).mono e15
  rw [if_neg (nn (of_decide_eq_true h2))] at hr
  have b6 := b5.mono e6
  have e16 := e15.trans e6
  refine q_fld ev_c (ev_var rfl) (b6.pt hi) T.cl_Part T.na_Part_plane (by show 7 < 1000; decide) fun H8 e8 => ?_
  have s8 := put_pt b (e16.trans e8) hi { m.part i with plane := 255 } rfl rfl rfl
  rw [← pF_putPlane] at s8
  refine s_retL (el_lst (ea_cons ev_c ea_nil) (by show 1 ≤ 100000; decide)) fun p H9 n9 e9 h9 => ?_
  exact kS _ _ hr p L H9 (s8.post.ex e9) (free_there s8.there n9) (out0 h9)
theorem ok_do_of (T : Txt K mg A) : Ok P w K mg base (L2.CX P w) 6 "do_of" A.f_do_of ["book", "numbers"] (spDeed A (f1 doOf)) := by
  have o_f_part_at := ok_part_at (P := P) (w := w) (base := base) T
  refine T.F_f_do_of.okX T.g_do_of sc_f_do_of (fun vs H Q E h => ?_) (fun _ _ _ _ _ _ us hl => match us, hl with | [_, _], _ => rfl) (fun fd cdv A0 outer s H vs Q E hr h => ?_)
  · obtain ⟨L, m, c, nl, ns, r, rfl, _⟩ := h
    rfl
  -- slots: 0 book, 1 numbers, 2 part
  refine ⟨_, (pss_cons (ps_set (i := 2) sc_f_do_of.nd rfl (Or.inl rfl) (pe_callO o_f_part_at (hr.mono (by decide)) (passes_call (takes_of rfl rfl rfl rfl) (fun _ _ _ _ h => h)) rfl (pa_cons (pv 0) (pa_cons (pe_ix ix_list (pv 1) pe_int (fun _ _ => rfl)) pa_nil))))
    (pss_one (ps_ret (pe_lst (pa_cons pe_int (pa_cons (pe_fld (pv 2) rfl) (pa_cons (pe_fld (pv 2) rfl) (pa_cons (pe_fld (pv 2) rfl) (pa_cons (pe_fld (pv 2) rfl) pa_nil))))))))), ?_⟩
  obtain ⟨L, m, c, nl, ns, r, rfl, b, g, hc, hn, hf, kE, kS⟩ := h
  obtain ⟨i, rfl, hr⟩ := f1_some hf
  unfold doOf at hr
  by_cases hi : i < m.parts.length
  rotate_left
  · rw [if_pos hi] at hr
    exact q_callErr (ea_cons (ev_var rfl) (ea_cons (ev_ixL (j := 0) (ev_var rfl) ev_c (sq_of hn) rfl) ea_nil)) (spX_ev fun _ e => ⟨L, m, i, rfl, b.mono e, (if_neg hi).symm⟩) (kE _ hr)
  rw [if_neg (nn hi)] at hr
  refine q_callOk (ea_cons (ev_var rfl) (ea_cons (ev_ixL (j := 0) (ev_var rfl) ev_c (sq_of hn) rfl) ea_nil)) (spX_ev fun _ e => ⟨L, m, i, rfl, b.mono e, (if_pos hi).symm⟩) fun H2 e2 => ?_
  have b2 := b.mono e2
  refine s_retL (el_lst (ea_cons ev_c (ea_cons (evP_kind T b2 hi (ev_var rfl)) (ea_cons (evP_plane T b2 hi (ev_var rfl)) (ea_cons (evP_minutes T b2 hi (ev_var rfl)) (ea_cons (evP_landings T b2 hi (ev_var rfl)) ea_nil))))) (by show 5 ≤ 100000; decide)) fun p H9 n9 e9 h9 => ?_
  exact kS _ _ hr p L H9 (Post.refl b (e2.trans e9)) (fresh_back e2 n9) h9
end
end FBW
namespace FBW
open PySem PySem.Spec PyProof.Rows L2 Evl FB
/-! ### a part more -/
def Lay.more (L : Lay) (N : Nat) (x dx a b c : Addr) : Lay where
  ad
    | .pt i => if i = N then x else L.ad (.pt i)
    | .pm i => if i = N then a else L.ad (.pm i)
    | .pn i => if i = N then b else L.ad (.pn i)
    | .py i => if i = N then c else L.ad (.py i)
    | r => L.ad r
  dx
    | .pt i => if i = N then dx else L.dx (.pt i)
    | r => L.dx r
def M.addPart (m : M) (p : MPart) : M := { m with parts := m.parts ++ [p] }
section
variable {A : Ads} {L : Lay} {m : M} {H H2 : Hp} {x dx a b c : Addr} {p : MPart}
theorem addPart_len : (M.addPart m p).parts.length = m.parts.length + 1 := by unfold M.addPart; simp
theorem addPart_old {i : Nat} (h : i < m.parts.length) : (M.addPart m p).part i = m.part i := by
  unfold M.addPart M.part
  show (m.parts ++ [p]).getD i _ = _
  rw [List.getD_eq_getElem?_getD, List.getElem?_append_left h, List.getD_eq_getElem?_getD]
theorem addPart_new : (M.addPart m p).part m.parts.length = p := by
  unfold M.addPart M.part
  show (m.parts ++ [p]).getD _ _ = _
  rw [List.getD_eq_getElem?_getD, List.getElem?_append_right (Nat.le_refl _), Nat.sub_self]
  rfl
theorem more_cases {s : Role} (h : okR (M.addPart m p) s) : (okR m s ∧ (L.more m.parts.length x dx a b c).ad s = L.ad s) ∨ (s = .pt m.parts.length ∧ (L.more m.parts.length x dx a b c).ad s = x) ∨ (s = .pm m.parts.length ∧ (L.more m.parts.length x dx a b c).ad s = a) ∨
    (s = .pn m.parts.length ∧ (L.more m.parts.length x dx a b c).ad s = b) ∨ (s = .py m.parts.length ∧ (L.more m.parts.length x dx a b c).ad s = c) := by
  cases s with
  | pt i =>
    have h' : i < (M.addPart m p).parts.length := h
    rw [addPart_len] at h'
    by_cases e : i = m.parts.length
    · exact .inr (.inl ⟨by rw [e], if_pos e⟩)
    · exact .inl ⟨show i < m.parts.length by omega, if_neg e⟩
  | pm i =>
    have h' : i < (M.addPart m p).parts.length := h
    rw [addPart_len] at h'
    by_cases e : i = m.parts.length
    · exact .inr (.inr (.inl ⟨by rw [e], if_pos e⟩))
    · exact .inl ⟨show i < m.parts.length by omega, if_neg e⟩
  | pn i =>
    have h' : i < (M.addPart m p).parts.length := h
    rw [addPart_len] at h'
    by_cases e : i = m.parts.length
    · exact .inr (.inr (.inr (.inl ⟨by rw [e], if_pos e⟩)))
    · exact .inl ⟨show i < m.parts.length by omega, if_neg e⟩
  | py i =>
    have h' : i < (M.addPart m p).parts.length := h
    rw [addPart_len] at h'
    by_cases e : i = m.parts.length
    · exact .inr (.inr (.inr (.inr ⟨by rw [e], if_pos e⟩)))
    · exact .inl ⟨show i < m.parts.length by omega, if_neg e⟩
  | book => exact .inl ⟨trivial, rfl⟩
  | kl => exact .inl ⟨trivial, rfl⟩
  | pl => exact .inl ⟨trivial, rfl⟩
  | al => exact .inl ⟨trivial, rfl⟩
  | kd i => exact .inl ⟨h, rfl⟩
  | km i => exact .inl ⟨h, rfl⟩
  | kn i => exact .inl ⟨h, rfl⟩
  | ky i => exact .inl ⟨h, rfl⟩
  | an j => exact .inl ⟨h, rfl⟩
  | af j => exact .inl ⟨h, rfl⟩
theorem more_obj {s : Role} (h : okR m s) (hp : s ≠ .pl) : obj A (L.more m.parts.length x dx a b c) (M.addPart m p) s = obj A L m s := by
  cases s with
  | pl => exact absurd rfl hp
  | pt i =>
    have e : i ≠ m.parts.length := Nat.ne_of_lt h
    show HO.ins _ (if i = m.parts.length then dx else L.dx (.pt i)) [("kind", _), ("plane", _), ("minutes", _), ("landings", _), ("minutes_since", .ref (if i = m.parts.length then a else L.ad (.pm i))), ("landings_since", .ref (if i = m.parts.length then b else L.ad (.pn i))), ("done_on", .ref (if i = m.parts.length then c else L.ad (.py i)))] = _
    rw [if_neg e, if_neg e, if_neg e, if_neg e, addPart_old h]
    rfl
  | pm i =>
    show HO.lst (nats ((M.addPart m p).part i).ms) = _
    rw [addPart_old h]
    rfl
  | pn i =>
    show HO.lst (nats ((M.addPart m p).part i).ls) = _
    rw [addPart_old h]
    rfl
  | py i =>
    show HO.lst (nats ((M.addPart m p).part i).dn) = _
    rw [addPart_old h]
    rfl
  | _ => rfl
/-- the parts' list has one more, its objects are new -/
theorem post_more (bk : BookAt A L m H) (hx : H x = none) (ha : H a = none) (hb : H b = none) (hc : H c = none) (xa : x ≠ a) (xb : x ≠ b) (xc : x ≠ c) (ab : a ≠ b) (ac : a ≠ c) (bc : b ≠ c)
    (old : ∀ q o, H q = some o → q ≠ L.ad .pl → H2 q = some o) (hpl : H2 (L.ad .pl) = some (.lst (refsOf (fun i => L.ad (.pt i)) m.parts.length ++ [.ref x])))
    (fx : H2 x = some (.ins A.c_Part dx (partF (L.more m.parts.length x dx a b c) m.parts.length p))) (fa : H2 a = some (.lst (nats p.ms))) (fb : H2 b = some (.lst (nats p.ls))) (fc : H2 c = some (.lst (nats p.dn))) :
    Post A L m H (L.more m.parts.length x dx a b c) (M.addPart m p) H2 := by
  have nw : ∀ {q : Addr} {s : Role}, H q = none → okR m s → L.ad s ≠ q := fun {q s} h1 h2 => ne_of_none (bk.ob s h2) h1
  refine ⟨⟨fun s h => ?_, fun s t hs ht e => ?_⟩, fun q o h z => old q o h (Ne.symm (z .pl trivial)), fun s h => ?_, rfl⟩
  · rcases more_cases (L := L) (x := x) (dx := dx) (a := a) (b := b) (c := c) h with ⟨h1, h2⟩ | ⟨h1, h2⟩ | ⟨h1, h2⟩ | ⟨h1, h2⟩ | ⟨h1, h2⟩
    · by_cases e : s = .pl
      · subst e
        rw [h2, hpl]
        show _ = some (HO.lst (refsOf (fun i => (L.more m.parts.length x dx a b c).ad (.pt i)) (M.addPart m p).parts.length))
        rw [addPart_len, refs_succ]
        congr 3
        · exact refs_congr fun i hi => (if_neg (Nat.ne_of_lt hi)).symm
        · show [V.ref x] = [V.ref (if m.parts.length = m.parts.length then x else _)]
          rw [if_pos rfl]
      · rw [h2, more_obj h1 e]
        exact old _ _ (bk.ob s h1) fun z => e (bk.inj s .pl h1 trivial z)
    · rw [h2, fx, h1]
      show _ = some (HO.ins A.c_Part (if m.parts.length = m.parts.length then dx else _) (partF _ m.parts.length ((M.addPart m p).part m.parts.length)))
      rw [if_pos rfl, addPart_new]
    · rw [h2, fa, h1]
      show _ = some (HO.lst (nats ((M.addPart m p).part m.parts.length).ms))
      rw [addPart_new]
    · rw [h2, fb, h1]
      show _ = some (HO.lst (nats ((M.addPart m p).part m.parts.length).ls))
      rw [addPart_new]
    · rw [h2, fc, h1]
      show _ = some (HO.lst (nats ((M.addPart m p).part m.parts.length).dn))
      rw [addPart_new]
  · rcases more_cases (L := L) (x := x) (dx := dx) (a := a) (b := b) (c := c) hs with ⟨h1, h2⟩ | ⟨h1, h2⟩ | ⟨h1, h2⟩ | ⟨h1, h2⟩ | ⟨h1, h2⟩ <;>
      rcases more_cases (L := L) (x := x) (dx := dx) (a := a) (b := b) (c := c) ht with ⟨k1, k2⟩ | ⟨k1, k2⟩ | ⟨k1, k2⟩ | ⟨k1, k2⟩ | ⟨k1, k2⟩ <;> rw [h2, k2] at e <;>
      first
        | exact bk.inj s t h1 k1 e
        | (rw [h1, k1] <;> done)
        | exact absurd e (nw hx h1)
        | exact absurd e (nw ha h1)
        | exact absurd e (nw hb h1)
        | exact absurd e (nw hc h1)
        | exact absurd e.symm (nw hx k1)
        | exact absurd e.symm (nw ha k1)
        | exact absurd e.symm (nw hb k1)
        | exact absurd e.symm (nw hc k1)
        | exact absurd e xa
        | exact absurd e xb
        | exact absurd e xc
        | exact absurd e ab
        | exact absurd e ac
        | exact absurd e bc
        | exact absurd e.symm xa
        | exact absurd e.symm xb
        | exact absurd e.symm xc
        | exact absurd e.symm ab
        | exact absurd e.symm ac
        | exact absurd e.symm bc
  · rcases more_cases (L := L) (x := x) (dx := dx) (a := a) (b := b) (c := c) h with ⟨h1, h2⟩ | ⟨h1, h2⟩ | ⟨h1, h2⟩ | ⟨h1, h2⟩ | ⟨h1, h2⟩
    · exact .inl ⟨h1, h2⟩
    · rw [h2]; exact .inr hx
    · rw [h2]; exact .inr ha
    · rw [h2]; exact .inr hb
    · rw [h2]; exact .inr hc
end
/-- xs.append(C(..)) -/
theorem q_appMk {K : PySem.W.Frag} {σ : L2.St} {H : Hp} {ta : TE} {tA : TA} {D : Ends} {tz : TS} {E : XK} {sp : Sp} {C l : Addr} {xs vs : List V} (ha : Ev ta σ H (.ref l)) (hl : H l = some (.lst xs)) (hv : EvA tA σ H vs)
    (k : ∀ H1, Ex H H1 → ∀ x dx, H1 x = none → H1 dx = none → dx ≠ x → sp (.ref x :: (vs ++ [])) (upd (upd H1 dx (.own x)) x (.ins C dx [])) (fun v H2 => v = .non ∧ ∃ ys, H2 l = some (.lst ys) ∧ ys.length < sizeLine ∧ tz D σ (upd H2 l (.lst (ys ++ [.ref x])))) E) :
    tSeq (tDrop (tBM K "list" rAppend ta (tCons (tMake C sp [] E tA) tNil))) tz D σ H :=
  show ta σ H fun z H1 => tyV K "list" z H1 ∧ tA σ H1 fun vs H2 => ∀ x dx, H2 x = none → H2 dx = none → dx ≠ x → sp (.ref x :: (vs ++ [])) (upd (upd H2 dx (.own x)) x (.ins C dx [])) (fun v H3 => v = .non ∧ rAppend z [.ref x] H3 fun _ H4 => tz D σ H4) E from
  ha H (Ex.refl H) _ fun H1 e1 => ⟨Or.inl ⟨rfl, xs, sq_of (e1 _ _ hl)⟩, hv H1 e1 _ fun H2 e2 x dx nx nd ne => by
    have q := k H2 (e1.trans e2) x dx nx nd ne
    have e : (fun (v : V) (H3 : Hp) => v = .non ∧ rAppend (.ref l) [.ref x] H3 fun _ H4 => tz D σ H4) = fun v H2 => v = .non ∧ ∃ ys, H2 l = some (.lst ys) ∧ ys.length < sizeLine ∧ tz D σ (upd H2 l (.lst (ys ++ [.ref x]))) := by
      funext v H3
      apply propext
      constructor
      · rintro ⟨h1, l', ys, y, h2, h3, h4, h5, h6⟩
        cases h2
        cases h3
        exact ⟨h1, ys, h4, h5, h6⟩
      · rintro ⟨h1, ys, h4, h5, h6⟩
        exact ⟨h1, l, ys, .ref x, rfl, rfl, h4, h5, h6⟩
    rw [e]
    exact q⟩
section
variable {P : Program} {w : World} {K : PySem.W.Frag} {mg : Str → Option Value} {base : Heap} {A : Ads}
theorem ok_do_part (T : Txt K mg A) : Ok P w K mg base (L2.CX P w) 6 "do_part" A.f_do_part ["book", "numbers"] (spDeed A (f2 doPart)) := by
  have o_f_ask := ok_ask (P := P) (w := w) (base := base) T
  have o_f_is_date := ok_is_date (P := P) (w := w) (base := base) T
  have o_f_ask_order := ok_ask_order (P := P) (w := w) (base := base) T
  have o_i_Part := ok_i_Part (P := P) (w := w) (base := base) T
  refine T.F_f_do_part.okX T.g_do_part sc_f_do_part (fun vs H Q E h => ?_) (fun _ _ _ _ _ _ us hl => match us, hl with | [_, _], _ => rfl) (fun fd cdv A0 outer s H vs Q E hr h => ?_)
  · obtain ⟨L, m, c, nl, ns, r, rfl, _⟩ := h
    rfl
  -- slots: 0 book, 1 numbers, 2 kind, 3 date, 4 day
  refine ⟨_, (pss_cons (ps_asg (pv 1) (pg_lst rfl (pgs_cons (pg_name (i := 2) sc_f_do_part.nd rfl (Or.inl rfl)) (pgs_cons (pg_name (i := 3) sc_f_do_part.nd rfl (Or.inl rfl)) pgs_nil))))
    (pss_cons (ps_expr (pe_callO o_f_ask (hr.mono (by decide)) (passes_call (takes_of rfl rfl rfl rfl) (fun _ _ _ _ h => h)) rfl (pa_cons (pe_and (pe_cmpR op_lt (pv 2) (pe_callB call_len_seq (by rfl) T.n_len PySem.boot_len (pa_cons (pe_fld (pv 0) rfl) pa_nil)) (nomark _)) (pe_one (pe_callO o_f_is_date (hr.mono (by decide)) pass0 rfl (pa_cons (pv 3) pa_nil)))) (pa_cons (pe_gint rfl T.g_WRONG) pa_nil))))
    (pss_cons (ps_set (i := 4) sc_f_do_part.nd rfl (Or.inl rfl) (pe_callO o_f_ask_order (hr.mono (by decide)) (passes_call (takes_of rfl rfl rfl rfl) (fun _ _ _ _ h => h)) rfl (pa_cons (pv 0) (pa_cons (pv 3) pa_nil))))
    (pss_cons (ps_expr (pe_callO o_f_ask (hr.mono (by decide)) (passes_call (takes_of rfl rfl rfl rfl) (fun _ _ _ _ h => h)) rfl (pa_cons (pe_cmpR op_lt (pe_callB call_len_seq (by rfl) T.n_len PySem.boot_len (pa_cons (pe_fld (pv 0) rfl) pa_nil)) (pe_gint rfl T.g_MOST_PARTS) (nomark _)) (pa_cons (pe_gint rfl T.g_FULL) pa_nil))))
    (pss_cons (ps_expr (pe_bm PySem.F.plainAttrs_list PySem.F.slot_list_append PySem.F.type_list_append mt_append (pe_fld (pv 0) rfl) (pa_cons (pe_makeO o_i_Part T.mk_Part T.g_Part (hr.mono (by decide)) pass0 rfl (pa_cons (pv 2) (pa_cons (pv 4) pa_nil))) pa_nil)))
    (pss_cons (ps_fld (pv 0) (pv 4) rfl)
    (pss_one (ps_ret (pe_lst (pa_cons (pe_op op_sub (pe_callB call_len_seq (by rfl) T.n_len PySem.boot_len (pa_cons (pe_fld (pv 0) rfl) pa_nil)) pe_int) pa_nil)))))))))), ?_⟩
  obtain ⟨L, m, cc, nl, ns, r, rfl, b, g, hc, hn, hf, kE, kS⟩ := h
  obtain ⟨k, d, rfl, hr⟩ := f2_some hf
  unfold doPart at hr
  refine q_unl2 (ev_var rfl) (sq_of hn) fun H1 e1 => ?_
  have b1 := b.mono e1
  refine q_ask (b := decide (k < m.kinds.length) && isDate d) (ev_andV (ev_bl (ev_lt (ev_var rfl) (evB_lenKinds T b1 (ev_var rfl))) (dec_lt _ _)) fun _ => ev_call (ea_cons (ev_var rfl) ea_nil) (spV_ev fun _ _ => ⟨d, rfl, rfl⟩)) ev_c (fun h0 H2 e2 => ?_) (fun h0 => ?_)
  rotate_left
  · rw [if_pos h0] at hr
    exact (kE _ hr).mono e1
  rw [if_neg (by rw [h0]; decide)] at hr
  have hd : isDate d = true := (Bool.and_eq_true_iff.mp h0).2
  have b2 := b1.mono e2
  have e12 := e1.trans e2
  by_cases hb : numberOf d < m.last
  · rw [if_pos hb] at hr
    exact q_callErr (ea_cons (ev_var rfl) (ea_cons (ev_var rfl) ea_nil)) (spX_ev fun _ e => ⟨L, m, d, rfl, b2.mono e, hd, (if_pos hb).symm⟩) ((kE _ hr).mono e12)
  rw [if_neg hb] at hr
  refine q_callOk (ea_cons (ev_var rfl) (ea_cons (ev_var rfl) ea_nil)) (spX_ev fun _ e => ⟨L, m, d, rfl, b2.mono e, hd, (if_neg hb).symm⟩) fun H3 e3 => ?_
  have b3 := b2.mono e3
  have e13 := e12.trans e3
  refine q_ask (b := decide (m.parts.length < 256)) (ev_bl (ev_lt (evB_lenParts T b3 (ev_var rfl)) ev_c) (dec_lt _ 256)) ev_c (fun h1 H4 e4 => ?_) (fun h1 => ?_)
  rotate_left
  · rw [if_pos (of_decide_eq_false h1)] at hr
    exact (kE _ hr).mono e13
  rw [if_neg (nn (of_decide_eq_true h1))] at hr
  have b4 := b3.mono e4
  have e14 := e13.trans e4
  -- book.parts.append(Part(kind, day))
  refine q_appMk (evB_parts T b4 (ev_var rfl)) b4.pl (ea_cons (ev_var rfl) (ea_cons (ev_var rfl) ea_nil)) fun H6 e6 x dx nx nd ne => ?_
  have b6 := b4.mono e6
  have e16 := e14.trans e6
  have i7 : Ex H6 (upd (upd H6 dx (.own x)) x (.ins A.c_Part dx [])) := (Ex.new nd).trans (Ex.new (by rw [upd_ne (Ne.symm ne)]; exact nx))
  refine ⟨x, dx, k, numberOf d, rfl, upd_same, fun H7 pa pb pc na nb nc ab ac bc fa fb fc fx ex => ⟨rfl, ?_⟩⟩
  have xa : x ≠ pa := ne_of_none upd_same na
  have xb : x ≠ pb := ne_of_none upd_same nb
  have xc : x ≠ pc := ne_of_none upd_same nc
  have old7 : Ex H6 H7 := fun q o h => ex q o (i7 q o h) (ne_of_none h nx)
  have b7 := b6.mono old7
  have hpl7 := b7.pl
  refine ⟨_, hpl7, by rw [refs_len]; exact small1000 (by have := g.pn; omega), ?_⟩
  have nH : ∀ {q}, upd (upd H6 dx (.own x)) x (.ins A.c_Part dx []) q = none → H q = none := fun {q} h => Same.free (fun b o z => i7 b o (e16 b o z)) h
  have pne : ∀ {q : Addr}, upd (upd H6 dx (.own x)) x (.ins A.c_Part dx []) q = none → q ≠ L.ad .pl := fun {q} h => (ne_of_none (i7 _ _ b6.pl) h).symm
  have xpl : x ≠ L.ad .pl := (ne_of_none b6.pl nx).symm
  have p8 : Post A L m H (L.more m.parts.length x dx pa pb pc) (M.addPart m (MPart.new k (numberOf d))) (upd H7 (L.ad .pl) (.lst (refsOf (fun i => L.ad (.pt i)) m.parts.length ++ [.ref x]))) := by
    refine post_more b (Same.free (fun b o z => e16 b o z) nx) (nH na) (nH nb) (nH nc) xa xb xc ab ac bc (fun q o h z => ?_) upd_same ?_ ?_ ?_ ?_
    · rw [upd_ne z]
      exact old7 _ _ (e16 _ _ h)
    · rw [upd_ne xpl, fx]
      congr 2
      unfold partF
      rw [show (L.more m.parts.length x dx pa pb pc).ad (.pm m.parts.length) = pa from if_pos rfl, show (L.more m.parts.length x dx pa pb pc).ad (.pn m.parts.length) = pb from if_pos rfl, show (L.more m.parts.length x dx pa pb pc).ad (.py m.parts.length) = pc from if_pos rfl]
      rfl
    · rw [upd_ne (pne na)]; exact fa
    · rw [upd_ne (pne nb)]; exact fb
    · rw [upd_ne (pne nc)]; exact fc
  have th8 : ∀ q o, H q = some o → ∃ o', upd H7 (L.ad .pl) (.lst (refsOf (fun i => L.ad (.pt i)) m.parts.length ++ [.ref x])) q = some o' := there_put (fun q o h => old7 q o (e16 q o h))
  have b8 := p8.at_
  -- book.last_day = day
  refine q_fld (ev_var rfl) (ev_var rfl) b8.book T.cl_Book T.na_Book_last_day (by show 4 < 1000; decide) fun H9 e9 => ?_
  have s9 := put_last b8 e9 (numberOf d)
  rw [← bF_putLast] at s9
  have p9 := p8.trans s9.post th8
  have b9 := p9.at_
  refine s_retL (el_lst (ea_cons (ev_in (j := (m.parts.length : Int)) (ev_sub (evB_lenParts T b9 (ev_var rfl)) ev_c) (by show ((M.addPart m (MPart.new k (numberOf d))).parts.length : Int) - 1 = _; rw [addPart_len]; omega)) ea_nil) (by show 1 ≤ 100000; decide)) fun p H10 n10 e10 h10 => ?_
  exact kS _ _ hr p _ H10 (p9.ex e10) (free_there (there_trans th8 s9.there) n10) h10
end
end FBW
namespace FBW
open PySem PySem.Spec PyProof.Rows L2 Evl FB
/-- a call whose value is dropped, by its promise -/
theorem q_dropC {σ : L2.St} {H : Hp} {ta : TA} {D : Ends} {tz : TS} {E : XK} {sp : Sp} {vs : List V} (ha : EvA ta σ H vs) (k : ∀ H1, Ex H H1 → sp (vs ++ []) H1 (fun _ H2 => tz D σ H2) E) : tSeq (tDrop (tCall sp [] E ta)) tz D σ H :=
  show ta σ H fun vs H1 => sp (vs ++ []) H1 (fun _ H2 => tz D σ H2) E from ha H (Ex.refl H) _ k
section
variable {P : Program} {w : World} {K : PySem.W.Frag} {mg : Str → Option Value} {base : Heap} {A : Ads}
theorem ok_do_did (T : Txt K mg A) : Ok P w K mg base (L2.CX P w) 6 "do_did" A.f_do_did ["book", "numbers"] (spDeed A (f3 doDid)) := by
  have o_f_ask := ok_ask (P := P) (w := w) (base := base) T
  have o_f_part_at := ok_part_at (P := P) (w := w) (base := base) T
  have o_f_is_date := ok_is_date (P := P) (w := w) (base := base) T
  have o_f_ask_order := ok_ask_order (P := P) (w := w) (base := base) T
  have o_m_is_away := ok_m_is_away (P := P) (w := w) (base := base) T
  have o_f_do_task := ok_do_task (P := P) (w := w) (base := base) T
  refine T.F_f_do_did.okX T.g_do_did sc_f_do_did (fun vs H Q E h => ?_) (fun _ _ _ _ _ _ us hl => match us, hl with | [_, _], _ => rfl) (fun fd cdv A0 outer s H vs Q E hr h => ?_)
  · obtain ⟨L, m, c, nl, ns, r, rfl, _⟩ := h
    rfl
  -- slots: 0 book, 1 numbers, 2 number, 3 task, 4 date, 5 part, 6 day
  refine ⟨_, (pss_cons (ps_asg (pv 1) (pg_lst rfl (pgs_cons (pg_name (i := 2) sc_f_do_did.nd rfl (Or.inl rfl)) (pgs_cons (pg_name (i := 3) sc_f_do_did.nd rfl (Or.inl rfl)) (pgs_cons (pg_name (i := 4) sc_f_do_did.nd rfl (Or.inl rfl)) pgs_nil)))))
    (pss_cons (ps_expr (pe_callO o_f_ask (hr.mono (by decide)) (passes_call (takes_of rfl rfl rfl rfl) (fun _ _ _ _ h => h)) rfl (pa_cons (pe_cmpR op_lt (pv 3) (pe_gint rfl T.g_TASKS) (nomark _)) (pa_cons (pe_gint rfl T.g_WRONG) pa_nil))))
    (pss_cons (ps_set (i := 5) sc_f_do_did.nd rfl (Or.inl rfl) (pe_callO o_f_part_at (hr.mono (by decide)) (passes_call (takes_of rfl rfl rfl rfl) (fun _ _ _ _ h => h)) rfl (pa_cons (pv 0) (pa_cons (pv 2) pa_nil))))
    (pss_cons (ps_expr (pe_callO o_f_ask (hr.mono (by decide)) (passes_call (takes_of rfl rfl rfl rfl) (fun _ _ _ _ h => h)) rfl (pa_cons (pe_callO o_f_is_date (hr.mono (by decide)) pass0 rfl (pa_cons (pv 4) pa_nil)) (pa_cons (pe_gint rfl T.g_WRONG) pa_nil))))
    (pss_cons (ps_set (i := 6) sc_f_do_did.nd rfl (Or.inl rfl) (pe_callO o_f_ask_order (hr.mono (by decide)) (passes_call (takes_of rfl rfl rfl rfl) (fun _ _ _ _ h => h)) rfl (pa_cons (pv 0) (pa_cons (pv 4) pa_nil))))
    (pss_cons (ps_expr (pe_callO o_f_ask (hr.mono (by decide)) (passes_call (takes_of rfl rfl rfl rfl) (fun _ _ _ _ h => h)) rfl (pa_cons (pe_or (pe_cmpR op_eqI (pe_fld (pv 5) rfl) (pe_gint rfl T.g_NO_PLANE) (nomark _)) (pe_one (pe_not (pe_methO0 o_m_is_away T.cl_Plane T.me_is_away (hr.mono (by decide)) pass0 (pe_ix ix_list (pe_fld (pv 0) rfl) (pe_fld (pv 5) rfl) (fun _ _ => rfl)))))) (pa_cons (pe_gint rfl T.g_AWAY) pa_nil))))
    (pss_cons (ps_expr (pe_callO o_f_do_task (hr.mono (by decide)) pass0 rfl (pa_cons (pv 5) (pa_cons (pv 3) (pa_cons (pv 6) pa_nil)))))
    (pss_cons (ps_fld (pv 0) (pv 6) rfl)
    (pss_one (ps_ret (pe_lst (pa_cons pe_int pa_nil)))))))))))), ?_⟩
  obtain ⟨L, m, c, nl, ns, r, rfl, b, g, hc, hn, hf, kE, kS⟩ := h
  obtain ⟨i, t, d, rfl, hr⟩ := f3_some hf
  unfold doDid at hr
  refine q_unl3 (ev_var rfl) (sq_of hn) fun H1 e1 => ?_
  have b1 := b.mono e1
  refine q_ask (b := decide (t < 4)) (ev_bl (ev_lt (ev_var rfl) ev_c) (dec_lt _ 4)) ev_c (fun h0 H2 e2 => ?_) (fun h0 => ?_)
  rotate_left
  · rw [if_pos (of_decide_eq_false h0)] at hr
    exact (kE _ hr).mono e1
  have ht := of_decide_eq_true h0
  rw [if_neg (nn ht)] at hr
  have b2 := b1.mono e2
  have e12 := e1.trans e2
  by_cases hi : i < m.parts.length
  rotate_left
  · rw [if_pos hi] at hr
    exact q_callErr (ea_cons (ev_var rfl) (ea_cons (ev_var rfl) ea_nil)) (spX_ev fun _ e => ⟨L, m, i, rfl, b2.mono e, (if_neg hi).symm⟩) ((kE _ hr).mono e12)
  rw [if_neg (nn hi)] at hr
  have gp := g.parts _ (part_mem hi)
  refine q_callOk (ea_cons (ev_var rfl) (ea_cons (ev_var rfl) ea_nil)) (spX_ev fun _ e => ⟨L, m, i, rfl, b2.mono e, (if_pos hi).symm⟩) fun H3 e3 => ?_
  have b3 := b2.mono e3
  have e13 := e12.trans e3
  refine q_ask (b := isDate d) (ev_call (ea_cons (ev_var rfl) ea_nil) (spV_ev fun _ _ => ⟨d, rfl, rfl⟩)) ev_c (fun hd H4 e4 => ?_) (fun h1 => ?_)
  rotate_left
  · rw [if_pos h1] at hr
    exact (kE _ hr).mono e13
  rw [if_neg (by rw [hd]; decide)] at hr
  have b4 := b3.mono e4
  have e14 := e13.trans e4
  by_cases hb : numberOf d < m.last
  · rw [if_pos hb] at hr
    exact q_callErr (ea_cons (ev_var rfl) (ea_cons (ev_var rfl) ea_nil)) (spX_ev fun _ e => ⟨L, m, d, rfl, b4.mono e, hd, (if_pos hb).symm⟩) ((kE _ hr).mono e14)
  rw [if_neg hb] at hr
  refine q_callOk (ea_cons (ev_var rfl) (ea_cons (ev_var rfl) ea_nil)) (spX_ev fun _ e => ⟨L, m, d, rfl, b4.mono e, hd, (if_neg hb).symm⟩) fun H5 e5 => ?_
  have b5 := b4.mono e5
  have e15 := e14.trans e5
  refine q_ask (b := decide ((m.part i).plane = 255) || !m.away (m.part i).plane) (ev_orV (ev_bl (ev_eq (evP_plane T b5 hi (ev_var rfl)) ev_c) (dec_eq _ 255)) fun h2 => ev_notV (evA_away T b5 (by rw [g.planes]; exact gp.plane.resolve_left (of_decide_eq_false h2)) (evB_plane T b5 (ev_var rfl) (evP_plane T b5 hi (ev_var rfl)) (by rw [g.planes]; exact gp.plane.resolve_left (of_decide_eq_false h2))))) ev_c (fun h2 H6 e6 => ?_) (fun h2 => ?_)
  rotate_left
  · rw [if_pos h2] at hr
    exact (kE _ hr).mono e15
  rw [if_neg (by rw [h2]; decide)] at hr
  have b6 := b5.mono e6
  have e16 := e15.trans e6
  -- do_task(part, task, day)
  refine q_dropC (ea_cons (ev_var rfl) (ea_cons (ev_var rfl) (ea_cons (ev_var rfl) ea_nil))) fun H7 e7 => ⟨L, m, c, i, t, numberOf d, rfl, b6.mono e7, g, hi, ht, fun H8 p8 t8 => ?_⟩
  have e17 := e16.trans e7
  have p0 : Post A L m H L (m.setPart i ((m.part i).did t (numberOf d))) H8 := by
    refine ⟨p8.at_, fun q o h z => p8.fr q o (e17 q o h) z, fun s h => ?_, rfl⟩
    rcases p8.new s h with h1 | h1
    · exact .inl h1
    · exact .inr (Same.free (fun q o z => e17 q o z) h1)
  have t0 : ∀ q o, H q = some o → ∃ o', H8 q = some o' := fun q o h => t8 q o (e17 q o h)
  have b8 := p0.at_
  refine q_fld (ev_var rfl) (ev_var rfl) b8.book T.cl_Book T.na_Book_last_day (by show 4 < 1000; decide) fun H9 e9 => ?_
  have s9 := put_last b8 e9 (numberOf d)
  rw [← bF_putLast] at s9
  have p9 := p0.trans s9.post t0
  refine s_retL (el_lst (ea_cons ev_c ea_nil) (by show 1 ≤ 100000; decide)) fun p H10 n10 e10 h10 => ?_
  exact kS _ _ hr p L H10 (p9.ex e10) (free_there (there_trans t0 s9.there) n10) (out0 h10)
theorem ok_do_go (T : Txt K mg A) : Ok P w K mg base (L2.CX P w) 6 "do_go" A.f_do_go ["book", "numbers"] (spDeed A (f3 doGo)) := by
  have o_f_ask_flight := ok_ask_flight (P := P) (w := w) (base := base) T
  have o_f_ask := ok_ask (P := P) (w := w) (base := base) T
  have o_m_is_away := ok_m_is_away (P := P) (w := w) (base := base) T
  have o_f_first_bar := ok_first_bar (P := P) (w := w) (base := base) T
  refine T.F_f_do_go.okX T.g_do_go sc_f_do_go (fun vs H Q E h => ?_) (fun _ _ _ _ _ _ us hl => match us, hl with | [_, _], _ => rfl) (fun fd cdv A0 outer s H vs Q E hr h => ?_)
  · obtain ⟨L, m, c, nl, ns, r, rfl, _⟩ := h
    rfl
  -- slots: 0 book, 1 numbers, 2 at, 3 date, 4 minutes, 5 day, 6 plane
  refine ⟨_, (pss_cons (ps_asg (pv 1) (pg_lst rfl (pgs_cons (pg_name (i := 2) sc_f_do_go.nd rfl (Or.inl rfl)) (pgs_cons (pg_name (i := 3) sc_f_do_go.nd rfl (Or.inl rfl)) (pgs_cons (pg_name (i := 4) sc_f_do_go.nd rfl (Or.inl rfl)) pgs_nil)))))
    (pss_cons (ps_set (i := 5) sc_f_do_go.nd rfl (Or.inl rfl) (pe_callO o_f_ask_flight (hr.mono (by decide)) (passes_call (takes_of rfl rfl rfl rfl) (fun _ _ _ _ h => h)) rfl (pa_cons (pv 0) (pa_cons (pv 2) (pa_cons (pv 3) (pa_cons (pv 4) pa_nil))))))
    (pss_cons (ps_set (i := 6) sc_f_do_go.nd rfl (Or.inl rfl) (pe_ix ix_list (pe_fld (pv 0) rfl) (pv 2) (fun _ _ => rfl)))
    (pss_cons (ps_expr (pe_callO o_f_ask (hr.mono (by decide)) (passes_call (takes_of rfl rfl rfl rfl) (fun _ _ _ _ h => h)) rfl (pa_cons (pe_not (pe_methO0 o_m_is_away T.cl_Plane T.me_is_away (hr.mono (by decide)) pass0 (pv 6))) (pa_cons (pe_gint rfl T.g_AWAY) pa_nil))))
    (pss_cons (ps_expr (pe_callO o_f_ask (hr.mono (by decide)) (passes_call (takes_of rfl rfl rfl rfl) (fun _ _ _ _ h => h)) rfl (pa_cons (pe_cmpR op_isN (pe_callO o_f_first_bar (hr.mono (by decide)) pass0 rfl (pa_cons (pv 0) (pa_cons (pv 2) (pa_cons (pv 3) (pa_cons (pv 4) pa_nil))))) pe_non (nomark _)) (pa_cons (pe_gint rfl T.g_BARRED) pa_nil))))
    (pss_cons (ps_fld (pv 6) (pv 4) rfl)
    (pss_cons (ps_fld (pv 0) (pv 5) rfl)
    (pss_one (ps_ret (pe_lst (pa_cons (pe_op op_mod (pe_callB call_len_seq (by rfl) T.n_len PySem.boot_len (pa_cons (pe_fld (pv 6) rfl) pa_nil)) (pe_gint rfl T.g_FLIGHT_BOUND)) pa_nil))))))))))), ?_⟩
  obtain ⟨L, m, c, nl, ns, r, rfl, b, g, hc, hn, hf, kE, kS⟩ := h
  obtain ⟨a, d, n, rfl, hr⟩ := f3_some hf
  unfold doGo at hr
  refine q_unl3 (ev_var rfl) (sq_of hn) fun H1 e1 => ?_
  have b1 := b.mono e1
  by_cases h0 : okFlight a d n = false
  · rw [if_pos h0] at hr
    exact q_callErr (ea_cons (ev_var rfl) (ea_cons (ev_var rfl) (ea_cons (ev_var rfl) (ea_cons (ev_var rfl) ea_nil)))) (spX_ev fun _ e => ⟨L, m, a, d, n, rfl, b1.mono e, (if_pos h0).symm⟩) ((kE _ hr).mono e1)
  rw [if_neg h0] at hr
  by_cases hb : numberOf d < m.last
  · rw [if_pos hb] at hr
    exact q_callErr (ea_cons (ev_var rfl) (ea_cons (ev_var rfl) (ea_cons (ev_var rfl) (ea_cons (ev_var rfl) ea_nil)))) (spX_ev fun _ e => ⟨L, m, a, d, n, rfl, b1.mono e, ((if_neg h0).trans (if_pos hb)).symm⟩) ((kE _ hr).mono e1)
  rw [if_neg hb] at hr
  have h0' : okFlight a d n = true := by simpa using h0
  have ha := (okFlight_iff.mp h0').1
  have hd := (okFlight_iff.mp h0').2.2
  have hp : a < m.planes.length := by rw [g.planes]; exact ha
  refine q_callOk (ea_cons (ev_var rfl) (ea_cons (ev_var rfl) (ea_cons (ev_var rfl) (ea_cons (ev_var rfl) ea_nil)))) (spX_ev fun _ e => ⟨L, m, a, d, n, rfl, b1.mono e, ((if_neg h0).trans (if_neg hb)).symm⟩) fun H2 e2 => ?_
  have b2 := b1.mono e2
  have e12 := e1.trans e2
  refine q_asg (evB_plane T b2 (ev_var rfl) (ev_var rfl) hp) fun H3 e3 => ?_
  have b3 := b2.mono e3
  have e13 := e12.trans e3
  refine q_ask (b := !m.away a) (ev_notV (evA_away T b3 hp (ev_var rfl))) ev_c (fun h1 H4 e4 => ?_) (fun h1 => ?_)
  rotate_left
  · rw [if_pos (by simpa using h1)] at hr
    exact (kE _ hr).mono e13
  rw [if_neg (by simpa using h1)] at hr
  have b4 := b3.mono e4
  have e14 := e13.trans e4
  refine q_ask (b := (firstBar m a d n).isNone) (ev_barN b4 g hd (ea_cons (ev_var rfl) (ea_cons (ev_var rfl) (ea_cons (ev_var rfl) (ea_cons (ev_var rfl) ea_nil))))) ev_c (fun h2 H5 e5 => ?_) (fun h2 => ?_)
  rotate_left
  · rw [if_pos (by revert h2; cases firstBar m a d n <;> simp)] at hr
    exact (kE _ hr).mono e14
  rw [if_neg (by revert h2; cases firstBar m a d n <;> simp)] at hr
  have b5 := b4.mono e5
  have e15 := e14.trans e5
  refine q_fld (ev_var rfl) (ev_var rfl) (b5.an hp) T.cl_Plane T.na_Plane_let_go (by show 2 < 1000; decide) fun H6 e6 => ?_
  have s6 := put_an b (e15.trans e6) hp n
  rw [← aF_putGo] at s6
  have b6 := s6.bk
  refine q_fld (ev_var rfl) (ev_var rfl) b6.book T.cl_Book T.na_Book_last_day (by show 4 < 1000; decide) fun H7 e7 => ?_
  have s7 := put_last b6 e7 (numberOf d)
  rw [← bF_putLast] at s7
  have s8 := s6.trans s7
  have b7 := s8.bk
  have hp7 : a < (m.setPlane a { m.plane a with go := n }).planes.length := by rw [setPlane_len]; exact hp
  have q7 := evA_lenFlown (K := K) (σ := [some (.ref (L.ad .book)), some (.ref nl), some (.int (a : Int)), some (.int (d : Int)), some (.int (n : Int)), some (.int (numberOf d : Nat)), some (.ref (L.ad (.an a)))]) (te := tVar 6) T b7 hp7 (ev_var rfl)
  refine s_retL (el_lst (ea_cons (ev_in (j := (((m.plane a).flown.length % 2147483648 : Nat) : Int)) (ev_mod q7 ev_c (by decide)) ?_) ea_nil) (by show 1 ≤ 100000; decide)) fun p H9 n9 e9 h9 => ?_
  · show ((((m.setPlane a { m.plane a with go := n }).plane a).flown.length : Nat) : Int) % 2147483648 = _
    rw [plane_same _ hp]
    show (((m.plane a).flown.length : Nat) : Int) % 2147483648 = _
    omega
  · exact kS _ _ hr p L H9 (s8.post.ex e9) (free_there s8.there n9) h9
theorem ok_do_bars (T : Txt K mg A) : Ok P w K mg base (L2.CX P w) 6 "do_bars" A.f_do_bars ["book", "numbers"] (spDeed A (f3 doBars)) := by
  have o_f_ask_flight := ok_ask_flight (P := P) (w := w) (base := base) T
  have o_f_first_bar := ok_first_bar (P := P) (w := w) (base := base) T
  have o_f_ask := ok_ask (P := P) (w := w) (base := base) T
  refine T.F_f_do_bars.okX T.g_do_bars sc_f_do_bars (fun vs H Q E h => ?_) (fun _ _ _ _ _ _ us hl => match us, hl with | [_, _], _ => rfl) (fun fd cdv A0 outer s H vs Q E hr h => ?_)
  · obtain ⟨L, m, c, nl, ns, r, rfl, _⟩ := h
    rfl
  -- slots: 0 book, 1 numbers, 2 at, 3 date, 4 minutes, 5 found
  refine ⟨_, (pss_cons (ps_asg (pv 1) (pg_lst rfl (pgs_cons (pg_name (i := 2) sc_f_do_bars.nd rfl (Or.inl rfl)) (pgs_cons (pg_name (i := 3) sc_f_do_bars.nd rfl (Or.inl rfl)) (pgs_cons (pg_name (i := 4) sc_f_do_bars.nd rfl (Or.inl rfl)) pgs_nil)))))
    (pss_cons (ps_expr (pe_callO o_f_ask_flight (hr.mono (by decide)) (passes_call (takes_of rfl rfl rfl rfl) (fun _ _ _ _ h => h)) rfl (pa_cons (pv 0) (pa_cons (pv 2) (pa_cons (pv 3) (pa_cons (pv 4) pa_nil))))))
    (pss_cons (ps_set (i := 5) sc_f_do_bars.nd rfl (Or.inl rfl) (pe_callO o_f_first_bar (hr.mono (by decide)) pass0 rfl (pa_cons (pv 0) (pa_cons (pv 2) (pa_cons (pv 3) (pa_cons (pv 4) pa_nil))))))
    (pss_cons (ps_expr (pe_callO o_f_ask (hr.mono (by decide)) (passes_call (takes_of rfl rfl rfl rfl) (fun _ _ _ _ h => h)) rfl (pa_cons (pe_cmpR op_notN (pv 5) pe_non (nomark _)) (pa_cons (pe_gint rfl T.g_NO_SUCH) pa_nil))))
    (pss_one (ps_ret (pe_op op_cat (pe_lst (pa_cons pe_int pa_nil)) (pv 5)))))))), ?_⟩
  obtain ⟨L, m, c, nl, ns, r, rfl, b, g, hc, hn, hf, kE, kS⟩ := h
  obtain ⟨a, d, n, rfl, hr⟩ := f3_some hf
  unfold doBars at hr
  refine q_unl3 (ev_var rfl) (sq_of hn) fun H1 e1 => ?_
  have b1 := b.mono e1
  by_cases h0 : okFlight a d n = false
  · rw [if_pos h0] at hr
    exact q_dropErr (ea_cons (ev_var rfl) (ea_cons (ev_var rfl) (ea_cons (ev_var rfl) (ea_cons (ev_var rfl) ea_nil)))) (spX_ev fun _ e => ⟨L, m, a, d, n, rfl, b1.mono e, (if_pos h0).symm⟩) ((kE _ hr).mono e1)
  rw [if_neg h0] at hr
  by_cases hb : numberOf d < m.last
  · rw [if_pos hb] at hr
    exact q_dropErr (ea_cons (ev_var rfl) (ea_cons (ev_var rfl) (ea_cons (ev_var rfl) (ea_cons (ev_var rfl) ea_nil)))) (spX_ev fun _ e => ⟨L, m, a, d, n, rfl, b1.mono e, ((if_neg h0).trans (if_pos hb)).symm⟩) ((kE _ hr).mono e1)
  rw [if_neg hb] at hr
  have h0' : okFlight a d n = true := by simpa using h0
  have hd := (okFlight_iff.mp h0').2.2
  refine q_dropOk (ea_cons (ev_var rfl) (ea_cons (ev_var rfl) (ea_cons (ev_var rfl) (ea_cons (ev_var rfl) ea_nil)))) (spX_ev fun _ e => ⟨L, m, a, d, n, rfl, b1.mono e, ((if_neg h0).trans (if_neg hb)).symm⟩) fun H2 e2 => ?_
  have b2 := b1.mono e2
  have e12 := e1.trans e2
  refine q_bar b2 g hd (ea_cons (ev_var rfl) (ea_cons (ev_var rfl) (ea_cons (ev_var rfl) (ea_cons (ev_var rfl) ea_nil)))) (fun hN H3 e3 => ?_) (fun l hS q H3 hq e3 h3 => ?_)
  · rw [hN] at hr
    exact q_ask (b := false) (ev_op (ev_var rfl) ev_c rv_notN) ev_c (fun z => nomatch z) fun _ => (kE _ hr).mono (e12.trans e3)
  · rw [hS] at hr
    refine q_ask (b := true) (ev_op (ev_var rfl) ev_c rv_notN) ev_c (fun _ H4 e4 => ?_) fun z => nomatch z
    refine s_retL (el_cat (xs := [.int 0]) (el_lst (ea_cons ev_c ea_nil) (by show 1 ≤ 100000; decide)) (ev_var rfl) (e4 _ _ h3) ?_) fun p H9 n9 e9 h9 => ?_
    · have hl : l.length = 3 := by
        unfold firstBar at hS
        obtain ⟨i, _, hi⟩ := List.exists_of_findSome?_eq_some hS
        unfold barOf at hi
        obtain ⟨t, _, ht⟩ := List.exists_of_findSome?_eq_some hi
        cases hw : whatBars (m.kind (m.part i).kind) (m.part i) t (numberOf d) n with
        | none => rw [hw] at ht; cases ht
        | some z => rw [hw] at ht; rw [← Option.some.inj ht]; rfl
      rw [nats_len, hl]
      decide
    · refine kS _ _ hr p L H9 (Post.refl b ((e12.trans e3).trans (e4.trans e9))) (fresh_back ((e12.trans e3).trans e4) n9) ?_
      rw [h9, nats_map_int]
      rfl
theorem ok_do_left (T : Txt K mg A) : Ok P w K mg base (L2.CX P w) 6 "do_left" A.f_do_left ["book", "numbers"] (spDeed A (f2 doLeft)) := by
  have o_f_ask := ok_ask (P := P) (w := w) (base := base) T
  have o_f_is_date := ok_is_date (P := P) (w := w) (base := base) T
  have o_f_ask_order := ok_ask_order (P := P) (w := w) (base := base) T
  have o_f_parts_in := ok_parts_in (P := P) (w := w) (base := base) T
  have o_f_left_in := ok_left_in (P := P) (w := w) (base := base) T
  refine T.F_f_do_left.okX T.g_do_left sc_f_do_left (fun vs H Q E h => ?_) (fun _ _ _ _ _ _ us hl => match us, hl with | [_, _], _ => rfl) (fun fd cdv A0 outer s H vs Q E hr h => ?_)
  · obtain ⟨L, m, c, nl, ns, r, rfl, _⟩ := h
    rfl
  -- slots: 0 book, 1 numbers, 2 at, 3 date
  refine ⟨_, (pss_cons (ps_asg (pv 1) (pg_lst rfl (pgs_cons (pg_name (i := 2) sc_f_do_left.nd rfl (Or.inl rfl)) (pgs_cons (pg_name (i := 3) sc_f_do_left.nd rfl (Or.inl rfl)) pgs_nil))))
    (pss_cons (ps_expr (pe_callO o_f_ask (hr.mono (by decide)) (passes_call (takes_of rfl rfl rfl rfl) (fun _ _ _ _ h => h)) rfl (pa_cons (pe_and (pe_cmpR op_lt (pv 2) (pe_gint rfl T.g_PLANES) (nomark _)) (pe_one (pe_callO o_f_is_date (hr.mono (by decide)) pass0 rfl (pa_cons (pv 3) pa_nil)))) (pa_cons (pe_gint rfl T.g_WRONG) pa_nil))))
    (pss_cons (ps_expr (pe_callO o_f_ask_order (hr.mono (by decide)) (passes_call (takes_of rfl rfl rfl rfl) (fun _ _ _ _ h => h)) rfl (pa_cons (pv 0) (pa_cons (pv 3) pa_nil))))
    (pss_one (ps_ret (pe_op op_cat (pe_lst (pa_cons (pe_callB call_len_seq (by rfl) T.n_len PySem.boot_len (pa_cons (pe_callO o_f_parts_in (hr.mono (by decide)) pass0 rfl (pa_cons (pv 0) (pa_cons (pv 2) pa_nil))) pa_nil)) pa_nil)) (pe_callO o_f_left_in (hr.mono (by decide)) pass0 rfl (pa_cons (pv 0) (pa_cons (pv 2) (pa_cons (pv 3) pa_nil)))))))))), ?_⟩
  obtain ⟨L, m, c, nl, ns, r, rfl, b, g, hc, hn, hf, kE, kS⟩ := h
  obtain ⟨a, d, rfl, hr⟩ := f2_some hf
  unfold doLeft at hr
  refine q_unl2 (ev_var rfl) (sq_of hn) fun H1 e1 => ?_
  have b1 := b.mono e1
  refine q_ask (b := decide (a < 16) && isDate d) (ev_andV (ev_bl (ev_lt (ev_var rfl) ev_c) (dec_lt _ 16)) fun _ => ev_call (ea_cons (ev_var rfl) ea_nil) (spV_ev fun _ _ => ⟨d, rfl, rfl⟩)) ev_c (fun h0 H2 e2 => ?_) (fun h0 => ?_)
  rotate_left
  · rw [if_pos h0] at hr
    exact (kE _ hr).mono e1
  rw [if_neg (by rw [h0]; decide)] at hr
  have hd : isDate d = true := (Bool.and_eq_true_iff.mp h0).2
  have b2 := b1.mono e2
  have e12 := e1.trans e2
  by_cases hb : numberOf d < m.last
  · rw [if_pos hb] at hr
    exact q_dropErr (ea_cons (ev_var rfl) (ea_cons (ev_var rfl) ea_nil)) (spX_ev fun _ e => ⟨L, m, d, rfl, b2.mono e, hd, (if_pos hb).symm⟩) ((kE _ hr).mono e12)
  rw [if_neg hb] at hr
  refine q_dropOk (ea_cons (ev_var rfl) (ea_cons (ev_var rfl) ea_nil)) (spX_ev fun _ e => ⟨L, m, d, rfl, b2.mono e, hd, (if_neg hb).symm⟩) fun H3 e3 => ?_
  have b3 := b2.mono e3
  have e13 := e12.trans e3
  refine s_retL (el_catN (xs := [.int ((m.partsIn a).length : Int)]) (ys := [.int (leftIn m a d).1, .int (leftIn m a d).2.1, .int (leftIn m a d).2.2]) (el_lst (ea_cons (ev_in (ev_lenN (el_call (ea_cons (ev_var rfl) (ea_cons (ev_var rfl) ea_nil)) (spL_ev fun _ e => ⟨L, m, a, rfl, b3.mono e, g.pn, rfl⟩))) (by rw [nats_len])) ea_nil) (by show 1 ≤ 100000; decide))
    (el_call (ea_cons (ev_var rfl) (ea_cons (ev_var rfl) (ea_cons (ev_var rfl) ea_nil))) (spL_ev fun _ e => ⟨L, m, c, a, d, rfl, b3.mono e, g, hd, rfl⟩)) (by show 1 + 3 ≤ 100000; decide)) fun p H9 n9 e9 h9 => ?_
  exact kS _ _ hr p L H9 (Post.refl b (e13.trans e9)) (fresh_back e13 n9) h9
end
end FBW
namespace FBW
open PySem PySem.Spec PyProof.Rows L2 Evl FB
theorem s_dropC {σ : L2.St} {H : Hp} {ta : TA} {D : Ends} {E : XK} {sp : Sp} {vs : List V} (ha : EvA ta σ H vs) (k : ∀ H1, Ex H H1 → sp (vs ++ []) H1 (fun _ H2 => D.nx σ H2) E) : tDrop (tCall sp [] E ta) D σ H :=
  show ta σ H fun vs H1 => sp (vs ++ []) H1 (fun _ H2 => D.nx σ H2) E from ha H (Ex.refl H) _ k
theorem fliesAll_good {c n : Nat} : ∀ (l : List Nat) (m : M), FB.Good c m → (∀ i ∈ l, i < m.parts.length) → FB.Good c (m.fliesAll n l)
  | [], m, g, _ => g
  | i :: l, m, g, h => by
    have hi := h i List.mem_cons_self
    show FB.Good c ((m.setPart i ((m.part i).flies n)).fliesAll n l)
    exact fliesAll_good l _ (setPart_good g (flies_good (g.parts _ (part_mem hi)) n)) fun k hk => by rw [setPart_len]; exact h k (List.mem_cons_of_mem _ hk)
theorem fliesAll_more {m : M} {n i z : Nat} {l : List Nat} (h : l[i]? = some z) : m.fliesAll n (l.take (i + 1)) = (m.fliesAll n (l.take i)).setPart z (((m.fliesAll n (l.take i)).part z).flies n) := fold_more h
theorem setPlane_twice {m : M} {a : Nat} (p q : MPlane) : (m.setPlane a p).setPlane a q = m.setPlane a q := by
  unfold M.setPlane
  simp only [List.set_set]
theorem nats_app (l : List Nat) (n : Nat) : nats l ++ [.int (n : Int)] = nats (l ++ [n]) := by
  unfold nats
  rw [List.map_append]
  rfl
theorem plane_of {m m' : M} (h : m'.planes = m.planes) (a : Nat) : m'.plane a = m.plane a := by
  unfold M.plane
  rw [h]
section
variable {P : Program} {w : World} {K : PySem.W.Frag} {mg : Str → Option Value} {base : Heap} {A : Ads}
theorem Post.pre {A : Ads} {L L' : Lay} {m m' : M} {H H1 H' : Hp} (e : Ex H H1) (p : Post A L m H1 L' m' H') : Post A L m H L' m' H' := by
  refine ⟨p.at_, fun q o h z => p.fr q o (e q o h) z, fun s h => ?_, p.bk⟩
  rcases p.new s h with h1 | h1
  · exact .inl h1
  · exact .inr (Same.free (fun q o z => e q o z) h1)
theorem ok_do_flew (T : Txt K mg A) : Ok P w K mg base (L2.CX P w) 6 "do_flew" A.f_do_flew ["book", "numbers"] (spDeed A (f3 doFlew)) := by
  have o_f_ask := ok_ask (P := P) (w := w) (base := base) T
  have o_f_told_again := ok_told_again (P := P) (w := w) (base := base) T
  have o_m_is_away := ok_m_is_away (P := P) (w := w) (base := base) T
  have o_f_parts_in := ok_parts_in (P := P) (w := w) (base := base) T
  have o_f_count_flight := ok_count_flight (P := P) (w := w) (base := base) T
  refine T.F_f_do_flew.okX T.g_do_flew sc_f_do_flew (fun vs H Q E h => ?_) (fun _ _ _ _ _ _ us hl => match us, hl with | [_, _], _ => rfl) (fun fd cdv A0 outer s H vs Q E hr h => ?_)
  · obtain ⟨L, m, c, nl, ns, r, rfl, _⟩ := h
    rfl
  -- slots: 0 book, 1 numbers, 2 at, 3 number, 4 minutes, 5 plane, 6 own, 7 is_longer
  refine ⟨_, (pss_cons (ps_asg (pv 1) (pg_lst rfl (pgs_cons (pg_name (i := 2) sc_f_do_flew.nd rfl (Or.inl rfl)) (pgs_cons (pg_name (i := 3) sc_f_do_flew.nd rfl (Or.inl rfl)) (pgs_cons (pg_name (i := 4) sc_f_do_flew.nd rfl (Or.inl rfl)) pgs_nil)))))
    (pss_cons (ps_expr (pe_callO o_f_ask (hr.mono (by decide)) (passes_call (takes_of rfl rfl rfl rfl) (fun _ _ _ _ h => h)) rfl (pa_cons (pe_and (pe_cmpR op_lt (pv 2) (pe_gint rfl T.g_PLANES) (nomark _)) (pe_one (pe_chain op_le op_le pe_int (pv 4) (pe_gint rfl T.g_MOST_MINUTES)))) (pa_cons (pe_gint rfl T.g_WRONG) pa_nil))))
    (pss_cons (ps_set (i := 5) sc_f_do_flew.nd rfl (Or.inl rfl) (pe_ix ix_list (pe_fld (pv 0) rfl) (pv 2) (fun _ _ => rfl)))
    (pss_cons (ps_if (pt_cmpR op_lt (pv 3) (pe_callB call_len_seq (by rfl) T.n_len PySem.boot_len (pa_cons (pe_fld (pv 5) rfl) pa_nil)) (nomark _)) (pss_one (ps_ret (pe_callO o_f_told_again (hr.mono (by decide)) pass0 rfl (pa_cons (pv 5) (pa_cons (pv 3) (pa_cons (pv 4) pa_nil)))))) pss_nil)
    (pss_cons (ps_expr (pe_callO o_f_ask (hr.mono (by decide)) (passes_call (takes_of rfl rfl rfl rfl) (fun _ _ _ _ h => h)) rfl (pa_cons (pe_and (pe_methO0 o_m_is_away T.cl_Plane T.me_is_away (hr.mono (by decide)) pass0 (pv 5)) (pe_one (pe_cmpR op_eqI (pv 3) (pe_callB call_len_seq (by rfl) T.n_len PySem.boot_len (pa_cons (pe_fld (pv 5) rfl) pa_nil)) (nomark _)))) (pa_cons (pe_gint rfl T.g_NO_SUCH) pa_nil))))
    (pss_cons (ps_for (passes_of rfl) rfl (pi_list (pe_callO o_f_parts_in (hr.mono (by decide)) pass0 rfl (pa_cons (pv 0) (pa_cons (pv 2) pa_nil)))) (pg_name (i := 6) sc_f_do_flew.nd rfl (Or.inl rfl)) (pss_one (ps_expr (pe_callO o_f_count_flight (hr.mono (by decide)) pass0 rfl (pa_cons (pe_ix ix_list (pe_fld (pv 0) rfl) (pv 6) (fun _ _ => rfl)) (pa_cons (pv 4) pa_nil))))))
    (pss_cons (ps_set (i := 7) sc_f_do_flew.nd rfl (Or.inl rfl) (pe_cmpR op_gt (pv 4) (pe_fld (pv 5) rfl) (nomark _)))
    (pss_cons (ps_expr (pe_bm PySem.F.plainAttrs_list PySem.F.slot_list_append PySem.F.type_list_append mt_append (pe_fld (pv 5) rfl) (pa_cons (pv 4) pa_nil)))
    (pss_cons (ps_fld (pv 5) pe_int rfl)
    (pss_one (ps_ret (pe_lst (pa_cons (pe_op op_add pe_int (pe_callTy call_int1 (by rfl) T.n_int (by decide +kernel) (pa_cons (pv 7) pa_nil))) pa_nil))))))))))))), ?_⟩
  obtain ⟨L, m, c, nl, ns, r, rfl, b, g, hc, hn, hf, kE, kS⟩ := h
  obtain ⟨a, k, n, rfl, hr⟩ := f3_some hf
  unfold doFlew at hr
  refine q_unl3 (ev_var rfl) (sq_of hn) fun H1 e1 => ?_
  have b1 := b.mono e1
  refine q_ask (b := decide (a < 16) && (decide (1 ≤ n) && decide (n ≤ 65535))) (ev_bl (ev_andV (ev_bl (ev_lt (ev_var rfl) ev_c) (dec_lt _ 16)) fun _ => ev_chain ev_c (ev_var rfl) ev_c rv_I0 rv_I0) (by rw [show decide ((1 : Int) ≤ (n : Int)) = decide (1 ≤ n) from dec_le 1 n, show decide ((n : Int) ≤ 65535) = decide (n ≤ 65535) from dec_le n 65535])) ev_c (fun h0 H2 e2 => ?_) (fun h0 => ?_)
  rotate_left
  · rw [if_pos h0] at hr
    exact (kE _ hr).mono e1
  rw [if_neg (by rw [h0]; decide)] at hr
  have ha : a < 16 := of_decide_eq_true (Bool.and_eq_true_iff.mp h0).1
  have hp : a < m.planes.length := by rw [g.planes]; exact ha
  have b2 := b1.mono e2
  have e12 := e1.trans e2
  refine q_asg (evB_plane T b2 (ev_var rfl) (ev_var rfl) hp) fun H3 e3 => ?_
  have b3 := b2.mono e3
  have e13 := e12.trans e3
  refine q_when (b := decide (k < (m.plane a).flown.length)) (et_is (et_test (ev_lt (ev_var rfl) (evA_lenFlown T b3 hp (ev_var rfl)))) (dec_lt _ _)) (fun h1 H4 e4 => ?_) (fun h1 H4 e4 => ?_)
  · have hk := of_decide_eq_true h1
    rw [if_pos hk] at hr
    have b4 := b3.mono e4
    refine s_retL (el_call (ea_cons (ev_var rfl) (ea_cons (ev_var rfl) (ea_cons (ev_var rfl) ea_nil))) (spL_ev fun _ e => ⟨L, m, a, k, n, rfl, b4.mono e, hp, hk, rfl⟩)) fun p H5 n5 e5 h5 => ?_
    exact kS _ _ hr p L H5 (Post.refl b ((e13.trans e4).trans e5)) (fresh_back (e13.trans e4) n5) h5
  rw [if_neg (of_decide_eq_false h1)] at hr
  have b4 := b3.mono e4
  have e14 := e13.trans e4
  refine q_ask (b := m.away a && decide (k = (m.plane a).flown.length)) (ev_andV (evA_away T b4 hp (ev_var rfl)) fun _ => ev_bl (ev_eq (ev_var rfl) (evA_lenFlown T b4 hp (ev_var rfl))) (dec_eq _ _)) ev_c (fun h2 H5 e5 => ?_) (fun h2 => ?_)
  rotate_left
  · rw [if_pos h2] at hr
    exact (kE _ hr).mono e14
  rw [if_neg (by rw [h2]; decide)] at hr
  have b5 := b4.mono e5
  have e15 := e14.trans e5
  refine q_forNLn (xs := nats (m.partsIn a)) (el_call (ea_cons (ev_var rfl) (ea_cons (ev_var rfl) ea_nil)) (spL_ev fun _ e => ⟨L, m, a, rfl, b5.mono e, g.pn, rfl⟩))
    (fun p i σ H' => (∃ v6, σ = [some (.ref (L.ad .book)), some (.ref nl), some (.int (a : Int)), some (.int (k : Int)), some (.int (n : Int)), some (.ref (L.ad (.an a))), v6, none]) ∧ H' p = some (.lst (nats (m.partsIn a))) ∧ (∀ r, okR m r → L.ad r ≠ p) ∧
      Post A L m H5 L (m.fliesAll n ((m.partsIn a).take i)) H' ∧ ∀ b o, H5 b = some o → ∃ o', H' b = some o')
    (fun p H6 hp6 e6 h6 => ⟨⟨none, rfl⟩, h6, fun r hr => ne_of_none (b5.ob r hr) hp6, Post.refl b5 e6, fun q o h => ⟨o, e6 q o h⟩⟩) (fun p i σ' H' _ q => sq_of q.2.1) ?_ ?_
  · rintro p i x σ' H' hx ⟨⟨v6, rfl⟩, h6, hnp, p6, t6⟩
    obtain ⟨z, hz, rfl⟩ := nats_some hx
    obtain ⟨hzl, hza⟩ := partsIn_lt (List.mem_of_getElem? hz)
    have b6 := p6.at_
    have hzl6 : z < (m.fliesAll n ((m.partsIn a).take i)).parts.length := by rw [fliesAll_len]; exact hzl
    have g6 : FB.Good c (m.fliesAll n ((m.partsIn a).take i)) := fliesAll_good _ _ g fun j hj => (partsIn_lt (List.mem_of_mem_take hj)).1
    refine s_dropC (ea_cons (evB_part T b6 (ev_var rfl) (ev_var rfl) hzl6) (ea_cons (ev_var rfl) ea_nil)) fun H7 e7 => ⟨L, _, c, z, n, rfl, b6.mono e7, g6, hzl6, fun H8 p8 t8 => ?_⟩
    have np6 : ∀ r, okR (m.fliesAll n ((m.partsIn a).take i)) r → L.ad r ≠ p := fun r hr => by
      rcases p6.new r hr with ⟨q1, _⟩ | q1
      · exact hnp r q1
      · intro q2
        have e := b6.ob r hr
        rw [q2, h6] at e
        have ob5 : ∀ s, okR m s → L.ad s = L.ad r → False := fun s hs q3 => by rw [← q3, b5.ob s hs] at q1; cases q1
        cases r with
        | pt j => exact ob5 (.pt j) (show j < m.parts.length by have h' : j < (m.fliesAll n ((m.partsIn a).take i)).parts.length := hr; rw [fliesAll_len] at h'; exact h') rfl
        | pm j => exact ob5 (.pm j) (show j < m.parts.length by have h' : j < (m.fliesAll n ((m.partsIn a).take i)).parts.length := hr; rw [fliesAll_len] at h'; exact h') rfl
        | pn j => exact ob5 (.pn j) (show j < m.parts.length by have h' : j < (m.fliesAll n ((m.partsIn a).take i)).parts.length := hr; rw [fliesAll_len] at h'; exact h') rfl
        | py j => exact ob5 (.py j) (show j < m.parts.length by have h' : j < (m.fliesAll n ((m.partsIn a).take i)).parts.length := hr; rw [fliesAll_len] at h'; exact h') rfl
        | book => exact ob5 .book trivial rfl
        | kl => exact ob5 .kl trivial rfl
        | pl => exact ob5 .pl trivial rfl
        | al => exact ob5 .al trivial rfl
        | kd j => exact ob5 (.kd j) (show j < m.kinds.length by have h' : j < (m.fliesAll n ((m.partsIn a).take i)).kinds.length := hr; rw [fliesAll_kinds] at h'; exact h') rfl
        | km j => exact ob5 (.km j) (show j < m.kinds.length by have h' : j < (m.fliesAll n ((m.partsIn a).take i)).kinds.length := hr; rw [fliesAll_kinds] at h'; exact h') rfl
        | kn j => exact ob5 (.kn j) (show j < m.kinds.length by have h' : j < (m.fliesAll n ((m.partsIn a).take i)).kinds.length := hr; rw [fliesAll_kinds] at h'; exact h') rfl
        | ky j => exact ob5 (.ky j) (show j < m.kinds.length by have h' : j < (m.fliesAll n ((m.partsIn a).take i)).kinds.length := hr; rw [fliesAll_kinds] at h'; exact h') rfl
        | an j => exact ob5 (.an j) (show j < m.planes.length by have h' : j < (m.fliesAll n ((m.partsIn a).take i)).planes.length := hr; rw [fliesAll_planes] at h'; exact h') rfl
        | af j => exact ob5 (.af j) (show j < m.planes.length by have h' : j < (m.fliesAll n ((m.partsIn a).take i)).planes.length := hr; rw [fliesAll_planes] at h'; exact h') rfl
    refine ⟨⟨_, rfl⟩, p8.fr _ _ (e7 _ _ h6) np6, hnp, ?_, fun q o h => ?_⟩
    · rw [fliesAll_more hz]
      exact p6.trans (Post.pre e7 p8) t6
    · obtain ⟨o', h'⟩ := t6 q o h
      exact t8 q o' (e7 q o' h')
  · rintro p σ' H' ⟨⟨v6, rfl⟩, h6, hnp, p6, t6⟩
    rw [nats_len, List.take_length] at p6
    have b6 := p6.at_
    have epl : (m.fliesAll n (m.partsIn a)).plane a = m.plane a := plane_of (fliesAll_planes n _ m) a
    have hp6 : a < (m.fliesAll n (m.partsIn a)).planes.length := by rw [fliesAll_planes]; exact hp
    refine q_asg (v := .bl (decide ((m.plane a).go < n))) (ev_bl (ev_gt (ev_var rfl) (evA_go T b6 hp6 (ev_var rfl))) (by rw [epl]; exact dec_lt _ _)) fun H7 e7 => ?_
    have b7 := b6.mono e7
    have o7 := b7.af hp6
    rw [epl] at o7
    have fl : (m.plane a).flown.length ≤ c := g.flown _ (plane_mem g ha)
    refine q_app o7 (evA_flown T b7 hp6 (ev_var rfl)) (ev_var rfl) (by rw [nats_len]; omega) fun H8 e8 => ?_
    have s8 := put_af b7 e8 hp6 ((m.plane a).flown ++ [n])
    rw [epl, ← nats_app] at s8
    have b8 := s8.bk
    have hp8 : a < ((m.fliesAll n (m.partsIn a)).setPlane a { m.plane a with flown := (m.plane a).flown ++ [n] }).planes.length := by rw [setPlane_len]; exact hp6
    refine q_fld ev_c (ev_var rfl) (b8.an hp8) T.cl_Plane T.na_Plane_let_go (by show 2 < 1000; decide) fun H9 e9 => ?_
    have s9 := put_an b8 e9 hp8 0
    rw [plane_same _ hp6, setPlane_twice] at s9
    have s10 := s8.trans s9
    have p10 : Post A L m H L _ _ := Post.pre e15 (p6.trans (Post.pre e7 s10.post) t6)
    rw [plane_same _ hp6]
    refine s_retL (el_lst (ea_cons (ev_in (j := if (m.plane a).go < n then 2 else 1) (ev_add ev_c (ev_cb (ea_cons (ev_var rfl) ea_nil) rc_int_bl)) ?_) ea_nil) (by show 1 ≤ 100000; decide)) fun q H11 n11 e11 h11 => ?_
    · by_cases z : (m.plane a).go < n
      · rw [if_pos z, if_pos (decide_eq_true z)]; rfl
      · rw [if_neg z, if_neg (by rw [decide_eq_true_eq]; exact z)]; rfl
    · exact kS _ _ hr q L H11 (p10.ex e11) (fresh_back e15 (free_there t6 (fresh_back e7 (free_there s10.there n11)))) h11
end
end FBW
namespace FBW
open PySem PySem.Spec PyProof.Rows L2 Evl FB
/-! ### comprehensions that change what stands -/
section
variable {σ : L2.St} {H : Hp} {te : TE} {ta : TA} {D : Ends} {Q : VK}
theorem s_retQ (h : te σ H D.rt) : tRet te D σ H := h
theorem lcR1 {j : Nat} {vs : List Nat} {n : Int} (h : EvA ta σ H [.int n]) (hn : 0 ≤ n ∧ n ≤ 40000) (hw : ∀ x, wipe ((wipe σ vs).set j (some x)) vs = wipe σ vs)
    (k : ∀ H1, Ex H H1 → ∀ D, H1 D = none → ∃ Pv : Nat → Hp → Prop, Pv 0 (upd H1 D (.lst [])) ∧ (∀ (i : Nat) H', (i : Int) < n → Pv i H' → te ((wipe σ vs).set j (some (.int (i : Int)))) H' fun y H4 => ∃ acc, H4 D = some (.lst acc) ∧ acc.length < sizeLine ∧ Pv (i + 1) (upd H4 D (.lst (acc ++ [y])))) ∧ (∀ H', Pv n.toNat H' → Q (.ref D) H')) :
    tLc (iRng1 ta) (gName j) tYes te vs σ H Q :=
  h H (Ex.refl H) _ fun H1 e1 => ⟨n, rfl, by omega, by omega, fun Dl hD => by
    obtain ⟨Pv, h0, hs, hd⟩ := k H1 e1 Dl hD
    refine lc_range (lo := 0) (n := n.toNat) Pv h0 (fun i H' hi p => ?_) hd
    have ez : 0 + (i : Int) = (i : Int) := Int.zero_add (i : Int)
    show wipe ((wipe σ vs).set j (some (.int ((0 : Int) + (i : Int))))) vs = wipe σ vs ∧ tYes ((wipe σ vs).set j (some (.int ((0 : Int) + (i : Int))))) H' fun b H3 => if b = true then te ((wipe σ vs).set j (some (.int ((0 : Int) + (i : Int))))) H3 fun y H4 => ∃ acc, H4 Dl = some (.lst acc) ∧ acc.length < sizeLine ∧ Pv (i + 1) (upd H4 Dl (.lst (acc ++ [y]))) else Pv (i + 1) H3
    rw [ez]
    exact ⟨hw _, hs i H' (by omega) p⟩⟩
theorem lc_rangeC {lo c : Int} {n : Nat} {g : TG} {tt : TT} {te : TE} {vs : List Nat} {σ : L2.St} {H1 : Hp} {D : Addr} {Qd : Hp → Prop} (Pv : Nat → Hp → Prop) (h0 : Pv 0 (upd H1 D (.lst [])))
    (hs : ∀ i H, i < n → Pv i H → g (.int (lo + (i : Nat) * c)) (wipe σ vs) H fun σ2 H2 => wipe σ2 vs = wipe σ vs ∧ tt σ2 H2 fun b H3 => if b = true then te σ2 H3 fun y H4 => ∃ got, H4 D = some (.lst got) ∧ got.length < sizeLine ∧ Pv (i + 1) (upd H4 D (.lst (got ++ [y]))) else Pv (i + 1) H3)
    (hd : ∀ H, Pv n H → Qd H) : ∃ W : Nat → Nat → Hp → Prop, (∃ left, W 0 left (upd H1 D (.lst []))) ∧ ∀ i left H, W i left H →
      ((Itc lo c n).stop i H ∧ Qd H) ∨ ((Itc lo c n).go i H ∧ ∃ Nx : Hp → Prop, (∀ H', Nx H' → ∃ less, less < left ∧ W (i + 1) less H') ∧
        ∀ x H', (Itc lo c n).yld i H x H' → g x (wipe σ vs) H' fun σ2 H2 => wipe σ2 vs = wipe σ vs ∧ tt σ2 H2 fun b H3 => if b = true then te σ2 H3 fun y H4 => ∃ got, H4 D = some (.lst got) ∧ got.length < sizeLine ∧ Nx (upd H4 D (.lst (got ++ [y]))) else Nx H3) := by
  refine ⟨fun i left H => i + left = n ∧ Pv i H, ⟨n, Nat.zero_add n, h0⟩, fun i left H hW => ?_⟩
  rcases hW with ⟨sum, here⟩
  cases left with
  | zero =>
    have last : i = n := sum
    subst last
    exact Or.inl ⟨Nat.le_refl i, hd H here⟩
  | succ less =>
    have more : i < n := by omega
    refine Or.inr ⟨more, Pv (i + 1), fun H' p' => ⟨less, Nat.lt_succ_self less, by omega, p'⟩, fun x H' given => ?_⟩
    rcases given with ⟨e1, e2⟩
    subst e1 e2
    exact hs i _ more here
/-- for at in range(0, len, 12) -/
theorem lcR3 {j : Nat} {vs : List Nat} {n c : Nat} (h : EvA ta σ H [.int 0, .int ((n * c : Nat) : Int), .int (c : Int)]) (hc : 0 < c ∧ c ≤ 1000) (hn : n ≤ 1000) (hw : ∀ x, wipe ((wipe σ vs).set j (some x)) vs = wipe σ vs)
    (k : ∀ H1, Ex H H1 → ∀ D, H1 D = none → ∃ Pv : Nat → Hp → Prop, Pv 0 (upd H1 D (.lst [])) ∧ (∀ (i : Nat) H', i < n → Pv i H' → te ((wipe σ vs).set j (some (.int ((i * c : Nat) : Int)))) H' fun y H4 => ∃ acc, H4 D = some (.lst acc) ∧ acc.length < sizeLine ∧ Pv (i + 1) (upd H4 D (.lst (acc ++ [y])))) ∧ (∀ H', Pv n H' → Q (.ref D) H'))
    (hr : RgC 0 ((n * c : Nat) : Int) (c : Int) n) : tLc (iRng3 ta) (gName j) tYes te vs σ H Q :=
  h H (Ex.refl H) _ fun H1 e1 => ⟨0, _, (c : Int), n, rfl, hr, fun Dl hD => by
    obtain ⟨Pv, h0, hs, hd⟩ := k H1 e1 Dl hD
    refine lc_rangeC (lo := 0) (c := (c : Int)) (n := n) Pv h0 (fun i H' hi p => ?_) hd
    have e0 : (0 : Int) + ((i : Nat) : Int) * (c : Int) = ((i * c : Nat) : Int) := by rw [Int.zero_add]; simp
    show wipe ((wipe σ vs).set j (some (.int ((0 : Int) + ((i : Nat) : Int) * (c : Int))))) vs = wipe σ vs ∧ tYes ((wipe σ vs).set j (some (.int ((0 : Int) + ((i : Nat) : Int) * (c : Int))))) H' fun b H3 => if b = true then te ((wipe σ vs).set j (some (.int ((0 : Int) + ((i : Nat) : Int) * (c : Int))))) H3 fun y H4 => ∃ acc, H4 Dl = some (.lst acc) ∧ acc.length < sizeLine ∧ Pv (i + 1) (upd H4 Dl (.lst (acc ++ [y]))) else Pv (i + 1) H3
    rw [e0]
    exact ⟨hw _, hs i H' hi p⟩⟩
end
/-! ### the tape, the hangar -/
def zs (l : List Int) : List V := l.map V.int
def tapeF (tn : Addr) (i : Nat) : List (Str × V) := [("numbers", .ref tn), ("at", .int (i : Int))]
theorem tF_numbers {tn : Addr} {i : Nat} : (tapeF tn i).lookup ("numbers" : Str) = some (.ref tn) := lk_here
theorem tF_at {tn : Addr} {i : Nat} : (tapeF tn i).lookup ("at" : Str) = some (.int (i : Int)) := (lk_past (by decide +kernel)).trans lk_here
theorem tF_done {tn : Addr} {i : Nat} : (tapeF tn i).lookup ("is_done" : Str) = none := (lk_past (by decide +kernel)).trans ((lk_past (by decide +kernel)).trans rfl)
theorem tF_one {tn : Addr} {i : Nat} : (tapeF tn i).lookup ("take_one" : Str) = none := (lk_past (by decide +kernel)).trans ((lk_past (by decide +kernel)).trans rfl)
theorem tF_many {tn : Addr} {i : Nat} : (tapeF tn i).lookup ("take_many" : Str) = none := (lk_past (by decide +kernel)).trans ((lk_past (by decide +kernel)).trans rfl)
theorem tF_put {tn : Addr} {i : Nat} (j : Nat) : putF "at" (.int (j : Int)) (tapeF tn i) = tapeF tn j := (put_past (by decide +kernel)).trans (congrArg _ put_here)
structure TapeAt (A : Ads) (H : Hp) (ta dx tn : Addr) (ns : List Int) (i : Nat) : Prop where
  o : H ta = some (.ins A.c_Tape dx (tapeF tn i))
  l : H tn = some (.lst (zs ns))
theorem TapeAt.ne {A : Ads} {H : Hp} {ta dx tn : Addr} {ns : List Int} {i : Nat} (t : TapeAt A H ta dx tn ns i) : tn ≠ ta := ne_of t.l t.o (by intro z; cases z)
theorem TapeAt.mono {A : Ads} {H H' : Hp} {ta dx tn : Addr} {ns : List Int} {i : Nat} (e : Ex H H') (t : TapeAt A H ta dx tn ns i) : TapeAt A H' ta dx tn ns i := ⟨e _ _ t.o, e _ _ t.l⟩
def rDone (A : Ads) : List V → Hp → V → Prop := fun vs H v => ∃ (ta dx tn : Addr) (ns : List Int) (i : Nat), vs = [.ref ta] ∧ TapeAt A H ta dx tn ns i ∧ v = .bl (decide (ns.length ≤ i))
def spOne (A : Ads) : Sp := fun vs H Q _ => ∃ (ta dx tn : Addr) (ns : List Int) (i : Nat) (z : Int), vs = [.ref ta] ∧ TapeAt A H ta dx tn ns i ∧ ns[i]? = some z ∧
  ∀ H', Exm ta H H' → TapeAt A H' ta dx tn ns (i + 1) → Q (.int z) H'
def spMany (A : Ads) : Sp := fun vs H Q _ => ∃ (ta dx tn : Addr) (ns : List Int) (i k : Nat), vs = [.ref ta, .int (k : Int)] ∧ TapeAt A H ta dx tn ns i ∧ i + k ≤ ns.length ∧ k ≤ 30000 ∧
  ∀ p H', Exm ta H H' → TapeAt A H' ta dx tn ns (i + k) → H p = none → H' p = some (.lst (zs ((ns.drop i).take k))) → Q (.ref p) H'
def spTape (A : Ads) (K : PySem.W.Frag) : Sp := fun vs H Q _ => ∃ (p dx a : Addr) (ns : List Int), vs = [.ref p, .ref a] ∧ H p = some (.ins A.c_Tape dx []) ∧ SqL K H a (zs ns) ∧
  ∀ tn H', Exm p H H' → H tn = none → TapeAt A H' p dx tn ns 0 → Q .non H'
theorem zs_get {ns : List Int} {i : Nat} {z : Int} (h : ns[i]? = some z) : (zs ns)[i]? = some (.int z) := by
  unfold zs
  rw [List.getElem?_map, h]
  rfl
theorem zs_len (ns : List Int) : (zs ns).length = ns.length := List.length_map _
def hangF (v : V) : List (Str × V) := [("book", v)]
def spHang (A : Ads) : Sp := fun vs H Q _ => ∃ (p dx : Addr), vs = [.ref p] ∧ H p = some (.ins A.c_Hangar dx []) ∧ ∀ H', Exm p H H' → H' p = some (.ins A.c_Hangar dx (hangF .non)) → Q .non H'
section
variable {P : Program} {w : World} {K : PySem.W.Frag} {mg : Str → Option Value} {base : Heap} {A : Ads}
theorem ok_m_is_done (T : Txt K mg A) : OkM P w K mg base CX0 1 A.m_is_done ["self"] (spV (rDone A)) := by
  refine T.F_m_is_done.okM sc_m_is_done (fun vs H Q E h => ?_) (fun _ _ _ _ _ _ us hl => match us, hl with | [_], _ => rfl) (fun fd cdv A0 outer s H vs Q E hr h => ?_)
  · obtain ⟨_, ⟨ta, dx, tn, ns, i, rfl, _⟩, _⟩ := h
    rfl
  -- slots: 0 self
  refine ⟨_, (pss_one (ps_ret (pe_cmpR op_ge (pe_fld (pv 0) rfl) (pe_callB call_len_seq (by rfl) T.n_len PySem.boot_len (pa_cons (pe_fld (pv 0) rfl) pa_nil)) (nomark _)))), ?_⟩
  obtain ⟨_, ⟨ta, dx, tn, ns, i, rfl, t, rfl⟩, k⟩ := h
  have q := ev_lenL (K := K) (σ := [some (.ref ta)]) (ev_fld (ev_var (i := 0) rfl) t.o T.cl_Tape T.na_Tape_numbers tF_numbers) t.l
  rw [zs_len] at q
  exact s_ret (ev_bl (ev_ge (ev_fld (ev_var rfl) t.o T.cl_Tape T.na_Tape_at tF_at) q) (dec_le _ _)) k
theorem ok_m_take_one (T : Txt K mg A) : OkM P w K mg base CX0 1 A.m_take_one ["self"] (spOne A) := by
  refine T.F_m_take_one.okM sc_m_take_one (fun vs H Q E h => ?_) (fun _ _ _ _ _ _ us hl => match us, hl with | [_], _ => rfl) (fun fd cdv A0 outer s H vs Q E hr h => ?_)
  · obtain ⟨ta, dx, tn, ns, i, z, rfl, _⟩ := h
    rfl
  -- slots: 0 self, 1 found
  refine ⟨_, (pss_cons (ps_set (i := 1) sc_m_take_one.nd rfl (Or.inl rfl) (pe_ix ix_list (pe_fld (pv 0) rfl) (pe_fld (pv 0) rfl) (fun _ _ => rfl)))
    (pss_cons (ps_fldaug (pv 0) pe_int in_add)
    (pss_one (ps_ret (pv 1))))), ?_⟩
  obtain ⟨ta, dx, tn, ns, i, z, rfl, t, hz, k⟩ := h
  refine q_asg (ev_ixL (ev_fld (ev_var rfl) t.o T.cl_Tape T.na_Tape_numbers tF_numbers) (ev_fld (ev_var rfl) t.o T.cl_Tape T.na_Tape_at tF_at) (sq_of t.l) (zs_get hz)) fun H1 e1 => ?_
  have t1 := t.mono e1
  refine q_fldaug (ev_var rfl) t1.o T.cl_Tape T.na_Tape_at tF_at ev_c (by show 2 < 1000; decide) fun H2 e2 => ?_
  rw [show ((i : Nat) : Int) + 1 = ((i + 1 : Nat) : Int) by omega, tF_put]
  have x2 : Exm ta H (upd H2 ta (.ins A.c_Tape dx (tapeF tn (i + 1)))) := ((Exm.refl ta H).ex (e1.trans e2)).put
  refine s_ret (ev_var rfl) fun H3 e3 => k H3 (x2.ex e3) ⟨e3 _ _ upd_same, ?_⟩
  exact (x2.ex e3) _ _ t.l t.ne
theorem ok_m_take_many (T : Txt K mg A) : OkM P w K mg base CX0 2 A.m_take_many ["self", "many"] (spMany A) := by
  have o_m_take_one := ok_m_take_one (P := P) (w := w) (base := base) T
  refine T.F_m_take_many.okM sc_m_take_many (fun vs H Q E h => ?_) (fun _ _ _ _ _ _ us hl => match us, hl with | [_, _], _ => rfl) (fun fd cdv A0 outer s H vs Q E hr h => ?_)
  · obtain ⟨ta, dx, tn, ns, i, k, rfl, _⟩ := h
    rfl
  -- slots: 0 self, 1 many, 2 k
  refine ⟨_, (pss_one (ps_ret (pe_lc (own := [("k", 2)]) (g := gName 2) (tt := tYes) rfl sc_m_take_many.nd (pi_range1 (by rfl) T.n_range (pa_cons (pv 1) pa_nil)) (blkOk_by (N := ["self", "many", "k"]) (sc := defScope s_m_take_many) (by decide +kernel)) (fun _ _ _ _ _ => pg_name (i := 2) sc_m_take_many.nd rfl (Or.inl rfl)) (fun _ _ _ _ _ => by exact pts_nil) (fun _ _ _ _ _ => by exact (pe_methO0 o_m_take_one T.cl_Tape T.me_take_one (hr.mono (by decide)) pass0 (pv 0)))))), ?_⟩
  obtain ⟨ta, dx, tn, ns, i, n, rfl, t, hin, hn, k⟩ := h
  refine s_retQ (lcR1 (n := (n : Int)) (ea_cons (ev_var rfl) ea_nil) (by omega) (fun _ => rfl) fun H1 e1 D hD => ?_)
  have dta : D ≠ ta := fun z => by rw [z, (t.mono e1).o] at hD; cases hD
  refine ⟨fun j H' => Exm ta H1 H' ∧ TapeAt A H' ta dx tn ns (i + j) ∧ H' D = some (.lst (zs ((ns.drop i).take j))), ⟨(Exm.refl ta H1).ex (Ex.new hD), (t.mono e1).mono (Ex.new hD), upd_same⟩, fun j H' hj p => ?_, fun H' p => ?_⟩
  · obtain ⟨p1, p2, p3⟩ := p
    have hj' : j < n := by omega
    have hl : i + j < ns.length := by omega
    refine ⟨_, rfl, ta, dx, _, rfl, p2.o, tF_one, ta, dx, tn, ns, i + j, ns[i + j], rfl, p2, List.getElem?_eq_getElem hl, fun H2 x2 t2 => ?_⟩
    have d2 := x2 _ _ p3 dta
    refine ⟨_, d2, ?_, fun b o h ne => ?_, ⟨?_, ?_⟩, ?_⟩
    · rw [zs_len, List.length_take, List.length_drop]
      exact sz_lt (by omega)
    · rw [upd_ne (ne_of_none h hD)]
      exact x2 _ _ (p1 _ _ h ne) ne
    · rw [upd_ne (Ne.symm dta)]; exact t2.o
    · rw [upd_ne (ne_of_none (t.mono e1).l hD)]; exact t2.l
    · rw [upd_same]
      have e : (ns.drop i).take (j + 1) = (ns.drop i).take j ++ [ns[i + j]] := take_more (by rw [List.getElem?_drop]; exact List.getElem?_eq_getElem hl)
      rw [e]
      unfold zs
      rw [List.map_append]
      rfl
  · obtain ⟨p1, p2, p3⟩ := p
    rw [Int.toNat_natCast] at p2 p3
    exact k D H' (fun b o h ne => p1 b o (e1 b o h) ne) p2 (fresh_back e1 hD) p3
theorem ok_i_Tape (T : Txt K mg A) : OkM P w K mg base CX0 1 A.i_Tape ["self", "numbers"] (spTape A K) := by
  refine T.F_i_Tape.okM sc_i_Tape (fun vs H Q E h => ?_) (fun _ _ _ _ _ _ us hl => match us, hl with | [_, _], _ => rfl) (fun fd cdv A0 outer s H vs Q E hr h => ?_)
  · obtain ⟨p, dx, a, ns, rfl, _⟩ := h
    rfl
  -- slots: 0 self, 1 numbers
  refine ⟨_, (pss_cons (ps_fld (pv 0) (pe_callTy call_list_of (by rfl) T.n_list (by decide +kernel) (pa_cons (pv 1) pa_nil)) rfl)
    (pss_one (ps_fld (pv 0) pe_int rfl))), ?_⟩
  obtain ⟨p, dx, a, ns, rfl, hp, ha, k⟩ := h
  refine q_fldL (el_list (ev_var rfl) ha) (ev_var rfl) hp T.cl_Tape T.na_Tape_numbers (by show 0 < 1000; decide) fun tn H1 ht e1 h1 => ?_
  have x1 : Exm p H (upd H1 p (.ins A.c_Tape dx (putF "numbers" (.ref tn) []))) := ((Exm.refl p H).ex e1).put
  have pt : tn ≠ p := fun z => by rw [z, hp] at ht; cases ht
  refine s_fld ev_c (ev_var rfl) upd_same T.cl_Tape T.na_Tape_at (by show 1 < 1000; decide) fun H2 e2 => ?_
  refine k tn _ ((x1.ex e2).put) ht ⟨?_, ?_⟩
  · rw [upd_same]
    congr 2
  · rw [upd_ne pt]
    refine e2 _ _ ?_
    rw [upd_ne pt]
    exact h1
theorem ok_i_Hangar (T : Txt K mg A) : OkM P w K mg base CX0 1 A.i_Hangar ["self"] (spHang A) := by
  refine T.F_i_Hangar.okM sc_i_Hangar (fun vs H Q E h => ?_) (fun _ _ _ _ _ _ us hl => match us, hl with | [_], _ => rfl) (fun fd cdv A0 outer s H vs Q E hr h => ?_)
  · obtain ⟨p, dx, rfl, _⟩ := h
    rfl
  -- slots: 0 self
  refine ⟨_, (pss_one (ps_fld (pv 0) pe_non rfl)), ?_⟩
  obtain ⟨p, dx, rfl, hp, k⟩ := h
  exact s_fld ev_c (ev_var rfl) hp T.cl_Hangar T.na_Hangar_book (by show 0 < 1000; decide) fun H1 e1 => k _ (((Exm.refl p H).ex e1).put) upd_same
end
end FBW
namespace FBW
open PySem PySem.Spec PyProof.Rows L2 Evl FB
/-! ### objects by roles, new since H0 -/
structure Rep (ok : Role → Prop) (ob : Role → HO) (L : Lay) (H0 H : Hp) : Prop where
  at_ : ∀ r, ok r → H (L.ad r) = some (ob r)
  inj : ∀ r s, ok r → ok s → L.ad r = L.ad s → r = s
  new : ∀ r, ok r → H0 (L.ad r) = none
section
variable {ok ok' : Role → Prop} {ob ob' : Role → HO} {L L' : Lay} {H0 H1 H H' : Hp}
theorem Rep.keep (R : Rep ok ob L H0 H) (k : ∀ s, ok s → H' (L.ad s) = H (L.ad s)) : Rep ok ob L H0 H' := ⟨fun r h => (k r h).trans (R.at_ r h), R.inj, R.new⟩
theorem Rep.ex (R : Rep ok ob L H0 H) (e : Ex H H') : Rep ok ob L H0 H' := R.keep fun s h => (e _ _ (R.at_ s h)).trans (R.at_ s h).symm
theorem Rep.old (R : Rep ok ob L H1 H) (e : Ex H0 H1) : Rep ok ob L H0 H := ⟨R.at_, R.inj, fun r h => Same.free (fun b o z => e b o z) (R.new r h)⟩
theorem Rep.none (H0 H : Hp) (ob : Role → HO) (L : Lay) : Rep (fun _ => False) ob L H0 H := ⟨fun _ h => h.elim, fun _ _ h => h.elim, fun _ h => h.elim⟩
theorem Rep.imp (R : Rep ok ob L H0 H) (h : ∀ s, ok' s → ok s) : Rep ok' ob L H0 H := ⟨fun r z => R.at_ r (h r z), fun r s a b => R.inj r s (h r a) (h s b), fun r z => R.new r (h r z)⟩
theorem Rep.re (R : Rep ok ob L H0 H) (h : ∀ s, ok s → L'.ad s = L.ad s ∧ ob' s = ob s) : Rep ok ob' L' H0 H :=
  ⟨fun r z => by rw [(h r z).1, (h r z).2]; exact R.at_ r z, fun r s a b e => R.inj r s a b (by rw [← (h r a).1, ← (h s b).1]; exact e), fun r z => by rw [(h r z).1]; exact R.new r z⟩
theorem Rep.add (R : Rep ok ob L H0 H) (r : Role) (ne : ∀ s, ok s → L.ad s ≠ L.ad r) (n0 : H0 (L.ad r) = Option.none) (hr : H (L.ad r) = some (ob r)) : Rep (fun s => ok s ∨ s = r) ob L H0 H := by
  refine ⟨fun s h => ?_, fun s t hs ht e => ?_, fun s h => ?_⟩
  · rcases h with h | h
    · exact R.at_ s h
    · rw [h]; exact hr
  · rcases hs with hs | hs
    · rcases ht with ht | ht
      · exact R.inj s t hs ht e
      · rw [ht] at e; exact absurd e (ne s hs)
    · rcases ht with ht | ht
      · rw [hs] at e; exact absurd e.symm (ne t ht)
      · rw [hs, ht]
  · rcases h with h | h
    · exact R.new s h
    · rw [h]; exact n0
end
/-! ### an aeroplane, a kind -/
theorem cut_nat {xs : List V} {i j : Nat} (h : j ≤ xs.length) (hij : i ≤ j) : cutV xs (some (i : Int)) (some (j : Int)) = (xs.drop i).take (j - i) := by
  unfold cutV
  rw [HT.sIx_nat, HT.sIx_nat, Nat.min_eq_left h, Nat.min_eq_left (Nat.le_trans hij h)]
theorem nats_cut (l : List Nat) (i j : Nat) : ((nats l).drop i).take j = nats ((l.drop i).take j) := by
  unfold nats
  rw [List.map_take]; rw [List.map_drop]
def kindG (a b c : Addr) : List (Str × V) := [("minutes", .ref a), ("landings", .ref b), ("days", .ref c)]
def spKind (A : Ads) (K : PySem.W.Frag) : Sp := fun vs H Q _ => ∃ (p dx l : Addr) (xs : List Nat), vs = [.ref p, .ref l] ∧ H p = some (.ins A.c_Kind dx []) ∧ SqL K H l (nats xs) ∧ l ≠ p ∧ xs.length = 12 ∧
  ∀ (H' : Hp) (a b c : Addr), H a = none → H b = none → H c = none → a ≠ b → a ≠ c → b ≠ c → H' a = some (.lst (nats (xs.take 4))) → H' b = some (.lst (nats ((xs.drop 4).take 4))) → H' c = some (.lst (nats ((xs.drop 8).take 4))) →
    H' p = some (.ins A.c_Kind dx (kindG a b c)) → Exm p H H' → Q .non H'
def spPlane (A : Ads) : Sp := fun vs H Q _ => ∃ (p dx : Addr), vs = [.ref p] ∧ H p = some (.ins A.c_Plane dx []) ∧
  ∀ (H' : Hp) (a : Addr), H a = none → H' a = some (.lst []) → H' p = some (.ins A.c_Plane dx [("flown", .ref a), ("let_go", .int 0)]) → Exm p H H' → Q .non H'
theorem Exm.sq {K : PySem.W.Frag} {p l : Addr} {H H' : Hp} {xs : List V} (x : Exm p H H') (ne : l ≠ p) (h : SqL K H l xs) : SqL K H' l xs := by
  rcases h with ((h | ⟨o, h⟩) | h)
  · exact .inl (.inl (x _ _ h ne))
  · exact .inl (.inr ⟨o, x _ _ h ne⟩)
  · exact .inr h
section
variable {P : Program} {w : World} {K : PySem.W.Frag} {mg : Str → Option Value} {base : Heap} {A : Ads}
theorem ok_i_Kind (T : Txt K mg A) : OkM P w K mg base CX0 1 A.i_Kind ["self", "numbers"] (spKind A K) := by
  refine T.F_i_Kind.okM sc_i_Kind (fun vs H Q E h => ?_) (fun _ _ _ _ _ _ us hl => match us, hl with | [_, _], _ => rfl) (fun fd cdv A0 outer s H vs Q E hr h => ?_)
  · obtain ⟨p, dx, l, xs, rfl, _⟩ := h
    rfl
  -- slots: 0 self, 1 numbers
  refine ⟨_, (pss_cons (ps_fld (pv 0) (pe_slice sl_list (pv 1) (po_some pe_int) (po_some pe_int)) rfl)
    (pss_cons (ps_fld (pv 0) (pe_slice sl_list (pv 1) (po_some pe_int) (po_some pe_int)) rfl)
    (pss_one (ps_fld (pv 0) (pe_slice sl_list (pv 1) (po_some pe_int) (po_some pe_int)) rfl)))), ?_⟩
  obtain ⟨p, dx, l, xs, rfl, hp, hl, lp, h12, k⟩ := h
  have n12 : (nats xs).length = 12 := by rw [nats_len, h12]
  refine q_fldL (EvL.to (el_sl (ev_var rfl) (eo_some ev_c) (eo_some ev_c) hl) ((cut_nat (i := 0) (j := 4) (by omega) (by omega)).trans (nats_cut xs 0 4))) (ev_var rfl) hp T.cl_Kind T.na_Kind_minutes (by show 0 < 1000; decide) fun a H1 ha e1 h1 => ?_
  have x1 := ((Exm.refl p H).ex e1).put (o := .ins A.c_Kind dx (putF "minutes" (.ref a) []))
  have pa : a ≠ p := fun z => by rw [z, hp] at ha; cases ha
  refine q_fldL (EvL.to (el_sl (ev_var rfl) (eo_some ev_c) (eo_some ev_c) (x1.sq lp hl)) ((cut_nat (i := 4) (j := 8) (by omega) (by omega)).trans (nats_cut xs 4 4))) (ev_var rfl) upd_same T.cl_Kind T.na_Kind_landings (by show 1 < 1000; decide) fun b H2 hb e2 h2 => ?_
  have nb := none_at x1 upd_same hb
  have pb : b ≠ p := fun z => by rw [z, upd_same] at hb; cases hb
  have a1 : upd H1 p (.ins A.c_Kind dx (putF "minutes" (.ref a) [])) a = some (.lst (nats (xs.take 4))) := by rw [upd_ne pa]; exact h1
  have ab : a ≠ b := ne_of_none a1 hb
  have x2 := (x1.ex e2).put (o := .ins A.c_Kind dx (putF "landings" (.ref b) (putF "minutes" (.ref a) [])))
  refine s_fldL (EvL.to (el_sl (ev_var rfl) (eo_some ev_c) (eo_some ev_c) (x2.sq lp hl)) ((cut_nat (i := 8) (j := 12) (by omega) (by omega)).trans (nats_cut xs 8 4))) (ev_var rfl) upd_same T.cl_Kind T.na_Kind_days (by show 2 < 1000; decide) fun c H3 hc e3 h3 => ?_
  have nc := none_at x2 upd_same hc
  have pc : c ≠ p := fun z => by rw [z, upd_same] at hc; cases hc
  have a2 : upd H2 p (.ins A.c_Kind dx (putF "landings" (.ref b) (putF "minutes" (.ref a) []))) a = some (.lst (nats (xs.take 4))) := by rw [upd_ne pa]; exact e2 _ _ a1
  have b2 : upd H2 p (.ins A.c_Kind dx (putF "landings" (.ref b) (putF "minutes" (.ref a) []))) b = some (.lst (nats ((xs.drop 4).take 4))) := by rw [upd_ne pb]; exact h2
  refine k _ a b c ha nb nc ab (ne_of_none a2 hc) (ne_of_none b2 hc) ?_ ?_ ?_ ?_ ((x2.ex e3).put)
  · rw [upd_ne pa]; exact e3 _ _ a2
  · rw [upd_ne pb]; exact e3 _ _ b2
  · rw [upd_ne pc]; exact h3
  · rw [upd_same]
    congr 2
theorem ok_i_Plane (T : Txt K mg A) : OkM P w K mg base CX0 1 A.i_Plane ["self"] (spPlane A) := by
  refine T.F_i_Plane.okM sc_i_Plane (fun vs H Q E h => ?_) (fun _ _ _ _ _ _ us hl => match us, hl with | [_], _ => rfl) (fun fd cdv A0 outer s H vs Q E hr h => ?_)
  · obtain ⟨p, dx, rfl, _⟩ := h
    rfl
  -- slots: 0 self
  refine ⟨_, (pss_cons (ps_fld (pv 0) (pe_lst pa_nil) rfl)
    (pss_one (ps_fld (pv 0) pe_int rfl))), ?_⟩
  obtain ⟨p, dx, rfl, hp, k⟩ := h
  refine q_fldL (el_lst ea_nil (by show 0 ≤ 100000; decide)) (ev_var rfl) hp T.cl_Plane T.na_Plane_flown (by show 0 < 1000; decide) fun a H1 ha e1 h1 => ?_
  have x1 := ((Exm.refl p H).ex e1).put (o := .ins A.c_Plane dx (putF "flown" (.ref a) []))
  have pa : a ≠ p := fun z => by rw [z, hp] at ha; cases ha
  refine s_fld ev_c (ev_var rfl) upd_same T.cl_Plane T.na_Plane_let_go (by show 1 < 1000; decide) fun H2 e2 => ?_
  refine k _ a ha ?_ ?_ ((x1.ex e2).put)
  · rw [upd_ne pa]
    refine e2 _ _ ?_
    rw [upd_ne pa]
    exact h1
  · rw [upd_same]
    congr 2
end
/-! ### the book's beginning -/
def okP (n : Nat) : Role → Prop
  | .an j | .af j => j < n
  | _ => False
def okB : Role → Prop
  | .pl | .al => True
  | .an j | .af j => j < 16
  | _ => False
def Lay.plane (L : Lay) (N : Nat) (x dx f : Addr) : Lay where
  ad
    | .an i => if i = N then x else L.ad (.an i)
    | .af i => if i = N then f else L.ad (.af i)
    | r => L.ad r
  dx
    | .an i => if i = N then dx else L.dx (.an i)
    | r => L.dx r
theorem new_plane (ks : List MKind) {j : Nat} (h : j < 16) : (M.new ks).plane j = MPlane.zero := by
  unfold M.new M.plane
  show (List.replicate 16 MPlane.zero).getD j _ = _
  rw [List.getD_eq_getElem?_getD, List.getElem?_replicate, if_pos h]
  rfl
section
variable {A : Ads} {L : Lay} {H0 H H' : Hp} {n : Nat} {x dx f : Addr} {ks : List MKind}
theorem rep_plane (R : Rep (okP n) (obj A L (M.new ks)) L H0 H') (hn : n < 16) (nx : H0 x = none) (nf : H0 f = none) (xo : ∀ s, okP n s → L.ad s ≠ x) (fo : ∀ s, okP n s → L.ad s ≠ f) (xf : x ≠ f)
    (hx : H' x = some (.ins A.c_Plane dx [("flown", .ref f), ("let_go", .int 0)])) (hf : H' f = some (.lst [])) : Rep (okP (n + 1)) (obj A (L.plane n x dx f) (M.new ks)) (L.plane n x dx f) H0 H' := by
  have e1 : (L.plane n x dx f).ad (.an n) = x := if_pos rfl
  have e2 : (L.plane n x dx f).ad (.af n) = f := if_pos rfl
  have R1 : Rep (okP n) (obj A (L.plane n x dx f) (M.new ks)) (L.plane n x dx f) H0 H' := by
    refine R.re fun s h => ?_
    cases s with
    | an j =>
      have hj : j ≠ n := Nat.ne_of_lt h
      refine ⟨if_neg hj, ?_⟩
      show HO.ins _ (if j = n then dx else L.dx (.an j)) [("flown", V.ref (if j = n then f else L.ad (.af j))), ("let_go", _)] = _
      rw [if_neg hj, if_neg hj]
      rfl
    | af j => exact ⟨if_neg (Nat.ne_of_lt h), rfl⟩
    | _ => exact h.elim
  have ol : ∀ s, okP n s → (L.plane n x dx f).ad s = L.ad s := fun s h => by
    cases s with
    | an j => exact if_neg (Nat.ne_of_lt h)
    | af j => exact if_neg (Nat.ne_of_lt h)
    | _ => exact h.elim
  have R2 := R1.add (.an n) (fun s h => by rw [e1, ol s h]; exact xo s h) (by rw [e1]; exact nx) (by
    rw [e1, hx]
    show _ = some (HO.ins _ (if n = n then dx else _) [("flown", V.ref (if n = n then f else _)), ("let_go", .int (((M.new ks).plane n).go : Int))])
    rw [if_pos rfl, if_pos rfl, new_plane ks hn]
    rfl)
  have R3 := R2.add (.af n) (fun s h => by
    rw [e2]
    rcases h with h | h
    · rw [ol s h]; exact fo s h
    · rw [h, e1]; exact xf) (by rw [e2]; exact nf) (by
    rw [e2, hf]
    show _ = some (HO.lst (nats ((M.new ks).plane n).flown))
    rw [new_plane ks hn]
    rfl)
  refine R3.imp fun s h => ?_
  cases s with
  | an j =>
    by_cases q : j = n
    · exact .inl (.inr (by rw [q]))
    · exact .inl (.inl (show j < n by have : j < n + 1 := h; omega))
  | af j =>
    by_cases q : j = n
    · exact .inr (by rw [q])
    · exact .inl (.inl (show j < n by have : j < n + 1 := h; omega))
  | _ => exact h.elim
end
end FBW
namespace FBW
open PySem PySem.Spec PyProof.Rows L2 Evl FB
def bookG (ks pl al : Addr) : List (Str × V) := [("kinds", .ref ks), ("parts", .ref pl), ("planes", .ref al), ("last_day", .int 0)]
def spBook (A : Ads) : Sp := fun vs H Q _ => ∃ (p dx ks : Addr), vs = [.ref p, .ref ks] ∧ H p = some (.ins A.c_Book dx []) ∧
  ∀ (H' : Hp) (L : Lay), (∀ kk, Rep okB (obj A L (M.new kk)) L H H') → H' p = some (.ins A.c_Book dx (bookG ks (L.ad .pl) (L.ad .al))) → Exm p H H' → Q .non H'
section
variable {K : PySem.W.Frag} {σ : L2.St} {H : Hp} {ta tv : TE} {D : Ends} {tz : TS} {f : Str}
theorem q_fldR (h : tv σ H fun y H1 => ta σ H1 fun x H2 => ∃ a C dx fs, x = .ref a ∧ H2 a = some (.ins C dx fs) ∧ Cls K C ∧ NoAttr K C f ∧ fs.length < 1000 ∧ tz D σ (upd H2 a (.ins C dx (putF f y fs)))) : tSeq (sFld K ta tv f) tz D σ H := h
end
def Lay.lists (L : Lay) (pl al : Addr) : Lay where
  ad
    | .pl => pl
    | .al => al
    | r => L.ad r
  dx := L.dx
section
variable {P : Program} {w : World} {K : PySem.W.Frag} {mg : Str → Option Value} {base : Heap} {A : Ads}
theorem ok_i_Book (T : Txt K mg A) : OkM P w K mg base CX0 3 A.i_Book ["self", "kinds"] (spBook A) := by
  have o_i_Plane := ok_i_Plane (P := P) (w := w) (base := base) T
  refine T.F_i_Book.okM sc_i_Book (fun vs H Q E h => ?_) (fun _ _ _ _ _ _ us hl => match us, hl with | [_, _], _ => rfl) (fun fd cdv A0 outer s H vs Q E hr h => ?_)
  · obtain ⟨p, dx, ks, rfl, _⟩ := h
    rfl
  -- slots: 0 self, 1 kinds, 2 k
  refine ⟨_, (pss_cons (ps_fld (pv 0) (pv 1) rfl)
    (pss_cons (ps_fld (pv 0) (pe_lst pa_nil) rfl)
    (pss_cons (ps_fld (pv 0) (pe_lc (own := [("k", 2)]) (g := gName 2) (tt := tYes) rfl sc_i_Book.nd (pi_range1 (by rfl) T.n_range (pa_cons (pe_gint rfl T.g_PLANES) pa_nil)) (blkOk_by (N := ["self", "kinds", "k"]) (sc := defScope s_i_Book) (by decide +kernel)) (fun _ _ _ _ _ => pg_name (i := 2) sc_i_Book.nd rfl (Or.inl rfl)) (fun _ _ _ _ _ => by exact pts_nil) (fun _ _ _ _ _ => by exact (pe_makeO0 o_i_Plane T.mk_Plane T.g_Plane (hr.mono (by decide)) pass0 rfl))) rfl)
    (pss_one (ps_fld (pv 0) pe_int rfl))))), ?_⟩
  obtain ⟨p, dx, ks, rfl, hp, k⟩ := h
  refine q_fld (ev_var rfl) (ev_var rfl) hp T.cl_Book T.na_Book_kinds (by show 0 < 1000; decide) fun H1 e1 => ?_
  have x1 := ((Exm.refl p H).ex e1).put (o := .ins A.c_Book dx (putF "kinds" (.ref ks) []))
  refine q_fldL (el_lst ea_nil (by show 0 ≤ 100000; decide)) (ev_var rfl) upd_same T.cl_Book T.na_Book_parts (by show 1 < 1000; decide) fun pl H2 hpl e2 h2 => ?_
  have npl := none_at x1 upd_same hpl
  have ppl : pl ≠ p := fun z => by rw [z, upd_same] at hpl; cases hpl
  have x2 := (x1.ex e2).put (o := .ins A.c_Book dx (putF "parts" (.ref pl) (putF "kinds" (.ref ks) [])))
  have pl2 : upd H2 p (.ins A.c_Book dx (putF "parts" (.ref pl) (putF "kinds" (.ref ks) []))) pl = some (.lst []) := by rw [upd_ne ppl]; exact h2
  generalize hHc : upd H2 p (.ins A.c_Book dx (putF "parts" (.ref pl) (putF "kinds" (.ref ks) []))) = Hc at x2 pl2
  have pc : Hc p = some (.ins A.c_Book dx (putF "parts" (.ref pl) (putF "kinds" (.ref ks) []))) := by rw [← hHc]; exact upd_same
  refine q_fldR (lcR1 (n := 16) (ea_cons ev_c ea_nil) (by decide) (fun _ => rfl) fun H3 e3 Dl hD => ⟨fun j H' => ∃ L : Lay, (∀ kk, Rep (okP j) (obj A L (M.new kk)) L Hc H') ∧ Ex H3 H' ∧ H' Dl = some (.lst (refsOf (fun i => L.ad (.an i)) j)) ∧ ∀ s, okP j s → L.ad s ≠ Dl,
    ⟨⟨fun _ => 0, fun _ => 0⟩, fun kk => (Rep.none Hc _ _ _).imp fun s h => (by cases s <;> first | exact h.elim | exact absurd h (Nat.not_lt_zero _)), Ex.new hD, upd_same, fun s h => (by cases s <;> first | exact h.elim | exact absurd h (Nat.not_lt_zero _))⟩, fun j H' hj q => ?_, fun H' q => ?_⟩)
  · obtain ⟨L, R, e4, d4, nD⟩ := q
    have hj' : j < 16 := by omega
    intro x dxx nx nd ne
    refine ⟨x, dxx, rfl, upd_same, fun H5 f nf hf hx ex => ⟨rfl, refsOf (fun i => L.ad (.an i)) j, ?_, by rw [refs_len]; exact sz_lt (by omega), ?_⟩⟩
    · exact ex _ _ (by rw [upd_ne (ne_of_none d4 nx), upd_ne (ne_of_none d4 nd)]; exact d4) (ne_of_none d4 nx)
    · have xo : ∀ s, okP j s → L.ad s ≠ x := fun s h => ne_of_none ((R []).at_ s h) nx
      have up : ∀ {b : Addr} {o : HO}, H' b = some o → upd (upd H' dxx (.own x)) x (.ins A.c_Plane dxx []) b = some o := fun {b o} h => by rw [upd_ne (ne_of_none h nx), upd_ne (ne_of_none h nd)]; exact h
      have fo : ∀ s, okP j s → L.ad s ≠ f := fun s h => ne_of_none (up ((R []).at_ s h)) nf
      have xf : x ≠ f := ne_of_none upd_same nf
      have fD : f ≠ Dl := (ne_of_none (up d4) nf).symm
      have xD : x ≠ Dl := (ne_of_none d4 nx).symm
      have e34 : Ex Hc H' := e3.trans e4
      refine ⟨L.plane j x dxx f, fun kk => rep_plane ((R kk).keep fun s h => ?_) hj' (Same.free (fun b o z => e34 b o z) nx) (Same.free (fun b o z => up (e34 b o z)) nf) xo fo xf (by rw [upd_ne xD]; exact hx) (by rw [upd_ne fD]; exact hf), ?_, ?_, fun s h => ?_⟩
      · rw [upd_ne (nD s h), (R kk).at_ s h]
        exact ex _ _ (up ((R kk).at_ s h)) (xo s h)
      · exact Ex.mut (fun b o h => ex b o (up (e4 b o h)) (ne_of_none (e4 b o h) nx)) hD
      · rw [upd_same, refs_succ]
        congr 3
        · exact refs_congr fun i hi => (if_neg (Nat.ne_of_lt hi)).symm
        · show [V.ref x] = [V.ref (if j = j then x else _)]
          rw [if_pos rfl]
      · cases s with
        | an i =>
          show (if i = j then x else L.ad (.an i)) ≠ Dl
          by_cases z : i = j
          · rw [if_pos z]; exact xD
          · rw [if_neg z]; exact nD (.an i) (show i < j by have : i < j + 1 := h; omega)
        | af i =>
          show (if i = j then f else L.ad (.af i)) ≠ Dl
          by_cases z : i = j
          · rw [if_pos z]; exact fD
          · rw [if_neg z]; exact nD (.af i) (show i < j by have : i < j + 1 := h; omega)
        | _ => exact h.elim
  · obtain ⟨L, R, e4, d4, nD⟩ := q
    rw [show (16 : Int).toNat = 16 from rfl] at R d4 nD
    have e34 : Ex Hc H' := e3.trans e4
    have pD : Dl ≠ p := fun z => by rw [z, e3 _ _ pc] at hD; cases hD
    have plD : pl ≠ Dl := ne_of_none (e3 _ _ pl2) hD
    refine ev_var (i := 0) (v := .ref p) rfl H' (Ex.refl H') _ fun H5 e5 => ⟨p, A.c_Book, dx, _, rfl, e5 _ _ (e34 _ _ pc), T.cl_Book, T.na_Book_planes, by show 2 < 1000; decide, ?_⟩
    have x5 := ((x2.ex e34).ex e5).put (o := .ins A.c_Book dx (putF "planes" (.ref Dl) (putF "parts" (.ref pl) (putF "kinds" (.ref ks) []))))
    refine s_fld ev_c (ev_var rfl) upd_same T.cl_Book T.na_Book_last_day (by show 3 < 1000; decide) fun H6 e6 => ?_
    have x6 := (x5.ex e6).put (o := .ins A.c_Book dx (putF "last_day" (.int 0) (putF "planes" (.ref Dl) (putF "parts" (.ref pl) (putF "kinds" (.ref ks) [])))))
    have kp : ∀ {b : Addr} {o : HO}, H' b = some o → b ≠ p → upd H6 p (.ins A.c_Book dx (putF "last_day" (.int 0) (putF "planes" (.ref Dl) (putF "parts" (.ref pl) (putF "kinds" (.ref ks) []))))) b = some o := fun {b o} h n => by
      rw [upd_ne n]
      refine e6 _ _ ?_
      rw [upd_ne n]
      exact e5 _ _ h
    have pnew : ∀ {b : Addr}, Hc b = none → b ≠ p := fun {b} h z => by rw [z, pc] at h; cases h
    refine k _ (L.lists pl Dl) (fun kk => ?_) ?_ x6
    · have R0 : Rep (okP 16) (obj A L (M.new kk)) L H (upd H6 p (.ins A.c_Book dx (putF "last_day" (.int 0) (putF "planes" (.ref Dl) (putF "parts" (.ref pl) (putF "kinds" (.ref ks) [])))))) :=
        ⟨fun r h => kp ((R kk).at_ r h) (pnew ((R kk).new r h)), (R kk).inj, fun r h => none_at x2 pc ((R kk).new r h)⟩
      have R1 : Rep (okP 16) (obj A (L.lists pl Dl) (M.new kk)) (L.lists pl Dl) H _ := R0.re fun s h => by
        cases s with
        | an j => exact ⟨rfl, rfl⟩
        | af j => exact ⟨rfl, rfl⟩
        | _ => exact h.elim
      have adE : ∀ s, okP 16 s → (L.lists pl Dl).ad s = L.ad s := fun s h => by cases s <;> first | rfl | exact h.elim
      have R2 := R1.add .pl (fun s h => by rw [adE s h]; exact fun z => by have := (R kk).new s h; rw [show L.ad s = pl from z, pl2] at this; cases this) npl (kp (e34 _ _ pl2) ppl)
      have R3 := R2.add .al (fun s h => by
        rcases h with h | h
        · rw [adE s h]; exact nD s h
        · rw [h]; exact plD) (none_at x2 pc (Same.free (fun b o z => e3 b o z) hD)) (by
        show _ = some (HO.lst (refsOf (fun j => (L.lists pl Dl).ad (.an j)) (M.new kk).planes.length))
        have : (M.new kk).planes.length = 16 := by unfold M.new; simp
        rw [this]
        exact kp d4 pD)
      refine R3.imp fun s h => ?_
      cases s with
      | pl => exact .inl (.inr rfl)
      | al => exact .inr rfl
      | an j => exact .inl (.inl h)
      | af j => exact .inl (.inl h)
      | _ => exact h.elim
    · rw [upd_same]
      congr 2
end
end FBW
namespace FBW
open PySem PySem.Spec PyProof.Rows L2 Evl FB
def mkKind (c : List Nat) : MKind := ⟨c.take 4, (c.drop 4).take 4, (c.drop 8).take 4⟩
def chunkAt (ns : List Nat) (i : Nat) : List Nat := (ns.drop (i * 12)).take 12
def kindsOf (ns : List Nat) : List MKind := (List.range (ns.length / 12)).map fun i => mkKind (chunkAt ns i)
theorem kindsOf_len (ns : List Nat) : (kindsOf ns).length = ns.length / 12 := by unfold kindsOf; simp
theorem new_kind {ns : List Nat} {i : Nat} (h : i < ns.length / 12) : (M.new (kindsOf ns)).kind i = mkKind (chunkAt ns i) := by
  unfold M.new M.kind
  show (kindsOf ns).getD i _ = _
  unfold kindsOf
  rw [List.getD_eq_getElem?_getD, List.getElem?_map]; rw [List.getElem?_range h]; rfl
def okK (n : Nat) : Role → Prop
  | .kd i | .km i | .kn i | .ky i => i < n
  | _ => False
def Lay.kind (L : Lay) (N : Nat) (x dx a b c : Addr) : Lay where
  ad
    | .kd i => if i = N then x else L.ad (.kd i)
    | .km i => if i = N then a else L.ad (.km i)
    | .kn i => if i = N then b else L.ad (.kn i)
    | .ky i => if i = N then c else L.ad (.ky i)
    | r => L.ad r
  dx
    | .kd i => if i = N then dx else L.dx (.kd i)
    | r => L.dx r
section
variable {A : Ads} {L : Lay} {H0 H H' : Hp} {n : Nat} {x dx a b c : Addr} {ns : List Nat}
theorem kind_old {s : Role} (h : okK n s) : (L.kind n x dx a b c).ad s = L.ad s := by
  cases s with
  | kd j => exact if_neg (Nat.ne_of_lt h)
  | km j => exact if_neg (Nat.ne_of_lt h)
  | kn j => exact if_neg (Nat.ne_of_lt h)
  | ky j => exact if_neg (Nat.ne_of_lt h)
  | _ => exact h.elim
theorem rep_kind (R : Rep (okK n) (obj A L (M.new (kindsOf ns))) L H0 H') (hn : n < ns.length / 12) (nx : H0 x = none) (na : H0 a = none) (nb : H0 b = none) (nc : H0 c = none)
    (xo : ∀ s, okK n s → L.ad s ≠ x) (ao : ∀ s, okK n s → L.ad s ≠ a) (bo : ∀ s, okK n s → L.ad s ≠ b) (co : ∀ s, okK n s → L.ad s ≠ c) (xa : x ≠ a) (xb : x ≠ b) (xc : x ≠ c) (ab : a ≠ b) (ac : a ≠ c) (bc : b ≠ c)
    (hx : H' x = some (.ins A.c_Kind dx (kindG a b c))) (ha : H' a = some (.lst (nats ((chunkAt ns n).take 4)))) (hb : H' b = some (.lst (nats (((chunkAt ns n).drop 4).take 4)))) (hc : H' c = some (.lst (nats (((chunkAt ns n).drop 8).take 4)))) :
    Rep (okK (n + 1)) (obj A (L.kind n x dx a b c) (M.new (kindsOf ns))) (L.kind n x dx a b c) H0 H' := by
  have e1 : (L.kind n x dx a b c).ad (.kd n) = x := if_pos rfl
  have e2 : (L.kind n x dx a b c).ad (.km n) = a := if_pos rfl
  have e3 : (L.kind n x dx a b c).ad (.kn n) = b := if_pos rfl
  have e4 : (L.kind n x dx a b c).ad (.ky n) = c := if_pos rfl
  have R1 : Rep (okK n) (obj A (L.kind n x dx a b c) (M.new (kindsOf ns))) (L.kind n x dx a b c) H0 H' := by
    refine R.re fun s h => ⟨kind_old h, ?_⟩
    cases s with
    | kd j =>
      have hj : j ≠ n := Nat.ne_of_lt h
      show HO.ins _ (if j = n then dx else L.dx (.kd j)) (kindF (L.kind n x dx a b c) j) = _
      unfold kindF
      rw [if_neg hj, show (L.kind n x dx a b c).ad (.km j) = L.ad (.km j) from if_neg hj, show (L.kind n x dx a b c).ad (.kn j) = L.ad (.kn j) from if_neg hj, show (L.kind n x dx a b c).ad (.ky j) = L.ad (.ky j) from if_neg hj]
      rfl
    | km j => rfl
    | kn j => rfl
    | ky j => rfl
    | _ => exact h.elim
  have R2 := R1.add (.kd n) (fun s h => by rw [e1, kind_old h]; exact xo s h) (by rw [e1]; exact nx) (by
    rw [e1, hx]
    show _ = some (HO.ins _ (if n = n then dx else _) (kindF (L.kind n x dx a b c) n))
    unfold kindF
    rw [if_pos rfl, e2, e3, e4]
    rfl)
  have R3 := R2.add (.km n) (fun s h => by
    rw [e2]
    rcases h with h | h
    · rw [kind_old h]; exact ao s h
    · rw [h, e1]; exact xa) (by rw [e2]; exact na) (by
    rw [e2, ha]
    show _ = some (HO.lst (nats ((M.new (kindsOf ns)).kind n).minutes))
    rw [new_kind hn]
    rfl)
  have R4 := R3.add (.kn n) (fun s h => by
    rw [e3]
    rcases h with (h | h) | h
    · rw [kind_old h]; exact bo s h
    · rw [h, e1]; exact xb
    · rw [h, e2]; exact ab) (by rw [e3]; exact nb) (by
    rw [e3, hb]
    show _ = some (HO.lst (nats ((M.new (kindsOf ns)).kind n).landings))
    rw [new_kind hn]
    rfl)
  have R5 := R4.add (.ky n) (fun s h => by
    rw [e4]
    rcases h with ((h | h) | h) | h
    · rw [kind_old h]; exact co s h
    · rw [h, e1]; exact xc
    · rw [h, e2]; exact ac
    · rw [h, e3]; exact bc) (by rw [e4]; exact nc) (by
    rw [e4, hc]
    show _ = some (HO.lst (nats ((M.new (kindsOf ns)).kind n).days))
    rw [new_kind hn]
    rfl)
  refine R5.imp fun s h => ?_
  cases s with
  | kd j =>
    by_cases q : j = n
    · exact .inl (.inl (.inl (.inr (by rw [q]))))
    · exact .inl (.inl (.inl (.inl (show j < n by have : j < n + 1 := h; omega))))
  | km j =>
    by_cases q : j = n
    · exact .inl (.inl (.inr (by rw [q])))
    · exact .inl (.inl (.inl (.inl (show j < n by have : j < n + 1 := h; omega))))
  | kn j =>
    by_cases q : j = n
    · exact .inl (.inr (by rw [q]))
    · exact .inl (.inl (.inl (.inl (show j < n by have : j < n + 1 := h; omega))))
  | ky j =>
    by_cases q : j = n
    · exact .inr (by rw [q])
    · exact .inl (.inl (.inl (.inl (show j < n by have : j < n + 1 := h; omega))))
  | _ => exact h.elim
end
theorem Rep.union {ok1 ok2 : Role → Prop} {ob : Role → HO} {L : Lay} {H0 H : Hp} (R1 : Rep ok1 ob L H0 H) (R2 : Rep ok2 ob L H0 H) (d : ∀ r s, ok1 r → ok2 s → L.ad r ≠ L.ad s) : Rep (fun s => ok1 s ∨ ok2 s) ob L H0 H := by
  refine ⟨fun s h => h.elim (R1.at_ s) (R2.at_ s), fun r s hr hs e => ?_, fun s h => h.elim (R1.new s) (R2.new s)⟩
  rcases hr with hr | hr <;> rcases hs with hs | hs
  · exact R1.inj r s hr hs e
  · exact absurd e (d r s hr hs)
  · exact absurd e.symm (d s r hs hr)
  · exact R2.inj r s hr hs e
theorem mkA1 {σ : L2.St} {H : Hp} {te : TE} {C : Addr} {sp : Sp} {E : XK} {Q : VK} (h : te σ H fun y H1 => ∀ x dx, H1 x = none → H1 dx = none → dx ≠ x → sp [.ref x, y] (upd (upd H1 dx (.own x)) x (.ins C dx [])) (fun v H2 => v = .non ∧ Q (.ref x) H2) E) :
    tMake C sp [] E (tCons te tNil) σ H Q := h
/-- kinds from LK, aeroplanes and lists from LB -/
def layOf (LK LB : Lay) (bk dxb kl : Addr) : Lay where
  ad
    | .book => bk
    | .kl => kl
    | .kd i => LK.ad (.kd i)
    | .km i => LK.ad (.km i)
    | .kn i => LK.ad (.kn i)
    | .ky i => LK.ad (.ky i)
    | r => LB.ad r
  dx
    | .book => dxb
    | .kd i => LK.dx (.kd i)
    | r => LB.dx r
def spStart (A : Ads) : Sp := fun vs H Q _ => ∃ (h dx rw : Addr) (v0 : V) (ns : List Nat), vs = [.ref h, .ref rw] ∧ H h = some (.ins A.c_Hangar dx (hangF v0)) ∧ H rw = some (.lst (nats ns)) ∧ ns.length % 12 = 0 ∧ ns.length ≤ 30000 ∧
  (ns.length / 12 < 1 ∨ 16 < ns.length / 12 → RetL [.int (-22)] H Q) ∧
  (¬ (ns.length / 12 < 1 ∨ 16 < ns.length / 12) → ∀ p L H', BookAt A L (M.new (kindsOf ns)) H' → Exm h H H' → H' h = some (.ins A.c_Hangar dx (hangF (.ref (L.ad .book)))) → (∀ r, okR (M.new (kindsOf ns)) r → H (L.ad r) = none) → H p = none → H' p = some (.lst [.int 0]) → Q (.ref p) H')
theorem rgc {n : Nat} (h1 : 1 ≤ n) (h2 : n ≤ 16) : RgC 0 ((n * 12 : Nat) : Int) ((12 : Nat) : Int) n := by
  have : n = 1 ∨ n = 2 ∨ n = 3 ∨ n = 4 ∨ n = 5 ∨ n = 6 ∨ n = 7 ∨ n = 8 ∨ n = 9 ∨ n = 10 ∨ n = 11 ∨ n = 12 ∨ n = 13 ∨ n = 14 ∨ n = 15 ∨ n = 16 := by omega
  rcases this with e | e | e | e | e | e | e | e | e | e | e | e | e | e | e | e <;> subst e <;> exact ⟨by decide, by decide, by decide, by decide⟩
section
variable {P : Program} {w : World} {K : PySem.W.Frag} {mg : Str → Option Value} {base : Heap} {A : Ads}
theorem ok_answer_start (T : Txt K mg A) : Ok P w K mg base CX0 6 "answer_start" A.f_answer_start ["hangar", "row"] (spStart A) := by
  have o_i_Book := ok_i_Book (P := P) (w := w) (base := base) T
  have o_i_Kind := ok_i_Kind (P := P) (w := w) (base := base) T
  refine T.F_f_answer_start.ok T.g_answer_start sc_f_answer_start (fun vs H Q E h => ?_) (fun _ _ _ _ _ _ us hl => match us, hl with | [_, _], _ => rfl) (fun fd cdv A0 outer s H vs Q E hr h => ?_)
  · obtain ⟨h, dx, rw, v0, ns, rfl, _⟩ := h
    rfl
  -- slots: 0 hangar, 1 row, 2 many, 3 at
  refine ⟨_, (pss_cons (ps_set (i := 2) sc_f_answer_start.nd rfl (Or.inl rfl) (pe_op op_fdiv (pe_callB call_len_seq (by rfl) T.n_len PySem.boot_len (pa_cons (pv 1) pa_nil)) (pe_gint rfl T.g_KIND_NUMBERS)))
    (pss_cons (ps_if (PW.pt (pw_or (pt_cmpR op_lt (pv 2) pe_int (nomark _)) (pw_or1 (pt_cmpR op_gt (pv 2) (pe_gint rfl T.g_MOST_KINDS) (nomark _))))) (pss_one (ps_ret (pe_lst (pa_cons (pe_gint rfl T.g_WRONG) pa_nil)))) pss_nil)
    (pss_cons (ps_fld (pv 0) (pe_makeO o_i_Book T.mk_Book T.g_Book (hr.mono (by decide)) pass0 rfl (pa_cons (pe_lc (own := [("at", 3)]) (g := gName 3) (tt := tYes) (te := tMake A.c_Kind (spKind A K) [] E0 (tCons (tSl (rSlL K) (tVar 1) (tPart (tVar 3)) (tPart (tOp (rI0 fun i j => .int (i + j)) (tVar 3) (tC (.int 12))))) tNil)) rfl sc_f_answer_start.nd (pi_range3 (by rfl) T.n_range (pa_cons pe_int (pa_cons (pe_callB call_len_seq (by rfl) T.n_len PySem.boot_len (pa_cons (pv 1) pa_nil)) (pa_cons (pe_gint rfl T.g_KIND_NUMBERS) pa_nil)))) (blkOk_by (N := ["hangar", "row", "many", "at"]) (sc := defScope s_f_answer_start) (by decide +kernel)) (fun _ _ _ _ _ => pg_name (i := 3) sc_f_answer_start.nd rfl (Or.inl rfl)) (fun _ _ _ _ _ => by exact pts_nil) (fun _ _ _ _ _ => by exact (pe_makeO o_i_Kind T.mk_Kind T.g_Kind (hr.mono (by decide)) pass0 rfl (pa_cons (pe_slice sl_list (pv 1) (po_some (pv 3)) (po_some (pe_op op_add (pv 3) (pe_gint rfl T.g_KIND_NUMBERS)))) pa_nil)))) pa_nil)) rfl)
    (pss_one (ps_ret (pe_lst (pa_cons pe_int pa_nil))))))), ?_⟩
  obtain ⟨h, dx, rw, v0, ns, rfl, hh, hrw, h12, hlen, kE, kS⟩ := h
  have hlv : (nats ns).length = ns.length := nats_len ns
  have q0 := ev_lenL (K := K) (σ := [some (.ref h), some (.ref rw), none, none]) (ev_var (i := 1) rfl) hrw
  rw [hlv] at q0
  refine q_asg (ev_in (j := ((ns.length / 12 : Nat) : Int)) (ev_div q0 ev_c ⟨by decide, by decide⟩) (by omega)) fun H1 e1 => ?_
  refine q_when (b := decide (ns.length / 12 < 1 ∨ 16 < ns.length / 12)) (et_is (et_or (et_test (ev_lt (ev_var rfl) ev_c)) fun _ => et_test (ev_gt (ev_var rfl) ev_c)) ?_) (fun hb H2 e2 => ?_) (fun hb H2 e2 => ?_)
  · rw [Bool.eq_iff_iff]
    simp only [Bool.or_eq_true, decide_eq_true_eq]
    omega
  · exact s_retL (el_lst (ea_cons ev_c ea_nil) (by show 1 ≤ 100000; decide)) fun p H3 hp e3 h3 => kE (of_decide_eq_true hb) p H3 (fresh_back (e1.trans e2) hp) ((e1.trans e2).trans e3) h3
  have hn := of_decide_eq_false hb
  generalize hN : ns.length / 12 = N at *
  have hN1 : 1 ≤ N := by omega
  have hN2 : N ≤ 16 := by omega
  have e12 := e1.trans e2
  have hrw2 := e12 _ _ hrw
  have q2 := ev_lenL (K := K) (σ := [some (.ref h), some (.ref rw), some (.int (N : Int)), none]) (ev_var (i := 1) rfl) hrw2
  rw [hlv] at q2
  refine q_fldR (mkA1 (lcR3 (n := N) (c := 12) (ea_cons ev_c (ea_cons (ev_in (j := ((N * 12 : Nat) : Int)) q2 (by omega)) (ea_cons ev_c ea_nil))) (by decide) (by omega) (fun _ => rfl) (fun H3 e3 Dl hD => ⟨fun j H' => ∃ L : Lay, Rep (okK j) (obj A L (M.new (kindsOf ns))) L H3 H' ∧ Ex H3 H' ∧ H' Dl = some (.lst (refsOf (fun i => L.ad (.kd i)) j)) ∧ ∀ s, okK j s → L.ad s ≠ Dl,
    ⟨⟨fun _ => 0, fun _ => 0⟩, (Rep.none H3 _ _ _).imp fun s h => (by cases s <;> first | exact h.elim | exact absurd h (Nat.not_lt_zero _)), Ex.new hD, upd_same, fun s h => (by cases s <;> first | exact h.elim | exact absurd h (Nat.not_lt_zero _))⟩, fun j H' hj q => ?_, fun H' q => ?_⟩) (rgc hN1 hN2)))
  · obtain ⟨L, R, e4, d4, nD⟩ := q
    have hrw4 := e4 _ _ (e3 _ _ hrw2)
    have hc12 : (chunkAt ns j).length = 12 := by unfold chunkAt; rw [List.length_take, List.length_drop]; omega
    refine (EvL.to (el_sl (K := K) (te := tVar 1) (tl := tPart (tVar 3)) (th := tPart (tOp (rI0 fun i j => .int (i + j)) (tVar 3) (tC (.int 12)))) (σ := [some (.ref h), some (.ref rw), some (.int (N : Int)), some (.int ((j * 12 : Nat) : Int))]) (ev_var rfl) (eo_some (ev_var rfl)) (eo_some (ev_in (j := ((j * 12 + 12 : Nat) : Int)) (ev_add (ev_var rfl) ev_c) (by omega))) (sq_of hrw4))
      (show _ = nats (chunkAt ns j) from (cut_nat (i := j * 12) (j := j * 12 + 12) (by rw [hlv]; omega) (by omega)).trans (by rw [show j * 12 + 12 - j * 12 = 12 by omega]; exact nats_cut ns (j * 12) 12))) H' (Ex.refl H') _ fun l H5 hl e5 h5 => ?_
    intro x dxx nx nd ne
    have up : ∀ {b : Addr} {o : HO}, H5 b = some o → upd (upd H5 dxx (.own x)) x (.ins A.c_Kind dxx []) b = some o := fun {b o} h => by rw [upd_ne (ne_of_none h nx), upd_ne (ne_of_none h nd)]; exact h
    refine ⟨x, dxx, l, chunkAt ns j, rfl, upd_same, sq_of (up h5), ne_of_none h5 nx, hc12, fun H6 a b c na nb nc ab ac bc fa fb fc fx ex => ⟨rfl, refsOf (fun i => L.ad (.kd i)) j, ?_, by rw [refs_len]; exact sz_lt (by omega), ?_⟩⟩
    · exact ex _ _ (up (e5 _ _ d4)) (ne_of_none (e5 _ _ d4) nx)
    · have up' : ∀ {b : Addr} {o : HO}, H' b = some o → upd (upd H5 dxx (.own x)) x (.ins A.c_Kind dxx []) b = some o := fun {b o} h => up (e5 _ _ h)
      have ofn : ∀ {z : Addr}, upd (upd H5 dxx (.own x)) x (.ins A.c_Kind dxx []) z = none → ∀ s, okK j s → L.ad s ≠ z := fun {z} nz s h => ne_of_none (up' (R.at_ s h)) nz
      have xo : ∀ s, okK j s → L.ad s ≠ x := fun s h => ne_of_none (e5 _ _ (R.at_ s h)) nx
      have xn : ∀ {z : Addr}, upd (upd H5 dxx (.own x)) x (.ins A.c_Kind dxx []) z = none → x ≠ z := fun {z} nz => ne_of_none upd_same nz
      have zD : ∀ {z : Addr}, upd (upd H5 dxx (.own x)) x (.ins A.c_Kind dxx []) z = none → z ≠ Dl := fun {z} nz => (ne_of_none (up' d4) nz).symm
      have xD : x ≠ Dl := (ne_of_none (e5 _ _ d4) nx).symm
      have n3 : ∀ {z : Addr}, upd (upd H5 dxx (.own x)) x (.ins A.c_Kind dxx []) z = none → H3 z = none := fun {z} nz => Same.free (fun b o q => up' (e4 b o q)) nz
      refine ⟨L.kind j x dxx a b c, rep_kind (R.keep fun s hs => ?_) (by omega) (Same.free (fun b o q => e5 _ _ (e4 b o q)) nx) (n3 na) (n3 nb) (n3 nc) xo (ofn na) (ofn nb) (ofn nc) (xn na) (xn nb) (xn nc) ab ac bc
        (by rw [upd_ne xD]; exact fx) (by rw [upd_ne (zD na)]; exact fa) (by rw [upd_ne (zD nb)]; exact fb) (by rw [upd_ne (zD nc)]; exact fc), ?_, ?_, fun s hs => ?_⟩
      · rw [upd_ne (nD s hs), R.at_ s hs]
        exact ex _ _ (up' (R.at_ s hs)) (xo s hs)
      · exact Ex.mut (fun b o q => ex b o (up' (e4 b o q)) (ne_of_none (e5 _ _ (e4 b o q)) nx)) hD
      · rw [upd_same, refs_succ]
        congr 3
        · exact refs_congr fun i hi => (if_neg (Nat.ne_of_lt hi)).symm
        · show [V.ref x] = [V.ref (if j = j then x else _)]
          rw [if_pos rfl]
      · cases s with
        | kd i =>
          show (if i = j then x else L.ad (.kd i)) ≠ Dl
          by_cases z : i = j
          · rw [if_pos z]; exact xD
          · rw [if_neg z]; exact nD (.kd i) (show i < j by have : i < j + 1 := hs; omega)
        | km i =>
          show (if i = j then a else L.ad (.km i)) ≠ Dl
          by_cases z : i = j
          · rw [if_pos z]; exact zD na
          · rw [if_neg z]; exact nD (.km i) (show i < j by have : i < j + 1 := hs; omega)
        | kn i =>
          show (if i = j then b else L.ad (.kn i)) ≠ Dl
          by_cases z : i = j
          · rw [if_pos z]; exact zD nb
          · rw [if_neg z]; exact nD (.kn i) (show i < j by have : i < j + 1 := hs; omega)
        | ky i =>
          show (if i = j then c else L.ad (.ky i)) ≠ Dl
          by_cases z : i = j
          · rw [if_pos z]; exact zD nc
          · rw [if_neg z]; exact nD (.ky i) (show i < j by have : i < j + 1 := hs; omega)
        | _ => exact hs.elim
  · obtain ⟨LK, R, e4, d4, nD⟩ := q
    intro bk dxb nx nd ne
    have up : ∀ {b : Addr} {o : HO}, H' b = some o → upd (upd H' dxb (.own bk)) bk (.ins A.c_Book dxb []) b = some o := fun {b o} h => by rw [upd_ne (ne_of_none h nx), upd_ne (ne_of_none h nd)]; exact h
    refine ⟨bk, dxb, Dl, rfl, upd_same, fun H5 LB RB fb ex => ⟨rfl, ?_⟩⟩
    have e3' := e12.trans e3
    have e34 := e3'.trans e4
    have hh5 : H5 h = some (.ins A.c_Hangar dx (hangF v0)) := ex _ _ (up (e34 _ _ hh)) (ne_of_none (e34 _ _ hh) nx)
    refine ev_var (i := 0) (v := .ref h) rfl H5 (Ex.refl H5) _ fun H6 e6 => ⟨h, A.c_Hangar, dx, _, rfl, e6 _ _ hh5, T.cl_Hangar, T.na_Hangar_book, by show 1 < 1000; decide, ?_⟩
    refine s_retL (el_lst (ea_cons ev_c ea_nil) (by show 1 ≤ 100000; decide)) fun p H7 hp e7 h7 => ?_
    -- the whole book
    have kp : ∀ {b : Addr} {o : HO}, H5 b = some o → b ≠ h → H7 b = some o := fun {b o} q n => e7 _ _ (by rw [upd_ne n]; exact e6 _ _ q)
    have knh : ∀ {b : Addr}, H b = none → b ≠ h := fun {b} q z => by rw [z, hh] at q; cases q
    have RK : Rep (okK N) (obj A (layOf LK LB bk dxb Dl) (M.new (kindsOf ns))) (layOf LK LB bk dxb Dl) H H7 := by
      have r1 : Rep (okK N) (obj A LK (M.new (kindsOf ns))) LK H H7 := ⟨fun r hr => kp (ex _ _ (up (R.at_ r hr)) (ne_of_none (R.at_ r hr) nx)) (knh (Same.free (fun b o q => e3' b o q) (R.new r hr))), R.inj, fun r hr => Same.free (fun b o q => e3' b o q) (R.new r hr)⟩
      refine r1.re fun s hs => ?_
      cases s with
      | kd j => exact ⟨rfl, rfl⟩
      | km j => exact ⟨rfl, rfl⟩
      | kn j => exact ⟨rfl, rfl⟩
      | ky j => exact ⟨rfl, rfl⟩
      | _ => exact hs.elim
    have nB : ∀ r, okB r → H (LB.ad r) = none := fun r hr => Same.free (fun b o q => up (e34 b o q)) ((RB (kindsOf ns)).new r hr)
    have RBB : Rep okB (obj A (layOf LK LB bk dxb Dl) (M.new (kindsOf ns))) (layOf LK LB bk dxb Dl) H H7 := by
      have r1 : Rep okB (obj A LB (M.new (kindsOf ns))) LB H H7 := ⟨fun r hr => kp ((RB (kindsOf ns)).at_ r hr) (knh (nB r hr)), (RB (kindsOf ns)).inj, nB⟩
      refine r1.re fun s hs => ?_
      cases s with
      | pl => exact ⟨rfl, rfl⟩
      | al => exact ⟨rfl, rfl⟩
      | an j => exact ⟨rfl, rfl⟩
      | af j => exact ⟨rfl, rfl⟩
      | _ => exact hs.elim
    have adK : ∀ s, okK N s → (layOf LK LB bk dxb Dl).ad s = LK.ad s := fun s hs => by cases s <;> first | rfl | exact hs.elim
    have adB : ∀ s, okB s → (layOf LK LB bk dxb Dl).ad s = LB.ad s := fun s hs => by cases s <;> first | rfl | exact hs.elim
    have R2 := RK.union RBB fun r s hr hs => by
      rw [adK r hr, adB s hs]
      exact ne_of_none (up (R.at_ r hr)) ((RB (kindsOf ns)).new s hs)
    have R3 := R2.add .kl (fun s hs => by
      rcases hs with hs | hs
      · rw [adK s hs]; exact nD s hs
      · rw [adB s hs]; exact (ne_of_none (up d4) ((RB (kindsOf ns)).new s hs)).symm) (Same.free (fun b o q => e3' b o q) hD) (by
      show H7 Dl = some (HO.lst (refsOf (fun i => LK.ad (.kd i)) (kindsOf ns).length))
      rw [kindsOf_len, hN]
      exact kp (ex _ _ (up d4) (ne_of_none d4 nx)) (knh (Same.free (fun b o q => e3' b o q) hD)))
    have R4 := R3.add .book (fun s hs => by
      rcases hs with (hs | hs) | hs
      · rw [adK s hs]; exact ne_of_none (R.at_ s hs) nx
      · rw [adB s hs]; exact fun z => by have := (RB (kindsOf ns)).new s hs; rw [show LB.ad s = bk from z, upd_same] at this; cases this
      · rw [hs]; exact ne_of_none d4 nx) (Same.free (fun b o q => e34 b o q) nx) (by
      show H7 bk = some (HO.ins A.c_Book dxb _)
      rw [kp fb (knh (Same.free (fun b o q => e34 b o q) nx))]
      rfl)
    have okE : ∀ r, okR (M.new (kindsOf ns)) r → (((okK N r ∨ okB r) ∨ r = .kl) ∨ r = .book) := fun r hr => by
      have hk : (M.new (kindsOf ns)).kinds.length = N := by show (kindsOf ns).length = N; rw [kindsOf_len, hN]
      have hp0 : (M.new (kindsOf ns)).parts.length = 0 := rfl
      have ha16 : (M.new (kindsOf ns)).planes.length = 16 := by unfold M.new; simp
      cases r with
      | book => exact .inr rfl
      | kl => exact .inl (.inr rfl)
      | pl => exact .inl (.inl (.inr trivial))
      | al => exact .inl (.inl (.inr trivial))
      | kd i => exact .inl (.inl (.inl (show i < N by rw [← hk]; exact hr)))
      | km i => exact .inl (.inl (.inl (show i < N by rw [← hk]; exact hr)))
      | kn i => exact .inl (.inl (.inl (show i < N by rw [← hk]; exact hr)))
      | ky i => exact .inl (.inl (.inl (show i < N by rw [← hk]; exact hr)))
      | pt i => exact absurd (show i < 0 from hr) (Nat.not_lt_zero _)
      | pm i => exact absurd (show i < 0 from hr) (Nat.not_lt_zero _)
      | pn i => exact absurd (show i < 0 from hr) (Nat.not_lt_zero _)
      | py i => exact absurd (show i < 0 from hr) (Nat.not_lt_zero _)
      | an j => exact .inl (.inl (.inr (show j < 16 by rw [← ha16]; exact hr)))
      | af j => exact .inl (.inl (.inr (show j < 16 by rw [← ha16]; exact hr)))
    refine kS hn p (layOf LK LB bk dxb Dl) H7 ⟨fun r hr => R4.at_ r (okE r hr), fun r s hr hs => R4.inj r s (okE r hr) (okE s hs)⟩ (fun b o q n => ?_) ?_ (fun r hr => R4.new r (okE r hr)) ?_ h7
    · exact kp (ex _ _ (up (e34 _ _ q)) (ne_of_none (e34 _ _ q) nx)) n
    · refine e7 _ _ ?_
      rw [upd_same]
      congr 2
    · refine Same.free (H' := H') (fun b o q => e34 b o q) ?_
      cases z : H' p with
      | none => rfl
      | some o =>
        by_cases q : p = h
        · rw [q, upd_same] at hp; cases hp
        · rw [upd_ne q, e6 _ _ (ex _ _ (up z) (ne_of_none z nx))] at hp; cases hp
end
end FBW
namespace FBW
open PySem PySem.Spec PyProof.Rows L2 Evl FB
def ar : Nat → Nat
  | 1 => 2 | 2 => 3 | 3 => 2 | 4 => 3 | 5 => 3 | 6 => 3 | 7 => 3 | 8 => 2 | _ => 1
def fK : Nat → M → List Nat → Option Deed
  | 1 => f2 doPart | 2 => f3 doPut | 3 => f2 doTake | 4 => f3 doDid | 5 => f3 doGo | 6 => f3 doBars | 7 => f3 doFlew | 8 => f2 doLeft | _ => f1 doOf
def aK (A : Ads) : Nat → Addr
  | 1 => A.f_do_part | 2 => A.f_do_put | 3 => A.f_do_take | 4 => A.f_do_did | 5 => A.f_do_go | 6 => A.f_do_bars | 7 => A.f_do_flew | 8 => A.f_do_left | _ => A.f_do_of
def SD (A : Ads) : Addr → Sp → Prop := fun f sp => ∃ k, 1 ≤ k ∧ k ≤ 9 ∧ f = aK A k ∧ sp = spDeed A (fK k)
theorem nine {k : Nat} (h1 : 1 ≤ k) (h2 : k ≤ 9) : k = 1 ∨ k = 2 ∨ k = 3 ∨ k = 4 ∨ k = 5 ∨ k = 6 ∨ k = 7 ∨ k = 8 ∨ k = 9 := by omega
def TB (A : Ads) : WX → TS := fun W => tAsg (tCallAX 4 (SD A) (WE W) (tCons (tVar 0) (tCons (tVar 5) tNil))) (gName 6)
def TSU (A : Ads) : Addr → Value → Option Addr → TS := fun a cls d => tRet (tLst (tCons (tByLow A.c_Refused a cls d (tVar 7)) tNil))
def spAnswer (A : Ads) : Sp := fun vs H Q _ => ∃ (L : Lay) (m : M) (c k : Nat) (ta dx tn : Addr) (ns : List Int) (i : Nat) (r : Deed), vs = [.ref (L.ad .book), .int (k : Int), .ref ta] ∧ BookAt A L m H ∧ FB.Good c m ∧ c ≤ 1000 ∧ 1 ≤ k ∧ k ≤ 9 ∧
  TapeAt A H ta dx tn ns i ∧ i + ar k ≤ ns.length ∧ (∀ z ∈ (ns.drop i).take (ar k), 0 ≤ z) ∧ (∀ r, okR m r → L.ad r ≠ ta) ∧ (∀ r, okR m r → L.ad r ≠ tn) ∧ fK k m (((ns.drop i).take (ar k)).map Int.toNat) = some r ∧
  (∀ n, r = .error n → ∀ p H', Exm ta H H' → TapeAt A H' ta dx tn ns (i + ar k) → BookAt A L m H' → H p = none → H' p = some (.lst [.int n]) → Q (.ref p) H') ∧
  (∀ m' out, r = .ok (m', out) → ∀ p L' H', BookAt A L' m' H' → (∀ b o, H b = some o → b ≠ ta → (∀ r, okR m r → L.ad r ≠ b) → H' b = some o) → (∀ r, okR m' r → (okR m r ∧ L'.ad r = L.ad r) ∨ H (L'.ad r) = none) → L'.ad .book = L.ad .book →
    TapeAt A H' ta dx tn ns (i + ar k) → H p = none → H' p = some (.lst (zs out)) → Q (.ref p) H')
theorem zs_nats {l : List Int} (h : ∀ z ∈ l, 0 ≤ z) : zs l = nats (l.map Int.toNat) := by
  unfold zs nats
  rw [List.map_map]
  apply List.map_congr_left
  intro z hz
  show V.int z = V.int ((z.toNat : Nat) : Int)
  rw [Int.toNat_of_nonneg (h z hz)]
section
variable {K : PySem.W.Frag} {σ : L2.St} {H : Hp} {te : TE} {tA : TA} {D : Ends} {tz : TS} {E : XK} {sp : Sp} {C dx a : Addr} {fs : List (Str × V)} {me : Str} {vs : List V}
theorem q_meth1 {i : Nat} (ha : Ev te σ H (.ref a)) (ho : H a = some (.ins C dx fs)) (hl : fs.lookup me = none) (hv : EvA tA σ H vs) (k : ∀ H1, Ex H H1 → sp (.ref a :: (vs ++ [])) H1 (fun v H2 => tz D (σ.set i (some v)) H2) E) :
    tSeq (tAsg (tMeth C me sp [] E te tA) (gName i)) tz D σ H :=
  show te σ H fun x H1 => ∃ a dx fs, x = .ref a ∧ H1 a = some (.ins C dx fs) ∧ fs.lookup me = none ∧ tA σ H1 fun vs H2 => sp (x :: (vs ++ [])) H2 (fun v H2 => tz D (σ.set i (some v)) H2) E from
  ha H (Ex.refl H) _ fun H1 e1 => ⟨a, dx, fs, rfl, e1 _ _ ho, hl, hv H1 e1 _ fun H2 e2 => k H2 (e1.trans e2)⟩
end
section
variable {P : Program} {w : World} {K : PySem.W.Frag} {mg : Str → Option Value} {base : Heap} {A : Ads}
theorem Ok.held {CX : CXT} {k : Nat} {x : Str} {f : Addr} {ps : List Str} {sp : Sp} (O : Ok P w K mg base CX k x f ps sp) : HeldX P w K mg base CX k f sp := by
  obtain ⟨fd, F, hb, hk⟩ := O.ex
  exact ⟨fd, ps, F, hk, hb⟩
theorem heldD (T : Txt K mg A) : ∀ f sp, SD A f sp → HeldX P w K mg base (L2.CX P w) 6 f sp := by
  rintro f sp ⟨k, h1, h2, rfl, rfl⟩
  rcases nine h1 h2 with e | e | e | e | e | e | e | e | e <;> subst e
  · exact (ok_do_part T).held
  · exact (ok_do_put T).held
  · exact (ok_do_take T).held
  · exact (ok_do_did T).held
  · exact (ok_do_go T).held
  · exact (ok_do_bars T).held
  · exact (ok_do_flew T).held
  · exact (ok_do_left T).held
  · exact (ok_do_of T).held
theorem deeds_at (T : Txt K mg A) {k : Nat} (h1 : 1 ≤ k) (h2 : k ≤ 9) : ∃ d, KDctI K A.D (k : Int) (.ref d) ∧ ∀ H, SqT K H d [.int (ar k : Nat), .ref (aK A k)] := by
  rcases nine h1 h2 with e | e | e | e | e | e | e | e | e <;> subst e
  · exact ⟨_, T.dd1, T.dt1⟩
  · exact ⟨_, T.dd2, T.dt2⟩
  · exact ⟨_, T.dd3, T.dt3⟩
  · exact ⟨_, T.dd4, T.dt4⟩
  · exact ⟨_, T.dd5, T.dt5⟩
  · exact ⟨_, T.dd6, T.dt6⟩
  · exact ⟨_, T.dd7, T.dt7⟩
  · exact ⟨_, T.dd8, T.dt8⟩
  · exact ⟨_, T.dd9, T.dt9⟩
theorem ok_answer (T : Txt K mg A) : Ok P w K mg base CX0 7 "answer" A.f_answer ["book", "call", "tape"] (spAnswer A) := by
  have hD := heldD (P := P) (w := w) (base := base) T
  have o_m_take_many := ok_m_take_many (P := P) (w := w) (base := base) T
  refine T.F_f_answer.ok T.g_answer sc_f_answer (fun vs H Q E h => ?_) (fun _ _ _ _ _ _ us hl => match us, hl with | [_, _, _], _ => rfl) (fun fd cdv A0 outer s H vs Q E hr h => ?_)
  · obtain ⟨L, m, c, k, ta, dx, tn, ns, i, r, rfl, _⟩ := h
    rfl
  -- slots: 0 book, 1 call, 2 tape, 3 many, 4 deed, 5 numbers, 6 found, 7 refused
  refine ⟨_, (pss_cons (ps_asg (pe_ix ix_kdictI (pe_gref rfl T.gD) (pv 1) (fun _ _ => rfl)) (pg_tup rfl (pgs_cons (pg_name (i := 3) sc_f_answer.nd rfl (Or.inl rfl)) (pgs_cons (pg_name (i := 4) sc_f_answer.nd rfl (Or.inl rfl)) pgs_nil))))
    (pss_cons (ps_set (i := 5) sc_f_answer.nd rfl (Or.inl rfl) (pe_methO o_m_take_many T.cl_Tape T.me_take_many (hr.mono (by decide)) pass0 (pv 2) (pa_cons (pv 3) pa_nil)))
    (pss_cons (ps_try_as (i := 7) (tb := TB A) (ts := TSU A) (Wout := fun _ _ _ _ => False) rfl rfl sc_f_answer.nd rfl rfl ⟨rfl, by decide, Or.inl T.low.gC⟩ takes0
      (fun W pn xe tk _ => (pss_one (ps_set (i := 6) sc_f_answer.nd rfl (Or.inl rfl) (pe_callAX (i := 4) hD (hr.mono (by decide)) rfl (Or.inl rfl) (fun σ => passAt tk σ) (by exact (pa_cons (pv 0) (pa_cons (pv 5) pa_nil)))))))
      (fun a oe cls d pn hz hf => (pss_one (ps_ret (pe_lst (pa_cons (pe_byLow T.low hz hf (pv 7)) pa_nil))))))
    (pss_one (ps_ret (pv 6)))))), ?_⟩
  obtain ⟨L, m, c, k, ta, dx, tn, ns, i, r, rfl, b, g, hc, h1, h2, t, hlen, hpos, nta, ntn, hf, kE, kS⟩ := h
  obtain ⟨d, hdk, hdt⟩ := deeds_at T h1 h2
  have har : ar k ≤ 3 := by rcases nine h1 h2 with e | e | e | e | e | e | e | e | e <;> subst e <;> decide
  refine q_unt2 (ev_ixDI ev_c (ev_var rfl) hdk) (hdt H) fun H1 e1 => ?_
  have t1 := t.mono e1
  have b1 := b.mono e1
  refine q_meth1 (ev_var rfl) t1.o tF_many (ea_cons (ev_var rfl) ea_nil) fun H2 e2 => ⟨ta, dx, tn, ns, i, ar k, rfl, t1.mono e2, hlen, by omega, fun nl H3 x3 t3 hnl h3 => ?_⟩
  have b2 := b1.mono e2
  have e12 := e1.trans e2
  have b3 : BookAt A L m H3 := ⟨fun s hs => x3 _ _ (b2.ob s hs) (nta s hs), b2.inj⟩
  rw [zs_nats hpos] at h3
  have x03 : Exm ta H H3 := fun q o h ne => x3 q o (e12 q o h) ne
  have n03 : ∀ {q : Addr}, H3 q = none → H q = none := fun {q} h => none_at x03 t3.o h
  refine ⟨aK A k, spDeed A (fK k), rfl, ⟨k, h1, h2, rfl, rfl⟩, (ea_cons (ev_var rfl) (ea_cons (ev_var rfl) ea_nil) : EvA (tCons (tVar 0) (tCons (tVar 5) tNil)) [some (.ref (L.ad .book)), some (.int (k : Int)), some (.ref ta), some (.int (ar k : Nat)), some (.ref (aK A k)), some (.ref nl), none, none] H3 [.ref (L.ad .book), .ref nl]) H3 (Ex.refl H3) _ fun H4 e4 => ?_⟩
  have b4 := b3.mono e4
  refine ⟨L, m, c, nl, _, r, rfl, b4, g, hc, e4 _ _ h3, hf, fun n hn dd H5 e5 hd5 => ?_, fun m' out hm p L' H5 p5 n5 h5 => ?_⟩
  · refine ⟨true, T.te, fun _ a ha => ?_, fun q => nomatch q⟩
    refine ⟨.ref a, rfl, rfl, rfl, dd, .int n, rfl, hd5, (by show 1 ≤ sizeLine; decide), fun p hp => ?_⟩
    have x6 : Exm ta H (upd H5 p (.lst [.int n])) := (x03.ex (e4.trans e5)).ex (Ex.new hp)
    exact kE n hn p _ x6 ((t3.mono (e4.trans e5)).mono (Ex.new hp)) ((b4.mono e5).mono (Ex.new hp)) (n03 (fresh_back (e4.trans e5) hp)) upd_same
  · refine ⟨_, rfl, ?_⟩
    refine kS m' out hm p L' H5 p5.at_ (fun q o h ne hq => p5.fr q o (e4 _ _ (x03 q o h ne)) hq) (fun s hs => ?_) p5.bk ⟨p5.fr _ _ (e4 _ _ t3.o) nta, p5.fr _ _ (e4 _ _ t3.l) ntn⟩ (n03 (fresh_back e4 n5)) h5
    rcases p5.new s hs with q | q
    · exact .inl q
    · exact .inr (n03 (Same.free (fun b o z => e4 b o z) q))
end
end FBW
/-! The specification's own play of a line, call by call, over the mirror. -/
namespace FBW
open PySem PySem.Spec PyProof.Rows L2 Evl FB
theorem whole_is (c : List (List Int)) : PyKm354.whole c = c := by
  unfold PyKm354.whole
  split <;> rfl
theorem map_whole (l : List (List (List Int))) : l.map PyKm354.whole = l := by
  induction l with
  | nil => rfl
  | cons c l ih => rw [List.map_cons, whole_is, ih]
def told (s : Km354Neutral.S) (cs : List (List (List Int))) : List Int := PyFlat.told (PyFlat.played Km354Neutral.step s cs)
theorem told_nil (s : Km354Neutral.S) : told s [] = [] := rfl
theorem told_cons (s : Km354Neutral.S) (c : List (List Int)) (cs : List (List (List Int))) : told s (c :: cs) = (((Km354Neutral.step s c).2.length : Int) :: (Km354Neutral.step s c).2) ++ told (Km354Neutral.step s c).1 cs := rfl
/-- what is asked of the calls that are left -/
structure Left (s : Km354Neutral.S) (f : Nat) (l : List Int) (cs : List (List (List Int))) : Prop where
  calls : PyFlat.calls PyKm354.shape f l = some cs
  may : Km354Neutral.may s cs = true
  asked : ∀ c ∈ cs, Km354Neutral.asked1 c = true
  bound : ∀ c ∈ cs, PyInside.call PyKm354.bound c = true
theorem answers_told {l : List Int} (h : PyKm354.answers_asked l = true) : ∃ cs, Left none l.length l cs ∧ cs.length ≤ 1000 ∧ PyKm354.answers l = told none cs := by
  unfold PyKm354.answers_asked at h
  cases e : PyFlat.calls PyKm354.shape l.length l with
  | none => rw [e] at h <;> cases h
  | some raw =>
    rw [e] at h
    have h' : (!raw.isEmpty && PyFlat.atMost 1000 raw && PyInside.calls PyKm354.bound raw && Km354Neutral.asked (raw.map PyKm354.whole) && PyFlat.short 10000000 (PyKm354.answers l)) = true := h
    rw [map_whole] at h'
    obtain ⟨⟨⟨⟨_, h1⟩, h2⟩, h3⟩, _⟩ := (by simpa only [Bool.and_eq_true] using h')
    unfold PyFlat.atMost at h1
    unfold PyInside.calls at h2
    unfold Km354Neutral.asked at h3
    simp only [Bool.and_eq_true, decide_eq_true_eq, List.all_eq_true] at h1 h2 h3
    refine ⟨raw, ⟨e, h3.2.2.2, h3.2.2.1, h2⟩, h1, ?_⟩
    unfold PyKm354.answers PyKm354.calls
    rw [e]
    show PyFlat.told (PyFlat.played Km354Neutral.step Km354Neutral.start (raw.map PyKm354.whole)) = _
    rw [map_whole]
    rfl
theorem left_end {s : Km354Neutral.S} {f : Nat} {cs : List (List (List Int))} (h : Left s f [] cs) : cs = [] := by
  have e := h.calls
  cases f <;> exact (Option.some.inj e).symm
/-- the next call -/
theorem left_next {s : Km354Neutral.S} {f : Nat} {z : Int} {r : List Int} {cs : List (List (List Int))} (h : Left s f (z :: r) cs) : ∃ f' c t cs', f = f' + 1 ∧ cs = c :: cs' ∧ PyFlat.call PyKm354.shape (z :: r) = some (c, t) ∧
    Left (Km354Neutral.step s c).1 f' t cs' ∧ (Km354Neutral.step s c).2.isEmpty = false ∧ Km354Neutral.asked1 c = true ∧ PyInside.call PyKm354.bound c = true := by
  have e := h.calls
  cases f with
  | zero => cases e
  | succ f =>
    have e' : (match PyFlat.call PyKm354.shape (z :: r) with | none => none | some (c, t) => match PyFlat.calls PyKm354.shape f t with | none => none | some cs => some (c :: cs)) = some cs := e
    cases e1 : PyFlat.call PyKm354.shape (z :: r) with
    | none => rw [e1] at e'; cases e'
    | some p =>
      obtain ⟨c, t⟩ := p
      rw [e1] at e'
      have e'' : (match PyFlat.calls PyKm354.shape f t with | none => none | some cs => some (c :: cs)) = some cs := e'
      cases e2 : PyFlat.calls PyKm354.shape f t with
      | none => rw [e2] at e''; cases e''
      | some cs' =>
        rw [e2] at e''
        have e3 := (Option.some.inj e'').symm
        subst e3
        have hm := h.may
        have hm' : (!((Km354Neutral.step s c).2.isEmpty) && Km354Neutral.may (Km354Neutral.step s c).1 cs') = true := hm
        simp only [Bool.and_eq_true, Bool.not_eq_true'] at hm'
        exact ⟨f, c, t, cs', rfl, rfl, rfl, ⟨e2, hm'.2, fun x hx => h.asked x (List.mem_cons_of_mem _ hx), fun x hx => h.bound x (List.mem_cons_of_mem _ hx)⟩, hm'.1, h.asked c List.mem_cons_self, h.bound c List.mem_cons_self⟩
theorem shape_pos {z : Int} {p : Nat × Nat} (h : PyKm354.shape z = some p) : z = 0 ∧ p = (0, 1) ∨ ∃ k : Nat, z = (k : Int) ∧ 1 ≤ k ∧ k ≤ 9 ∧ p = (ar k, 0) := by
  unfold PyKm354.shape at h
  by_cases h0 : z = 0
  · rw [if_pos h0] at h; exact .inl ⟨h0, (Option.some.inj h).symm⟩
  rw [if_neg h0] at h
  refine .inr ?_
  by_cases h1 : z = 1
  · rw [if_pos h1] at h; exact ⟨1, h1, by decide, by decide, (Option.some.inj h).symm⟩
  rw [if_neg h1] at h
  by_cases h2 : z = 2
  · rw [if_pos h2] at h; exact ⟨2, h2, by decide, by decide, (Option.some.inj h).symm⟩
  rw [if_neg h2] at h
  by_cases h3 : z = 3
  · rw [if_pos h3] at h; exact ⟨3, h3, by decide, by decide, (Option.some.inj h).symm⟩
  rw [if_neg h3] at h
  by_cases h4 : z = 4
  · rw [if_pos h4] at h; exact ⟨4, h4, by decide, by decide, (Option.some.inj h).symm⟩
  rw [if_neg h4] at h
  by_cases h5 : z = 5
  · rw [if_pos h5] at h; exact ⟨5, h5, by decide, by decide, (Option.some.inj h).symm⟩
  rw [if_neg h5] at h
  by_cases h6 : z = 6
  · rw [if_pos h6] at h; exact ⟨6, h6, by decide, by decide, (Option.some.inj h).symm⟩
  rw [if_neg h6] at h
  by_cases h7 : z = 7
  · rw [if_pos h7] at h; exact ⟨7, h7, by decide, by decide, (Option.some.inj h).symm⟩
  rw [if_neg h7] at h
  by_cases h8 : z = 8
  · rw [if_pos h8] at h; exact ⟨8, h8, by decide, by decide, (Option.some.inj h).symm⟩
  rw [if_neg h8] at h
  by_cases h9 : z = 9
  · rw [if_pos h9] at h; exact ⟨9, h9, by decide, by decide, (Option.some.inj h).symm⟩
  rw [if_neg h9] at h
  cases h
/-- how a call lies in the line: ft_start's row has its length ahead; the others their numbers alone -/
theorem call_cases {z : Int} {r : List Int} {c : List (List Int)} {t : List Int} (h : PyFlat.call PyKm354.shape (z :: r) = some (c, t)) :
    (z = 0 ∧ ∃ n r', r = n :: r' ∧ 0 ≤ n ∧ n.toNat ≤ r'.length ∧ c = [[0], r'.take n.toNat] ∧ t = r'.drop n.toNat) ∨
    (∃ k : Nat, z = (k : Int) ∧ 1 ≤ k ∧ k ≤ 9 ∧ ar k ≤ r.length ∧ c = [(k : Int) :: r.take (ar k)] ∧ t = r.drop (ar k)) := by
  have h' : (match PyKm354.shape z with | none => none | some (n, k) => if r.length < n then none else match PyFlat.rows k (r.drop n) with | none => none | some (xs, t) => some ((z :: r.take n) :: xs, t)) = some (c, t) := h
  cases e : PyKm354.shape z with
  | none => rw [e] at h' <;> cases h'
  | some p =>
    rw [e] at h'
    rcases shape_pos e with ⟨hz, hp⟩ | ⟨k, hz, h1, h2, hp⟩
    · subst hp
      refine .inl ⟨hz, ?_⟩
      have h2 : (if r.length < 0 then none else match PyFlat.rows 1 (r.drop 0) with | none => none | some (xs, t) => some ((z :: r.take 0) :: xs, t)) = some (c, t) := h'
      rw [if_neg (Nat.not_lt_zero _)] at h2
      cases r with
      | nil => cases h2
      | cons n r' =>
        by_cases hn : 0 ≤ n ∧ n.toNat ≤ r'.length
        · have e3 : PyFlat.rows 1 (n :: r') = some ([r'.take n.toNat], r'.drop n.toNat) := by
            show (match (if 0 ≤ n ∧ n.toNat ≤ r'.length then some (r'.take n.toNat, r'.drop n.toNat) else none) with | none => none | some (x, s) => match PyFlat.rows 0 s with | none => none | some (xs, t) => some (x :: xs, t)) = _
            rw [if_pos hn]
            rfl
          have h3 : (match PyFlat.rows 1 (n :: r') with | none => none | some (xs, t) => some ((z :: ([] : List Int)) :: xs, t)) = some (c, t) := h2
          rw [e3] at h3
          have h4 := Option.some.inj h3
          have h5 : [z] :: [r'.take n.toNat] = c := congrArg Prod.fst h4
          have h6 : r'.drop n.toNat = t := congrArg Prod.snd h4
          exact ⟨n, r', rfl, hn.1, hn.2, by rw [← h5, hz], h6.symm⟩
        · have e3 : PyFlat.rows 1 (n :: r') = none := by
            show (match (if 0 ≤ n ∧ n.toNat ≤ r'.length then some (r'.take n.toNat, r'.drop n.toNat) else none) with | none => none | some (x, s) => match PyFlat.rows 0 s with | none => none | some (xs, t) => some (x :: xs, t)) = _
            rw [if_neg hn]
          have h3 : (match PyFlat.rows 1 (n :: r') with | none => none | some (xs, t) => some ((z :: ([] : List Int)) :: xs, t)) = some (c, t) := h2
          rw [e3] at h3
          cases h3
    · subst hp
      refine .inr ⟨k, hz, h1, h2, ?_⟩
      have h3 : (if r.length < ar k then none else some ([z :: r.take (ar k)], r.drop (ar k))) = some (c, t) := h'
      by_cases hl : r.length < ar k
      · rw [if_pos hl] at h3; cases h3
      · rw [if_neg hl] at h3
        have h4 := Option.some.inj h3
        have h5 : [z :: r.take (ar k)] = c := congrArg Prod.fst h4
        have h6 : r.drop (ar k) = t := congrArg Prod.snd h4
        exact ⟨by omega, by rw [← h5, hz], h6.symm⟩
/-! ### a call but ft_start -/
theorem len1 {l : List Int} (h : l.length = 1) : ∃ x, l = [x] := by
  match l, h with
  | [x], _ => exact ⟨x, rfl⟩
theorem len2 {l : List Int} (h : l.length = 2) : ∃ x y, l = [x, y] := by
  match l, h with
  | [x, y], _ => exact ⟨x, y, rfl⟩
theorem len3 {l : List Int} (h : l.length = 3) : ∃ x y z, l = [x, y, z] := by
  match l, h with
  | [one, two, three], _ => exact ⟨one, two, three, rfl⟩
/-- the mirror's deed against the specification's step -/
def Does (c : Nat) (m : M) (cl : List (List Int)) (r : Deed) : Prop := match r with
  | .error e => Km354Neutral.step (some (abs m)) cl = (some (abs m), [e])
  | .ok (m', out) => Km354Neutral.step (some (abs m)) cl = (some (abs m'), out) ∧ FB.Good (c + 1) m'
theorem does_of {c : Nat} {m : M} {cl : List (List Int)} {r : Deed} {x : Km354.Call} (h : Km354Neutral.callOf cl = some x) (s : Sim c m r (Km354.act (abs m) x)) : Does c m cl r := by
  have e : Km354Neutral.step (some (abs m)) cl = (some (Km354.act (abs m) x).1, FB.told (Km354.act (abs m) x).2) := by
    unfold Km354Neutral.step
    rw [h]
    rfl
  cases r with
  | error n =>
    have s' : Km354.act (abs m) x = (abs m, Km354.only n) := s
    show _ = _
    rw [e, s']
    rfl
  | ok p =>
    obtain ⟨m', out⟩ := p
    obtain ⟨h1, h2, h3⟩ : (Km354.act (abs m) x).1 = abs m' ∧ FB.told (Km354.act (abs m) x).2 = out ∧ FB.Good (c + 1) m' := s
    refine ⟨?_, h3⟩
    rw [e, h1, h2]
theorem deed_does {c k : Nat} {m : M} {args : List Int} (g : FB.Good c m) (h1 : 1 ≤ k) (h2 : k ≤ 9) (hl : args.length = ar k) : ∃ r, fK k m (args.map Int.toNat) = some r ∧ Does c m [(k : Int) :: args] r := by
  rcases nine h1 h2 with e | e | e | e | e | e | e | e | e <;> subst e
  · obtain ⟨x, y, rfl⟩ := len2 hl; exact ⟨_, rfl, does_of rfl (sim_part g _ _)⟩
  · obtain ⟨x, y, z, rfl⟩ := len3 hl; exact ⟨_, rfl, does_of rfl (sim_put g _ _ _)⟩
  · obtain ⟨x, y, rfl⟩ := len2 hl; exact ⟨_, rfl, does_of rfl (sim_take g _ _)⟩
  · obtain ⟨x, y, z, rfl⟩ := len3 hl; exact ⟨_, rfl, does_of rfl (sim_did g _ _ _)⟩
  · obtain ⟨x, y, z, rfl⟩ := len3 hl; exact ⟨_, rfl, does_of rfl (sim_go g _ _ _)⟩
  · obtain ⟨x, y, z, rfl⟩ := len3 hl; exact ⟨_, rfl, does_of rfl (sim_bars g _ _ _)⟩
  · obtain ⟨x, y, z, rfl⟩ := len3 hl; exact ⟨_, rfl, does_of rfl (sim_flew g _ _ _)⟩
  · obtain ⟨x, y, rfl⟩ := len2 hl; exact ⟨_, rfl, does_of rfl (sim_left g _ _)⟩
  · obtain ⟨x, rfl⟩ := len1 hl; exact ⟨_, rfl, does_of rfl (sim_of g _)⟩
/-- ahead of a start no other call may come -/
theorem step_none {k : Nat} {args : List Int} (h1 : 1 ≤ k) (h2 : k ≤ 9) (hl : args.length = ar k) : (Km354Neutral.step none [(k : Int) :: args]).2 = [] := by
  rcases nine h1 h2 with e | e | e | e | e | e | e | e | e <;> subst e
  · obtain ⟨x, y, rfl⟩ := len2 hl; rfl
  · obtain ⟨x, y, z, rfl⟩ := len3 hl; rfl
  · obtain ⟨x, y, rfl⟩ := len2 hl; rfl
  · obtain ⟨x, y, z, rfl⟩ := len3 hl; rfl
  · obtain ⟨x, y, z, rfl⟩ := len3 hl; rfl
  · obtain ⟨x, y, z, rfl⟩ := len3 hl; rfl
  · obtain ⟨x, y, z, rfl⟩ := len3 hl; rfl
  · obtain ⟨x, y, rfl⟩ := len2 hl; rfl
  · obtain ⟨x, rfl⟩ := len1 hl; rfl
/-! ### ft_start -/
theorem chunks_is (l : List Int) (h : l.length % 12 = 0) : ((Km354Neutral.chunks 12 l).map fun x => (⟨Km354Neutral.nats ((x.drop 0).take 4), Km354Neutral.nats ((x.drop 4).take 4), Km354Neutral.nats ((x.drop 8).take 4)⟩ : Km354.Kind)) = (kindsOf (l.map Int.toNat)).map kindA := by
  unfold Km354Neutral.chunks kindsOf
  rw [List.map_map, List.map_map, List.length_map]
  apply List.map_congr_left
  intro i _
  show (⟨Km354Neutral.nats ((((l.drop (12 * i)).take 12).drop 0).take 4), _, _⟩ : Km354.Kind) = kindA (mkKind (chunkAt (l.map Int.toNat) i))
  unfold kindA mkKind chunkAt Km354Neutral.nats
  rw [Nat.mul_comm i 12]
  simp only [List.map_take, List.map_drop, List.drop_zero]
theorem chunk_len {ns : List Nat} {i : Nat} (hi : i < ns.length / 12) : (chunkAt ns i).length = 12 := by
  unfold chunkAt
  rw [List.length_take]; rw [List.length_drop]; omega
theorem kinds_good {ns : List Nat} (hb : ∀ x ∈ ns, x ≤ 4294967295) : ∀ k ∈ kindsOf ns, FB.GoodKind k := by
  intro k hk
  obtain ⟨i, hi, rfl⟩ := List.mem_map.mp hk
  have h12 := chunk_len (ns := ns) (List.mem_range.mp hi)
  have sub : ∀ x ∈ chunkAt ns i, x ≤ 4294967295 := fun x hx => hb x (List.mem_of_mem_drop (List.mem_of_mem_take hx))
  unfold mkKind
  refine ⟨?_, ?_, ?_, fun x hx => sub x (List.mem_of_mem_take hx), fun x hx => sub x (List.mem_of_mem_drop (List.mem_of_mem_take hx)), fun x hx => sub x (List.mem_of_mem_drop (List.mem_of_mem_take hx))⟩
  · show ((chunkAt ns i).take 4).length = 4
    rw [List.length_take]; omega
  · show (((chunkAt ns i).drop 4).take 4).length = 4
    rw [List.length_take]; rw [List.length_drop]; omega
  · show (((chunkAt ns i).drop 8).take 4).length = 4
    rw [List.length_take]; rw [List.length_drop]; omega
theorem okKind_all {ns : List Nat} : ((kindsOf ns).map kindA).all Km354.okKind = true := by
  rw [List.all_eq_true]
  intro k hk
  obtain ⟨k', hk', rfl⟩ := List.mem_map.mp hk
  obtain ⟨i, hi, rfl⟩ := List.mem_map.mp hk'
  have h12 := chunk_len (ns := ns) (List.mem_range.mp hi)
  unfold Km354.okKind kindA mkKind Km354.TASKS
  simp only [List.length_take, List.length_drop, h12]
  decide
theorem act_start (b : Km354.Book) {r : List Int} (h : r.length % 12 = 0) : Km354.act b (.start ((kindsOf (r.map Int.toNat)).map kindA) (r.length / 12)) =
    if r.length / 12 < 1 ∨ 16 < r.length / 12 then (b, Km354.only (-22)) else (abs (M.new (kindsOf (r.map Int.toNat))), Km354.only 0) := by
  show (if r.length / 12 = 0 ∨ Km354.KINDS < r.length / 12 ∨ ((kindsOf (r.map Int.toNat)).map kindA).all Km354.okKind = false then _ else _) = _
  rw [okKind_all]
  by_cases z : r.length / 12 < 1 ∨ 16 < r.length / 12
  · rw [if_pos z, if_pos (by unfold Km354.KINDS; omega)]
  · rw [if_neg z, if_neg (by unfold Km354.KINDS; simp; omega), abs_new]
theorem start_step (s : Km354Neutral.S) {r : List Int} (h : r.length % 12 = 0) : Km354Neutral.step s [[0], r] = if r.length / 12 < 1 ∨ 16 < r.length / 12 then (s, [-22]) else (some (abs (M.new (kindsOf (r.map Int.toNat)))), [0]) := by
  have e : Km354Neutral.callOf [[0], r] = some (.start ((kindsOf (r.map Int.toNat)).map kindA) (r.length / 12)) := by
    show some (Km354.Call.start _ _) = _
    rw [chunks_is r h]
  unfold Km354Neutral.step
  rw [e]
  cases s with
  | none =>
    show (if (Km354Neutral.told (Km354.act (Km354.book0 []) _).2).headD 0 < 0 then none else some (Km354.act (Km354.book0 []) _).1, Km354Neutral.told (Km354.act (Km354.book0 []) _).2) = _
    rw [act_start _ h]
    by_cases z : r.length / 12 < 1 ∨ 16 < r.length / 12
    · rw [if_pos z, if_pos z]; rfl
    · rw [if_neg z, if_neg z]; rfl
  | some a =>
    show (some (Km354.act a _).1, Km354Neutral.told (Km354.act a _).2) = _
    rw [act_start _ h]
    by_cases z : r.length / 12 < 1 ∨ 16 < r.length / 12
    · rw [if_pos z, if_pos z]; rfl
    · rw [if_neg z, if_neg z]; rfl
theorem asked_start {r : List Int} (h : Km354Neutral.asked1 [[0], r] = true) : r.length % 12 = 0 := by
  have h' : (decide (r.length % 12 = 0) && (Km354Neutral.chunks 12 r).all _) = true := h
  exact of_decide_eq_true (Bool.and_eq_true_iff.mp h').1
theorem bound_start {r : List Int} (h : PyInside.call PyKm354.bound [[0], r] = true) : r.length ≤ 216 ∧ ∀ x ∈ r, 0 ≤ x ∧ x ≤ 4294967295 := by
  have h' : (true && (decide (0 ≤ r.length) && decide (r.length ≤ 216) && r.all (PyInside.within 0 4294967295) && true)) = true := h
  simp only [Bool.and_eq_true, decide_eq_true_eq, List.all_eq_true] at h'
  refine ⟨h'.2.1.1.2, fun x hx => ?_⟩
  have := h'.2.1.2 x hx
  unfold PyInside.within at this
  simp only [Bool.and_eq_true, decide_eq_true_eq] at this
  exact this
end FBW
namespace FBW
open PySem PySem.Spec PyProof.Rows L2 Evl FB
/-- the hangar at h holds what the specification's state says -/
def HangAt (A : Ads) (H : Hp) (h dxh ta tn fl : Addr) (c : Nat) : Km354Neutral.S → Prop
  | none => H h = some (.ins A.c_Hangar dxh (hangF .non))
  | some B => ∃ (L : Lay) (m : M), H h = some (.ins A.c_Hangar dxh (hangF (.ref (L.ad .book)))) ∧ BookAt A L m H ∧ FB.Good c m ∧ abs m = B ∧ ∀ r, okR m r → L.ad r ≠ h ∧ L.ad r ≠ ta ∧ L.ad r ≠ tn ∧ L.ad r ≠ fl
structure Apart (h ta tn fl : Addr) : Prop where
  hta : h ≠ ta
  htn : h ≠ tn
  hfl : h ≠ fl
  tatn : ta ≠ tn
  tafl : ta ≠ fl
  tnfl : tn ≠ fl
structure Desk (A : Ads) (H : Hp) (h dxh ta dxt tn fl : Addr) (ns : List Int) (i : Nat) (fnd : List Int) (c : Nat) (s : Km354Neutral.S) : Prop where
  tape : TapeAt A H ta dxt tn ns i
  found : H fl = some (.lst (zs fnd))
  hang : HangAt A H h dxh ta tn fl c s
theorem HangAt.mono {A : Ads} {H H' : Hp} {h dxh ta tn fl : Addr} {c : Nat} {s : Km354Neutral.S} (e : Ex H H') (x : HangAt A H h dxh ta tn fl c s) : HangAt A H' h dxh ta tn fl c s := by
  cases s with
  | none => exact e _ _ x
  | some B =>
    obtain ⟨L, m, a, b, g, ab, d⟩ := x
    exact ⟨L, m, e _ _ a, b.mono e, g, ab, d⟩
theorem Desk.mono {A : Ads} {H H' : Hp} {h dxh ta dxt tn fl : Addr} {ns : List Int} {i : Nat} {fnd : List Int} {c : Nat} {s : Km354Neutral.S} (e : Ex H H') (x : Desk A H h dxh ta dxt tn fl ns i fnd c s) : Desk A H' h dxh ta dxt tn fl ns i fnd c s :=
  ⟨x.tape.mono e, e _ _ x.found, x.hang.mono e⟩
theorem HangAt.exm {A : Ads} {H H' : Hp} {h dxh ta tn fl q : Addr} {c : Nat} {s : Km354Neutral.S} (e : Exm q H H') (hq : h ≠ q) (hb : q = ta ∨ q = fl) (x : HangAt A H h dxh ta tn fl c s) : HangAt A H' h dxh ta tn fl c s := by
  cases s with
  | none => exact e _ _ x hq
  | some B =>
    obtain ⟨L, m, a, b, g, ab, d⟩ := x
    refine ⟨L, m, e _ _ a hq, ⟨fun r hr => e _ _ (b.ob r hr) ?_, b.inj⟩, g, ab, d⟩
    rcases hb with hb | hb
    · rw [hb]; exact (d r hr).2.1
    · rw [hb]; exact (d r hr).2.2.2
theorem HangAt.upto {A : Ads} {H : Hp} {h dxh ta tn fl : Addr} {c c' : Nat} {s : Km354Neutral.S} (hc : c ≤ c') (x : HangAt A H h dxh ta tn fl c s) : HangAt A H h dxh ta tn fl c' s := by
  cases s with
  | none => exact x
  | some B =>
    obtain ⟨L, m, a, b, g, ab, d⟩ := x
    exact ⟨L, m, a, b, g.mono hc, ab, d⟩
/-- the tape goes on, all else stands -/
theorem Desk.next {A : Ads} {H H' : Hp} {h dxh ta dxt tn fl : Addr} {ns : List Int} {i j : Nat} {fnd : List Int} {c : Nat} {s : Km354Neutral.S} (ap : Apart h ta tn fl) (e : Exm ta H H') (t : TapeAt A H' ta dxt tn ns j) (x : Desk A H h dxh ta dxt tn fl ns i fnd c s) : Desk A H' h dxh ta dxt tn fl ns j fnd c s :=
  ⟨t, e _ _ x.found ap.tafl.symm, x.hang.exm e ap.hta (.inl rfl)⟩
def spAnswers (K : PySem.W.Frag) : Sp := fun vs H Q _ => ∃ (a : Addr) (ns : List Int), vs = [.ref a] ∧ SqL K H a (zs ns) ∧ (∀ z ∈ ns, 0 ≤ z ∧ z ≤ 4294967295) ∧ ns.length ≤ 30000 ∧ PyKm354.answers_asked ns = true ∧
  ∀ H' p, H' p = some (.lst (zs (PyKm354.answers ns))) → Q (.ref p) H'
theorem act_out (b : Km354.Book) (x : Km354.Call) : (Km354.act b x).2.out.length ≤ 4 := by
  cases x <;> simp only [Km354.act] <;> repeat' split
  all_goals first
    | (simp [Km354.only]; done)
    | (simp [Km354.only, Km354.Book.lefts]; done)
theorem step_len (s : Km354Neutral.S) (c : List (List Int)) : (Km354Neutral.step s c).2.length ≤ 5 := by
  unfold Km354Neutral.step
  have tl : ∀ y : Km354.Ans, (Km354Neutral.told y).length = 1 + y.out.length := fun y => by
    unfold Km354Neutral.told Km354Neutral.nums
    simp
    omega
  split
  · exact Nat.zero_le _
  · rename_i x _
    split
    · show (Km354Neutral.told (Km354.act _ x).2).length ≤ 5
      rename_i a
      rw [tl]
      have := act_out a x
      omega
    · split
      · show (Km354Neutral.told (Km354.act _ x).2).length ≤ 5
        rw [tl]
        have := act_out (Km354.book0 []) x
        omega
      · exact Nat.zero_le _
theorem zs_app (a b : List Int) : zs a ++ zs b = zs (a ++ b) := by
  unfold zs
  rw [List.map_append]
section
variable {P : Program} {w : World} {K : PySem.W.Frag} {mg : Str → Option Value} {base : Heap} {A : Ads}
/-- x = C(..) -/
theorem q_make {σ : L2.St} {H : Hp} {tA : TA} {D : Ends} {tz : TS} {E : XK} {sp : Sp} {C : Addr} {i : Nat} {vs : List V} (hv : EvA tA σ H vs)
    (k : ∀ H1, Ex H H1 → ∀ x dx, H1 x = none → H1 dx = none → dx ≠ x → sp (.ref x :: (vs ++ [])) (upd (upd H1 dx (.own x)) x (.ins C dx [])) (fun v H2 => v = .non ∧ tz D (σ.set i (some (.ref x))) H2) E) :
    tSeq (tAsg (tMake C sp [] E tA) (gName i)) tz D σ H :=
  show tA σ H fun vs H1 => ∀ x dx, H1 x = none → H1 dx = none → dx ≠ x → sp (.ref x :: (vs ++ [])) (upd (upd H1 dx (.own x)) x (.ins C dx [])) (fun v H2 => v = .non ∧ tz D (σ.set i (some (.ref x))) H2) E from
  hv H (Ex.refl H) _ fun H1 e1 => k H1 e1
theorem s_callA {σ : L2.St} {H : Hp} {ta : TA} {D : Ends} {E : XK} {sp : Sp} {vs : List V} {i : Nat} (ha : EvA ta σ H vs) (k : ∀ H1, Ex H H1 → sp (vs ++ []) H1 (fun v H2 => D.nx (σ.set i (some v)) H2) E) : tAsg (tCall sp [] E ta) (gName i) D σ H :=
  show ta σ H fun vs H1 => sp (vs ++ []) H1 (fun v H2 => D.nx (σ.set i (some v)) H2) E from ha H (Ex.refl H) _ k
/-- xs.extend(ys) -/
theorem s_ext {σ : L2.St} {H : Hp} {ta tb : TE} {D : Ends} {l b : Addr} {xs ys : List V} (hl : H l = some (.lst xs)) (hb : H b = some (.lst ys)) (ha : Ev ta σ H (.ref l)) (hy : Ev tb σ H (.ref b)) (hz : xs.length + ys.length ≤ 100000) (k : ∀ H1, Ex H H1 → D.nx σ (upd H1 l (.lst (xs ++ ys)))) :
    tDrop (tBM K "list" rExtend ta (tCons tb tNil)) D σ H := ha H (Ex.refl H) _ fun H1 e1 =>
  ⟨Or.inl ⟨rfl, xs, sq_of (e1 l _ hl)⟩, hy H1 e1 _ fun H2 e2 => ⟨l, b, xs, ys, rfl, rfl, e2 l _ (e1 l _ hl), e2 b _ (e1 b _ hb), sz_of hz, k H2 (e1.trans e2)⟩⟩
theorem fn_answers (T : Txt K mg A) {fd : FuncData} (F : Fun K "answers" "answers" s_f_answers A.f_answers fd) : FnOk P w K mg base CX0 8 A.f_answers fd ["calls"] (spAnswers K) := by
  have o_i_Hangar := ok_i_Hangar (P := P) (w := w) (base := base) T
  have o_i_Tape := ok_i_Tape (P := P) (w := w) (base := base) T
  have o_m_is_done := ok_m_is_done (P := P) (w := w) (base := base) T
  have o_m_take_one := ok_m_take_one (P := P) (w := w) (base := base) T
  have o_f_answer_start := ok_answer_start (P := P) (w := w) (base := base) T
  have o_m_take_many := ok_m_take_many (P := P) (w := w) (base := base) T
  have o_f_answer := ok_answer (P := P) (w := w) (base := base) T
  refine Fd.okN F sc_f_answers (fun vs H Q E h => ?_)  (fun fd cdv A0 outer s H vs Q E hr h => ?_)
  · obtain ⟨a, ns, rfl, _⟩ := h
    rfl
  -- slots: 0 calls, 1 hangar, 2 tape, 3 found, 4 call, 5 told
  refine ⟨_, (pss_cons (ps_set (i := 1) sc_f_answers.nd rfl (Or.inl rfl) (pe_makeO0 o_i_Hangar T.mk_Hangar T.g_Hangar (hr.mono (by decide)) pass0 rfl))
    (pss_cons (ps_set (i := 2) sc_f_answers.nd rfl (Or.inl rfl) (pe_makeO o_i_Tape T.mk_Tape T.g_Tape (hr.mono (by decide)) pass0 rfl (pa_cons (pv 0) pa_nil)))
    (pss_cons (ps_set (i := 3) sc_f_answers.nd rfl (Or.inl rfl) (pe_lst pa_nil))
    (pss_cons (ps_while PassesOwn.never (pt_not (pt_val (pe_methO0 o_m_is_done T.cl_Tape T.me_is_done (hr.mono (by decide)) pass0 (pv 2)))) (pss_cons (ps_set (i := 4) sc_f_answers.nd rfl (Or.inl rfl) (pe_methO0 o_m_take_one T.cl_Tape T.me_take_one (hr.mono (by decide)) pass0 (pv 2)))
    (pss_cut (ps_if (pt_cmpR op_eqI (pv 4) (pe_gint rfl T.g_START) (nomark _)) (pss_one (ps_set (i := 5) sc_f_answers.nd rfl (Or.inl rfl) (pe_callO o_f_answer_start (hr.mono (by decide)) pass0 rfl (pa_cons (pv 1) (pa_cons (pe_methO o_m_take_many T.cl_Tape T.me_take_many (hr.mono (by decide)) pass0 (pv 2) (pa_cons (pe_methO0 o_m_take_one T.cl_Tape T.me_take_one (hr.mono (by decide)) pass0 (pv 2)) pa_nil)) pa_nil))))) (pss_one (ps_set (i := 5) sc_f_answers.nd rfl (Or.inl rfl) (pe_callO o_f_answer (hr.mono (by decide)) pass0 rfl (pa_cons (pe_fld (pv 1) rfl) (pa_cons (pv 4) (pa_cons (pv 2) pa_nil)))))))
    (pss_cons (ps_expr (pe_bm PySem.F.plainAttrs_list PySem.F.slot_list_append PySem.F.type_list_append mt_append (pv 3) (pa_cons (pe_callB call_len_seq (by rfl) T.n_len PySem.boot_len (pa_cons (pv 5) pa_nil)) pa_nil)))
    (pss_one (ps_expr (pe_bm PySem.F.plainAttrs_list PySem.F.slot_list_extend PySem.F.type_list_extend mt_extend (pv 3) (pa_cons (pv 5) pa_nil))))))))
    (pss_one (ps_ret (pv 3))))))), ?_⟩
  obtain ⟨a, ns, rfl, hS, hb, hlen, hask, k⟩ := h
  obtain ⟨cs0, left0, hcs0, htold⟩ := answers_told hask
  refine q_make ea_nil fun H1 e1 h dxh nx nd ne => ⟨h, dxh, rfl, upd_same, fun H2 x2 hh => ⟨rfl, ?_⟩⟩
  have e02 : Ex H H2 := fun b o q => x2 b o (by rw [upd_ne (ne_of_none (e1 _ _ q) nx), upd_ne (ne_of_none (e1 _ _ q) nd)]; exact e1 _ _ q) (ne_of_none (e1 _ _ q) nx)
  refine q_make (ea_cons (ev_var rfl) ea_nil) fun H3 e3 ta dxt nx3 nd3 ne3 => ⟨ta, dxt, a, ns, rfl, upd_same, ?_, fun tn H4 x4 ntn t4 => ⟨rfl, ?_⟩⟩
  · exact ex_l (fun b o q => by rw [upd_ne (ne_of_none (e3 _ _ q) nx3), upd_ne (ne_of_none (e3 _ _ q) nd3)]; exact e3 _ _ q) (ex_l e02 hS)
  have up3 : ∀ {b : Addr} {o : HO}, H2 b = some o → upd (upd H3 dxt (.own ta)) ta (.ins A.c_Tape dxt []) b = some o := fun {b o} q => by rw [upd_ne (ne_of_none (e3 _ _ q) nx3), upd_ne (ne_of_none (e3 _ _ q) nd3)]; exact e3 _ _ q
  have hta : h ≠ ta := ne_of_none (e3 _ _ hh) nx3
  have htn : h ≠ tn := ne_of_none (up3 hh) ntn
  have hh4 := x4 _ _ (up3 hh) hta
  refine q_asgL (el_lst ea_nil (by show 0 ≤ 100000; decide)) fun fl H5 nfl e5 hfl => ?_
  have ap : Apart h ta tn fl := ⟨hta, htn, ne_of_none hh4 nfl, t4.ne.symm, ne_of_none t4.o nfl, ne_of_none t4.l nfl⟩
  refine q_while (fun μ σ H => ∃ v4 v5 i fnd s c f cs, σ = [some (.ref a), some (.ref h), some (.ref ta), some (.ref fl), v4, v5] ∧ μ = ns.length - i ∧ i ≤ ns.length ∧ Desk A H h dxh ta dxt tn fl ns i fnd c s ∧ Left s f (ns.drop i) cs ∧ fnd ++ told s cs = PyKm354.answers ns ∧
    fnd.length + 10 * cs.length ≤ 10000 ∧ c + cs.length ≤ 1000) ns.length ⟨none, none, 0, [], none, 0, ns.length, cs0, rfl, rfl, Nat.zero_le _, ⟨t4.mono e5, hfl, e5 _ _ hh4⟩, left0, htold.symm, by show 0 + 10 * cs0.length ≤ 10000; omega, by omega⟩ ?_
  rintro μ σ H6 ⟨v4, v5, i, fnd, s, c, f, cs, rfl, rfl, hi, dk, lf, htl, hsz, hcc⟩
  refine ⟨!decide (ns.length ≤ i), et_not (et_B (ev_meth0 (ev_var rfl) dk.tape.o tF_done (spV_ev fun H7 e7 => ⟨ta, dxt, tn, ns, i, rfl, dk.tape.mono e7, rfl⟩))), fun hb0 H7 e7 => ?_, fun hb0 H7 e7 => ?_⟩
  rotate_left
  · -- the end
    have hi' : ns.length ≤ i := by simpa using hb0
    have hd : ns.drop i = [] := List.drop_eq_nil_of_le hi'
    rw [hd] at lf
    rw [left_end lf, told_nil, List.append_nil] at htl
    refine s_ret (ev_var rfl) fun H8 e8 => k H8 fl ?_
    rw [← htl]
    exact e8 _ _ (e7 _ _ dk.found)
  have hi' : i < ns.length := by simpa using hb0
  have dk7 := dk.mono e7
  have hzi : ns[i]? = some ns[i] := List.getElem?_eq_getElem hi'
  have hdr : ns.drop i = ns[i] :: ns.drop (i + 1) := List.drop_eq_getElem_cons hi'
  rw [hdr] at lf
  obtain ⟨f', cl, t, cs', rfl, rfl, hcall, lf', hne, hask1, hbnd⟩ := left_next lf
  refine ⟨fun σ H => ∃ v4 v5 i' fnd s c f cs, i < i' ∧ σ = [some (.ref a), some (.ref h), some (.ref ta), some (.ref fl), v4, v5] ∧ i' ≤ ns.length ∧ Desk A H h dxh ta dxt tn fl ns i' fnd c s ∧ Left s f (ns.drop i') cs ∧ fnd ++ told s cs = PyKm354.answers ns ∧
    fnd.length + 10 * cs.length ≤ 10000 ∧ c + cs.length ≤ 1000, ?_, ?_⟩
  · rintro σ H ⟨v4, v5, i', fnd, s, c, f, cs, hii, rfl, hi2, q1, q2, q3, q4, q5⟩
    exact ⟨ns.length - i', by omega, v4, v5, i', fnd, s, c, f, cs, rfl, rfl, hi2, q1, q2, q3, q4, q5⟩
  -- call = tape.take_one()
  refine q_meth1 (ev_var rfl) dk7.tape.o tF_one ea_nil fun H8 e8 => ⟨ta, dxt, tn, ns, i, ns[i], rfl, dk7.tape.mono e8, hzi, fun H9 x9 t9 => ?_⟩
  have dk9 : Desk A H9 h dxh ta dxt tn fl ns (i + 1) fnd c s := (dk7.mono e8).next ap x9 t9
  have hsl := step_len s cl
  rw [told_cons, ← List.append_assoc] at htl
  have hc1 : c + 1 + cs'.length ≤ 1000 := by simp only [List.length_cons] at hcc; omega
  have hsz1 : fnd.length + 10 + 10 * cs'.length ≤ 10000 := by simp only [List.length_cons] at hsz; omega
  refine q_cut (M := fun σ H => ∃ v4 p i', i < i' ∧ σ = [some (.ref a), some (.ref h), some (.ref ta), some (.ref fl), v4, some (.ref p)] ∧ i' ≤ ns.length ∧ Desk A H h dxh ta dxt tn fl ns i' fnd (c + 1) (Km354Neutral.step s cl).1 ∧ Left (Km354Neutral.step s cl).1 f' (ns.drop i') cs' ∧
    H p = some (.lst (zs (Km354Neutral.step s cl).2)) ∧ p ≠ fl) ?_ ?_
  · rcases call_cases hcall with ⟨hz, n, r', hr, hn0, hnl, hcl, ht⟩ | ⟨kk, hz, hk1, hk2, hkl, hcl, ht⟩
    · -- ft_start
      refine s_if (b := true) (et_is (et_test (ev_eq (ev_var rfl) ev_c)) (decide_eq_true hz)) (fun _ H10 e10 => ?_) fun q => nomatch q
      have dk10 := dk9.mono e10
      have hi2 : i + 1 < ns.length := by
        have := congrArg List.length hr
        rw [List.length_drop, List.length_cons] at this
        omega
      have hdr2 : ns.drop (i + 1) = ns[i + 1] :: ns.drop (i + 1 + 1) := List.drop_eq_getElem_cons hi2
      rw [hdr2] at hr
      have en : ns[i + 1] = n := (List.cons.inj hr).1
      have er : ns.drop (i + 1 + 1) = r' := (List.cons.inj hr).2
      have hz2 : ns[i + 1]? = some n := by rw [List.getElem?_eq_getElem hi2, en]
      have hnn : n = ((n.toNat : Nat) : Int) := (Int.toNat_of_nonneg hn0).symm
      have hlr : i + 1 + 1 + n.toNat ≤ ns.length := by
        have := congrArg List.length er
        rw [List.length_drop] at this
        omega
      refine ⟨.ref h, rfl, .ref ta, rfl, ta, dxt, _, rfl, dk10.tape.o, tF_many, .ref ta, rfl, ta, dxt, _, rfl, dk10.tape.o, tF_one, ta, dxt, tn, ns, i + 1, n, rfl, dk10.tape, hz2, fun H11 x11 t11 => ?_⟩
      have dk11 := dk10.next ap x11 t11
      refine ⟨ta, dxt, tn, ns, i + 1 + 1, n.toNat, (show [V.ref ta, V.int n] = [V.ref ta, V.int ((n.toNat : Nat) : Int)] by rw [← hnn]), t11, hlr, by omega, fun rw_ H12 x12 t12 nrw hrw => ?_⟩
      have dk12 := dk11.next ap x12 t12
      have hcl' := hcl
      subst hcl
      have hb1 := bound_start hbnd
      have ha1 := asked_start hask1
      rw [er] at hrw
      have hrow : zs (r'.take n.toNat) = nats ((r'.take n.toNat).map Int.toNat) := zs_nats fun z hz => (hb1.2 z hz).1
      rw [hrow] at hrw
      have hst := start_step s ha1
      have hlen2 : ((r'.take n.toNat).map Int.toNat).length = (r'.take n.toNat).length := List.length_map _
      have hdrop : ns.drop (i + 1 + 1 + n.toNat) = t := by rw [ht, ← er, List.drop_drop]
      have hh12 : ∃ v0, H12 h = some (.ins A.c_Hangar dxh (hangF v0)) := by
        have q := dk12.hang
        cases s with
        | none => exact ⟨_, q⟩
        | some B =>
          obtain ⟨L, m, q1, _⟩ := q
          exact ⟨_, q1⟩
      obtain ⟨v0, hh12⟩ := hh12
      refine ⟨h, dxh, rw_, v0, _, rfl, hh12, hrw, by rw [hlen2]; exact ha1, by rw [hlen2]; have := hb1.1; omega, fun hbad p H13 np e13 h13 => ?_, fun hgood p L H13 bk13 x13 hh13 nw13 np h13 => ?_⟩
      · rw [hlen2] at hbad
        rw [if_pos hbad] at hst
        refine ⟨_, p, i + 1 + 1 + n.toNat, by omega, rfl, hlr, ?_, by rw [hdrop]; exact lf', ?_, (ne_of_none dk12.found np).symm⟩
        · rw [hst]
          have q := dk12.mono e13
          exact ⟨q.tape, q.found, q.hang.upto (by omega)⟩
        · rw [hst]; exact h13
      · rw [hlen2] at hgood
        rw [if_neg hgood] at hst
        refine ⟨_, p, i + 1 + 1 + n.toNat, by omega, rfl, hlr, ?_, by rw [hdrop]; exact lf', ?_, (ne_of_none dk12.found np).symm⟩
        · rw [hst]
          refine ⟨⟨x13 _ _ dk12.tape.o ap.hta.symm, x13 _ _ dk12.tape.l ap.htn.symm⟩, x13 _ _ dk12.found ap.hfl.symm, L, M.new _, hh13, bk13, good_new (kinds_good fun x hx => ?_) (by rw [kindsOf_len, hlen2]; omega) _, rfl, fun r hr => ⟨(ne_of_none hh12 (nw13 r hr)).symm, (ne_of_none dk12.tape.o (nw13 r hr)).symm, (ne_of_none dk12.tape.l (nw13 r hr)).symm, (ne_of_none dk12.found (nw13 r hr)).symm⟩⟩
          obtain ⟨z, hz, rfl⟩ := List.mem_map.mp hx
          have := hb1.2 z hz
          omega
        · rw [hst]; exact h13
    · -- another call
      have hz0 : ¬ ns[i] = 0 := by omega
      refine s_if (b := false) (et_is (et_test (ev_eq (ev_var rfl) ev_c)) (decide_eq_false hz0)) (fun q => nomatch q) fun _ H10 e10 => ?_
      have dk10 := dk9.mono e10
      have hal : ((ns.drop (i + 1)).take (ar kk)).length = ar kk := by rw [List.length_take]; omega
      have hlr : i + 1 + ar kk ≤ ns.length := by rw [List.length_drop] at hkl; omega
      have har1 : 1 ≤ ar kk := by rcases nine hk1 hk2 with e | e | e | e | e | e | e | e | e <;> subst e <;> decide
      have hdrop : ns.drop (i + 1 + ar kk) = t := by rw [ht, List.drop_drop]
      cases s with
      | none =>
        rw [hcl, step_none hk1 hk2 hal] at hne
        cases hne
      | some B =>
        obtain ⟨L, m, hh10, bk10, g10, rfl, dj10⟩ := dk10.hang
        obtain ⟨r, hfr, hdo⟩ := deed_does (m := m) g10 hk1 hk2 hal
        rw [← hcl] at hdo
        refine s_callA (ea_cons (ev_fld (ev_var rfl) hh10 T.cl_Hangar T.na_Hangar_book lk_here) (ea_cons (ev_in (j := (kk : Int)) (ev_var rfl) hz) (ea_cons (ev_var rfl) ea_nil))) fun H11 e11 => ?_
        have dk11 := dk10.mono e11
        refine ⟨L, m, c, kk, ta, dxt, tn, ns, i + 1, r, rfl, bk10.mono e11, g10, by omega, hk1, hk2, dk11.tape, hlr, fun z hz => (hb z (List.mem_of_mem_drop (List.mem_of_mem_take hz))).1, fun r hr => (dj10 r hr).2.1, fun r hr => (dj10 r hr).2.2.1, hfr, fun n hn p H12 x12 t12 bk12 np h12 => ?_, fun m' out hm p L' H12 bk12 fr12 nw12 bkE t12 np h12 => ?_⟩
        · subst hn
          have hst : Km354Neutral.step (some (abs m)) cl = (some (abs m), [n]) := hdo
          refine ⟨_, p, i + 1 + ar kk, by omega, rfl, hlr, ?_, by rw [hdrop]; exact lf', ?_, (ne_of_none dk11.found np).symm⟩
          · rw [hst]
            have q := dk11.next ap x12 t12
            exact ⟨q.tape, q.found, q.hang.upto (by omega)⟩
          · rw [hst]; exact h12
        · subst hm
          obtain ⟨hst, g12⟩ : Km354Neutral.step (some (abs m)) cl = (some (abs m'), out) ∧ FB.Good (c + 1) m' := hdo
          have hh11 := e11 _ _ hh10
          refine ⟨_, p, i + 1 + ar kk, by omega, rfl, hlr, ?_, by rw [hdrop]; exact lf', ?_, (ne_of_none dk11.found np).symm⟩
          · rw [hst]
            refine ⟨t12, fr12 _ _ dk11.found ap.tafl.symm fun r hr => (dj10 r hr).2.2.2, L', m', ?_, bk12, g12, rfl, fun r hr => ?_⟩
            · rw [bkE]
              exact fr12 _ _ hh11 ap.hta fun r hr => (dj10 r hr).1
            · rcases nw12 r hr with ⟨q1, q2⟩ | q
              · rw [q2]; exact dj10 r q1
              · exact ⟨(ne_of_none hh11 q).symm, (ne_of_none dk11.tape.o q).symm, (ne_of_none dk11.tape.l q).symm, (ne_of_none dk11.found q).symm⟩
          · rw [hst]; exact h12
  · rintro σ H10 ⟨u4, p, i', hii, rfl, hi2, dk10, lf10, hp10, hpf⟩
    generalize hout : (Km354Neutral.step s cl).2 = out at *
    -- found.append(len(told)); found.extend(told)
    have q0 := ev_lenL (K := K) (σ := [some (.ref a), some (.ref h), some (.ref ta), some (.ref fl), u4, some (.ref p)]) (ev_var (i := 5) rfl) hp10
    rw [zs_len] at q0
    refine q_app dk10.found (ev_var rfl) q0 (by rw [zs_len]; omega) fun H11 e11 => ?_
    have x11 : Exm fl H10 (upd H11 fl (.lst (zs fnd ++ [.int (out.length : Int)]))) := ((Exm.refl fl H10).ex e11).put
    refine s_ext upd_same (x11 _ _ hp10 hpf) (ev_var rfl) (ev_var rfl) (by rw [List.length_append, zs_len, zs_len]; show fnd.length + 1 + out.length ≤ 100000; omega) fun H12 e12 => ?_
    have x12 := (x11.ex e12).put (o := .lst (zs fnd ++ [.int (out.length : Int)] ++ zs out))
    refine ⟨u4, some (.ref p), i', fnd ++ ((out.length : Int) :: out), _, c + 1, f', cs', hii, rfl, hi2, ⟨⟨x12 _ _ dk10.tape.o ap.tafl, x12 _ _ dk10.tape.l ap.tnfl⟩, ?_, dk10.hang.exm x12 ap.hfl (.inr rfl)⟩, lf10, htl, ?_, hc1⟩
    · rw [upd_same, show [V.int (out.length : Int)] = zs [(out.length : Int)] from rfl, zs_app, zs_app, List.append_assoc]
      rfl
    · rw [List.length_append, List.length_cons]
      omega
end
end FBW
/-! The end: what the written part holds (printed by gen_end.py). -/
namespace FBW
open PySem PySem.Spec PyProof.Rows L2 Evl
/-- what «except Refused» names -/
theorem exm_own {K : PySem.W.Frag} {S : Addr} (h1 : PySem.W.subIn K (.ref S) (.type "BaseException") = some true) (h2 : PySem.W.isClsIn K S = true) (h3 : PySem.W.typeIn K (.ref S) = some (.type "type")) (h4 : PySem.W.subIn K (.ref S) (.ref S) = some true) :
    PySem.W.exmOne K (.ref S) (.ref S) = some true := by
  have g1 : (PySem.W.subIn K (.ref S) (.type "BaseException") == some true) = true := by rw [h1]; rfl
  have g2 : ((PySem.W.clsIn K S).isSome && PySem.W.typeIn K (.ref S) == some (.type "type")) = true := by
    rw [show (PySem.W.clsIn K S).isSome = true from h2, h3]; rfl
  exact (if_pos g1).trans ((if_pos g2).trans h4)
/-- a def of the text is where it is -/
theorem fd_mk {K : PySem.W.Frag} {x qual : Str} {st : Stmt} {f : Addr} {oc : Value} {od an : Option Addr} {osl : Array (Option Value)} {kV doc pm cdv ct : Value}
    (l : K.lookup f = some ⟨oc, od, .func (PySem.W.fnOf x qual (defArgs st) (defBody st) (defScope st) .none kV doc pm an cdv ct), osl⟩) (c : PySem.W.codeIn K cdv qual = true) (k : PySem.W.keepIn K (.ref f) = true) : Fd K x qual st f := ⟨⟨_, fun_mk l c k⟩⟩
/-- a written tuple -/
theorem sqt_mk {K : PySem.W.Frag} {a : Addr} {od : Option Addr} {its : Array Value} {n : Nat} {sl : Array (Option Value)} {xs : List V} (l : K.lookup a = some ⟨.type "tuple", od, .seq its n, sl⟩) (hz : its.size ≤ 16777216) (v : Vals xs its.toList) (H : Hp) : SqT K H a xs :=
  .inr ⟨_, its, n, l, rfl, rfl, by rw [sizeLine_eq]; exact hz, v⟩
theorem in_len {l : List Int} (h : PySem.W.Codec.inLen 0 30000 l = true) : l.length ≤ 30000 := (PySem.W.Codec.inNat_iff.mp h).2
theorem in_all {l : List Int} (h : l.all (PySem.W.Codec.inInt 0 4294967295) = true) : ∀ z ∈ l, 0 ≤ z ∧ z ≤ 4294967295 := fun z hz => PySem.W.Codec.inInt_iff.mp (List.all_eq_true.mp h z hz)
theorem kd_mk {K : PySem.W.Frag} {a b : Addr} {es : Array DictEntry} {n : Nat} {k : Int} (l : K.lookup a = some ⟨.type "dict", none, .dict es n, #[]⟩) (z : KeysInt es.toList) (q : findBy Value.isInt es k = some (.ref b)) : KDctI K a k (.ref b) := ⟨es, n, _, l, z, q, rfl⟩
theorem all_mk {P : Program} {w : World} {K : PySem.W.Frag} {h : Heap} {mg : Str → Option Value} {fa : Addr} (KX : K.In h) (G : h.Ns mainGlobals mg) (hfa : mg "answers" = some (.ref fa))
    {c_Kind c_Part c_Plane c_Book c_Refused c_Hangar c_Tape f_year_of f_month_of f_day_of f_is_leap f_length_of f_is_date f_leaps_before f_number_of i_Kind i_Part i_Plane m_is_away i_Book f_parts_in f_is_past f_what_bars f_first_bar f_least_left f_left_in f_count_flight f_do_task i_Refused f_ask f_ask_plane f_ask_order f_part_at f_do_part f_do_put f_do_take f_do_did f_ask_flight f_do_go f_do_bars f_told_again f_do_flew f_do_left f_do_of i_Hangar i_Tape m_is_done m_take_one m_take_many f_answer_start f_answer f_answers aD aML d1 d2 d3 d4 d5 d6 d7 d8 d9 : Addr}
    {oc_i_Kind kV_i_Kind dc_i_Kind pm_i_Kind cd_i_Kind ct_i_Kind : Value} {od_i_Kind an_i_Kind : Option Addr} {sl_i_Kind : Array (Option Value)}
    {oc_i_Part kV_i_Part dc_i_Part pm_i_Part cd_i_Part ct_i_Part : Value} {od_i_Part an_i_Part : Option Addr} {sl_i_Part : Array (Option Value)}
    {oc_i_Plane kV_i_Plane dc_i_Plane pm_i_Plane cd_i_Plane ct_i_Plane : Value} {od_i_Plane an_i_Plane : Option Addr} {sl_i_Plane : Array (Option Value)}
    {oc_i_Book kV_i_Book dc_i_Book pm_i_Book cd_i_Book ct_i_Book : Value} {od_i_Book an_i_Book : Option Addr} {sl_i_Book : Array (Option Value)}
    {oc_i_Hangar kV_i_Hangar dc_i_Hangar pm_i_Hangar cd_i_Hangar ct_i_Hangar : Value} {od_i_Hangar an_i_Hangar : Option Addr} {sl_i_Hangar : Array (Option Value)}
    {oc_i_Tape kV_i_Tape dc_i_Tape pm_i_Tape cd_i_Tape ct_i_Tape : Value} {od_i_Tape an_i_Tape : Option Addr} {sl_i_Tape : Array (Option Value)}
    {oc_m_is_away kV_m_is_away dc_m_is_away pm_m_is_away cd_m_is_away ct_m_is_away : Value} {od_m_is_away an_m_is_away : Option Addr} {sl_m_is_away : Array (Option Value)}
    {oc_m_is_done kV_m_is_done dc_m_is_done pm_m_is_done cd_m_is_done ct_m_is_done : Value} {od_m_is_done an_m_is_done : Option Addr} {sl_m_is_done : Array (Option Value)}
    {oc_m_take_one kV_m_take_one dc_m_take_one pm_m_take_one cd_m_take_one ct_m_take_one : Value} {od_m_take_one an_m_take_one : Option Addr} {sl_m_take_one : Array (Option Value)}
    {oc_m_take_many kV_m_take_many dc_m_take_many pm_m_take_many cd_m_take_many ct_m_take_many : Value} {od_m_take_many an_m_take_many : Option Addr} {sl_m_take_many : Array (Option Value)}
    {oc_f_year_of kV_f_year_of dc_f_year_of pm_f_year_of cd_f_year_of ct_f_year_of : Value} {od_f_year_of an_f_year_of : Option Addr} {sl_f_year_of : Array (Option Value)}
    {oc_f_month_of kV_f_month_of dc_f_month_of pm_f_month_of cd_f_month_of ct_f_month_of : Value} {od_f_month_of an_f_month_of : Option Addr} {sl_f_month_of : Array (Option Value)}
    {oc_f_day_of kV_f_day_of dc_f_day_of pm_f_day_of cd_f_day_of ct_f_day_of : Value} {od_f_day_of an_f_day_of : Option Addr} {sl_f_day_of : Array (Option Value)}
    {oc_f_is_leap kV_f_is_leap dc_f_is_leap pm_f_is_leap cd_f_is_leap ct_f_is_leap : Value} {od_f_is_leap an_f_is_leap : Option Addr} {sl_f_is_leap : Array (Option Value)}
    {oc_f_length_of kV_f_length_of dc_f_length_of pm_f_length_of cd_f_length_of ct_f_length_of : Value} {od_f_length_of an_f_length_of : Option Addr} {sl_f_length_of : Array (Option Value)}
    {oc_f_is_date kV_f_is_date dc_f_is_date pm_f_is_date cd_f_is_date ct_f_is_date : Value} {od_f_is_date an_f_is_date : Option Addr} {sl_f_is_date : Array (Option Value)}
    {oc_f_leaps_before kV_f_leaps_before dc_f_leaps_before pm_f_leaps_before cd_f_leaps_before ct_f_leaps_before : Value} {od_f_leaps_before an_f_leaps_before : Option Addr} {sl_f_leaps_before : Array (Option Value)}
    {oc_f_number_of kV_f_number_of dc_f_number_of pm_f_number_of cd_f_number_of ct_f_number_of : Value} {od_f_number_of an_f_number_of : Option Addr} {sl_f_number_of : Array (Option Value)}
    {oc_f_parts_in kV_f_parts_in dc_f_parts_in pm_f_parts_in cd_f_parts_in ct_f_parts_in : Value} {od_f_parts_in an_f_parts_in : Option Addr} {sl_f_parts_in : Array (Option Value)}
    {oc_f_is_past kV_f_is_past dc_f_is_past pm_f_is_past cd_f_is_past ct_f_is_past : Value} {od_f_is_past an_f_is_past : Option Addr} {sl_f_is_past : Array (Option Value)}
    {oc_f_what_bars kV_f_what_bars dc_f_what_bars pm_f_what_bars cd_f_what_bars ct_f_what_bars : Value} {od_f_what_bars an_f_what_bars : Option Addr} {sl_f_what_bars : Array (Option Value)}
    {oc_f_first_bar kV_f_first_bar dc_f_first_bar pm_f_first_bar cd_f_first_bar ct_f_first_bar : Value} {od_f_first_bar an_f_first_bar : Option Addr} {sl_f_first_bar : Array (Option Value)}
    {oc_f_least_left kV_f_least_left dc_f_least_left pm_f_least_left cd_f_least_left ct_f_least_left : Value} {od_f_least_left an_f_least_left : Option Addr} {sl_f_least_left : Array (Option Value)}
    {oc_f_left_in kV_f_left_in dc_f_left_in pm_f_left_in cd_f_left_in ct_f_left_in : Value} {od_f_left_in an_f_left_in : Option Addr} {sl_f_left_in : Array (Option Value)}
    {oc_f_count_flight kV_f_count_flight dc_f_count_flight pm_f_count_flight cd_f_count_flight ct_f_count_flight : Value} {od_f_count_flight an_f_count_flight : Option Addr} {sl_f_count_flight : Array (Option Value)}
    {oc_f_do_task kV_f_do_task dc_f_do_task pm_f_do_task cd_f_do_task ct_f_do_task : Value} {od_f_do_task an_f_do_task : Option Addr} {sl_f_do_task : Array (Option Value)}
    {oc_f_ask kV_f_ask dc_f_ask pm_f_ask cd_f_ask ct_f_ask : Value} {od_f_ask an_f_ask : Option Addr} {sl_f_ask : Array (Option Value)}
    {oc_f_ask_plane kV_f_ask_plane dc_f_ask_plane pm_f_ask_plane cd_f_ask_plane ct_f_ask_plane : Value} {od_f_ask_plane an_f_ask_plane : Option Addr} {sl_f_ask_plane : Array (Option Value)}
    {oc_f_ask_order kV_f_ask_order dc_f_ask_order pm_f_ask_order cd_f_ask_order ct_f_ask_order : Value} {od_f_ask_order an_f_ask_order : Option Addr} {sl_f_ask_order : Array (Option Value)}
    {oc_f_part_at kV_f_part_at dc_f_part_at pm_f_part_at cd_f_part_at ct_f_part_at : Value} {od_f_part_at an_f_part_at : Option Addr} {sl_f_part_at : Array (Option Value)}
    {oc_f_do_part kV_f_do_part dc_f_do_part pm_f_do_part cd_f_do_part ct_f_do_part : Value} {od_f_do_part an_f_do_part : Option Addr} {sl_f_do_part : Array (Option Value)}
    {oc_f_do_put kV_f_do_put dc_f_do_put pm_f_do_put cd_f_do_put ct_f_do_put : Value} {od_f_do_put an_f_do_put : Option Addr} {sl_f_do_put : Array (Option Value)}
    {oc_f_do_take kV_f_do_take dc_f_do_take pm_f_do_take cd_f_do_take ct_f_do_take : Value} {od_f_do_take an_f_do_take : Option Addr} {sl_f_do_take : Array (Option Value)}
    {oc_f_do_did kV_f_do_did dc_f_do_did pm_f_do_did cd_f_do_did ct_f_do_did : Value} {od_f_do_did an_f_do_did : Option Addr} {sl_f_do_did : Array (Option Value)}
    {oc_f_ask_flight kV_f_ask_flight dc_f_ask_flight pm_f_ask_flight cd_f_ask_flight ct_f_ask_flight : Value} {od_f_ask_flight an_f_ask_flight : Option Addr} {sl_f_ask_flight : Array (Option Value)}
    {oc_f_do_go kV_f_do_go dc_f_do_go pm_f_do_go cd_f_do_go ct_f_do_go : Value} {od_f_do_go an_f_do_go : Option Addr} {sl_f_do_go : Array (Option Value)}
    {oc_f_do_bars kV_f_do_bars dc_f_do_bars pm_f_do_bars cd_f_do_bars ct_f_do_bars : Value} {od_f_do_bars an_f_do_bars : Option Addr} {sl_f_do_bars : Array (Option Value)}
    {oc_f_told_again kV_f_told_again dc_f_told_again pm_f_told_again cd_f_told_again ct_f_told_again : Value} {od_f_told_again an_f_told_again : Option Addr} {sl_f_told_again : Array (Option Value)}
    {oc_f_do_flew kV_f_do_flew dc_f_do_flew pm_f_do_flew cd_f_do_flew ct_f_do_flew : Value} {od_f_do_flew an_f_do_flew : Option Addr} {sl_f_do_flew : Array (Option Value)}
    {oc_f_do_left kV_f_do_left dc_f_do_left pm_f_do_left cd_f_do_left ct_f_do_left : Value} {od_f_do_left an_f_do_left : Option Addr} {sl_f_do_left : Array (Option Value)}
    {oc_f_do_of kV_f_do_of dc_f_do_of pm_f_do_of cd_f_do_of ct_f_do_of : Value} {od_f_do_of an_f_do_of : Option Addr} {sl_f_do_of : Array (Option Value)}
    {oc_f_answer_start kV_f_answer_start dc_f_answer_start pm_f_answer_start cd_f_answer_start ct_f_answer_start : Value} {od_f_answer_start an_f_answer_start : Option Addr} {sl_f_answer_start : Array (Option Value)}
    {oc_f_answer kV_f_answer dc_f_answer pm_f_answer cd_f_answer ct_f_answer : Value} {od_f_answer an_f_answer : Option Addr} {sl_f_answer : Array (Option Value)}
    {oc_f_answers kV_f_answers dc_f_answers pm_f_answers cd_f_answers ct_f_answers : Value} {od_f_answers an_f_answers : Option Addr} {sl_f_answers : Array (Option Value)}
    {t_FIRST_YEAR : Tok}
    {t_LAST_YEAR : Tok}
    {t_FEBRUARY : Tok}
    {t_TASKS : Tok}
    {t_PLANES : Tok}
    {t_NO_PLANE : Tok}
    {t_NO_LIMIT : Tok}
    {t_BY_MINUTES : Tok}
    {t_BY_LANDINGS : Tok}
    {t_BY_DAYS : Tok}
    {t_WRONG : Tok}
    {t_NO_SUCH : Tok}
    {t_IN_NONE : Tok}
    {t_BEFORE : Tok}
    {t_AWAY : Tok}
    {t_OTHERWISE : Tok}
    {t_FULL : Tok}
    {t_BARRED : Tok}
    {t_NOT_FLOWN : Tok}
    {t_MOST_PARTS : Tok}
    {t_MOST_IN_PLANE : Tok}
    {t_MOST_LET_GO : Tok}
    {t_MOST_MINUTES : Tok}
    {t_MOST_SINCE : Tok}
    {t_FLIGHT_BOUND : Tok}
    {t_START : Tok}
    {t_KIND_NUMBERS : Tok}
    {t_MOST_KINDS : Tok}
    {nm q : Str} {N : Addr} {bs : List Value} {sn : List Str} {sub : List Value} {ab : Bool} {col : Option Bool} {dd : Option Addr} {m0 m1 m2 m3 m5 : Option Value} {od1 an1 : Option Addr} {sl1 : Array (Option Value)} {oc1 dc1 pm1 cd1 ct1 : Value}
    {odML : Option Addr} {nML : Nat} {slML : Array (Option Value)} {u0 u1 u2 u3 u4 u5 u6 u7 u8 u9 u10 u11 : Tok}
    {es : Array DictEntry} {nD : Nat}
    {od1 : Option Addr} {n1 : Nat} {sd1 : Array (Option Value)} {td1 : Tok}
    {od2 : Option Addr} {n2 : Nat} {sd2 : Array (Option Value)} {td2 : Tok}
    {od3 : Option Addr} {n3 : Nat} {sd3 : Array (Option Value)} {td3 : Tok}
    {od4 : Option Addr} {n4 : Nat} {sd4 : Array (Option Value)} {td4 : Tok}
    {od5 : Option Addr} {n5 : Nat} {sd5 : Array (Option Value)} {td5 : Tok}
    {od6 : Option Addr} {n6 : Nat} {sd6 : Array (Option Value)} {td6 : Tok}
    {od7 : Option Addr} {n7 : Nat} {sd7 : Array (Option Value)} {td7 : Tok}
    {od8 : Option Addr} {n8 : Nat} {sd8 : Array (Option Value)} {td8 : Tok}
    {od9 : Option Addr} {n9 : Nat} {sd9 : Array (Option Value)} {td9 : Tok}
    (g_Kind : PySem.W.nsIn K mainGlobals "Kind" = some (some (.ref c_Kind)))
    (pg_Kind : PySem.W.plainGet K c_Kind Str.empty = true)
    (hd_Kind : PySem.W.hasDictIn K c_Kind = true)
    (po_Kind : PySem.W.plainOver K c_Kind = true)
    (sa_Kind : PySem.W.findIn K (.ref c_Kind) "__setattr__" = some (some (.builtin "object.__setattr__")))
    (mk_Kind : PySem.W.makesIn K c_Kind = true)
    (kc_Kind : PySem.W.keepIn K (.ref c_Kind) = true)
    (in_Kind : PySem.W.findIn K (.ref c_Kind) "__init__" = some (some (.ref i_Kind)))
    (fn_Kind : PySem.W.isFn K (.ref i_Kind) = true)
    (na_Kind_minutes : PySem.W.findIn K (.ref c_Kind) "minutes" = some none)
    (na_Kind_landings : PySem.W.findIn K (.ref c_Kind) "landings" = some none)
    (na_Kind_days : PySem.W.findIn K (.ref c_Kind) "days" = some none)
    (l_i_Kind : K.lookup i_Kind = some ⟨oc_i_Kind, od_i_Kind, .func (PySem.W.fnOf "__init__" "Kind.__init__" (defArgs s_i_Kind) (defBody s_i_Kind) (defScope s_i_Kind) .none kV_i_Kind dc_i_Kind pm_i_Kind an_i_Kind cd_i_Kind ct_i_Kind), sl_i_Kind⟩)
    (c_i_Kind : PySem.W.codeIn K cd_i_Kind "Kind.__init__" = true)
    (k_i_Kind : PySem.W.keepIn K (.ref i_Kind) = true)
    (g_Part : PySem.W.nsIn K mainGlobals "Part" = some (some (.ref c_Part)))
    (pg_Part : PySem.W.plainGet K c_Part Str.empty = true)
    (hd_Part : PySem.W.hasDictIn K c_Part = true)
    (po_Part : PySem.W.plainOver K c_Part = true)
    (sa_Part : PySem.W.findIn K (.ref c_Part) "__setattr__" = some (some (.builtin "object.__setattr__")))
    (mk_Part : PySem.W.makesIn K c_Part = true)
    (kc_Part : PySem.W.keepIn K (.ref c_Part) = true)
    (in_Part : PySem.W.findIn K (.ref c_Part) "__init__" = some (some (.ref i_Part)))
    (fn_Part : PySem.W.isFn K (.ref i_Part) = true)
    (na_Part_kind : PySem.W.findIn K (.ref c_Part) "kind" = some none)
    (na_Part_plane : PySem.W.findIn K (.ref c_Part) "plane" = some none)
    (na_Part_minutes : PySem.W.findIn K (.ref c_Part) "minutes" = some none)
    (na_Part_landings : PySem.W.findIn K (.ref c_Part) "landings" = some none)
    (na_Part_minutes_since : PySem.W.findIn K (.ref c_Part) "minutes_since" = some none)
    (na_Part_landings_since : PySem.W.findIn K (.ref c_Part) "landings_since" = some none)
    (na_Part_done_on : PySem.W.findIn K (.ref c_Part) "done_on" = some none)
    (l_i_Part : K.lookup i_Part = some ⟨oc_i_Part, od_i_Part, .func (PySem.W.fnOf "__init__" "Part.__init__" (defArgs s_i_Part) (defBody s_i_Part) (defScope s_i_Part) .none kV_i_Part dc_i_Part pm_i_Part an_i_Part cd_i_Part ct_i_Part), sl_i_Part⟩)
    (c_i_Part : PySem.W.codeIn K cd_i_Part "Part.__init__" = true)
    (k_i_Part : PySem.W.keepIn K (.ref i_Part) = true)
    (g_Plane : PySem.W.nsIn K mainGlobals "Plane" = some (some (.ref c_Plane)))
    (pg_Plane : PySem.W.plainGet K c_Plane Str.empty = true)
    (hd_Plane : PySem.W.hasDictIn K c_Plane = true)
    (po_Plane : PySem.W.plainOver K c_Plane = true)
    (sa_Plane : PySem.W.findIn K (.ref c_Plane) "__setattr__" = some (some (.builtin "object.__setattr__")))
    (mk_Plane : PySem.W.makesIn K c_Plane = true)
    (kc_Plane : PySem.W.keepIn K (.ref c_Plane) = true)
    (in_Plane : PySem.W.findIn K (.ref c_Plane) "__init__" = some (some (.ref i_Plane)))
    (fn_Plane : PySem.W.isFn K (.ref i_Plane) = true)
    (na_Plane_flown : PySem.W.findIn K (.ref c_Plane) "flown" = some none)
    (na_Plane_let_go : PySem.W.findIn K (.ref c_Plane) "let_go" = some none)
    (l_i_Plane : K.lookup i_Plane = some ⟨oc_i_Plane, od_i_Plane, .func (PySem.W.fnOf "__init__" "Plane.__init__" (defArgs s_i_Plane) (defBody s_i_Plane) (defScope s_i_Plane) .none kV_i_Plane dc_i_Plane pm_i_Plane an_i_Plane cd_i_Plane ct_i_Plane), sl_i_Plane⟩)
    (c_i_Plane : PySem.W.codeIn K cd_i_Plane "Plane.__init__" = true)
    (k_i_Plane : PySem.W.keepIn K (.ref i_Plane) = true)
    (g_Book : PySem.W.nsIn K mainGlobals "Book" = some (some (.ref c_Book)))
    (pg_Book : PySem.W.plainGet K c_Book Str.empty = true)
    (hd_Book : PySem.W.hasDictIn K c_Book = true)
    (po_Book : PySem.W.plainOver K c_Book = true)
    (sa_Book : PySem.W.findIn K (.ref c_Book) "__setattr__" = some (some (.builtin "object.__setattr__")))
    (mk_Book : PySem.W.makesIn K c_Book = true)
    (kc_Book : PySem.W.keepIn K (.ref c_Book) = true)
    (in_Book : PySem.W.findIn K (.ref c_Book) "__init__" = some (some (.ref i_Book)))
    (fn_Book : PySem.W.isFn K (.ref i_Book) = true)
    (na_Book_kinds : PySem.W.findIn K (.ref c_Book) "kinds" = some none)
    (na_Book_parts : PySem.W.findIn K (.ref c_Book) "parts" = some none)
    (na_Book_planes : PySem.W.findIn K (.ref c_Book) "planes" = some none)
    (na_Book_last_day : PySem.W.findIn K (.ref c_Book) "last_day" = some none)
    (l_i_Book : K.lookup i_Book = some ⟨oc_i_Book, od_i_Book, .func (PySem.W.fnOf "__init__" "Book.__init__" (defArgs s_i_Book) (defBody s_i_Book) (defScope s_i_Book) .none kV_i_Book dc_i_Book pm_i_Book an_i_Book cd_i_Book ct_i_Book), sl_i_Book⟩)
    (c_i_Book : PySem.W.codeIn K cd_i_Book "Book.__init__" = true)
    (k_i_Book : PySem.W.keepIn K (.ref i_Book) = true)
    (g_Hangar : PySem.W.nsIn K mainGlobals "Hangar" = some (some (.ref c_Hangar)))
    (pg_Hangar : PySem.W.plainGet K c_Hangar Str.empty = true)
    (hd_Hangar : PySem.W.hasDictIn K c_Hangar = true)
    (po_Hangar : PySem.W.plainOver K c_Hangar = true)
    (sa_Hangar : PySem.W.findIn K (.ref c_Hangar) "__setattr__" = some (some (.builtin "object.__setattr__")))
    (mk_Hangar : PySem.W.makesIn K c_Hangar = true)
    (kc_Hangar : PySem.W.keepIn K (.ref c_Hangar) = true)
    (in_Hangar : PySem.W.findIn K (.ref c_Hangar) "__init__" = some (some (.ref i_Hangar)))
    (fn_Hangar : PySem.W.isFn K (.ref i_Hangar) = true)
    (na_Hangar_book : PySem.W.findIn K (.ref c_Hangar) "book" = some none)
    (l_i_Hangar : K.lookup i_Hangar = some ⟨oc_i_Hangar, od_i_Hangar, .func (PySem.W.fnOf "__init__" "Hangar.__init__" (defArgs s_i_Hangar) (defBody s_i_Hangar) (defScope s_i_Hangar) .none kV_i_Hangar dc_i_Hangar pm_i_Hangar an_i_Hangar cd_i_Hangar ct_i_Hangar), sl_i_Hangar⟩)
    (c_i_Hangar : PySem.W.codeIn K cd_i_Hangar "Hangar.__init__" = true)
    (k_i_Hangar : PySem.W.keepIn K (.ref i_Hangar) = true)
    (g_Tape : PySem.W.nsIn K mainGlobals "Tape" = some (some (.ref c_Tape)))
    (pg_Tape : PySem.W.plainGet K c_Tape Str.empty = true)
    (hd_Tape : PySem.W.hasDictIn K c_Tape = true)
    (po_Tape : PySem.W.plainOver K c_Tape = true)
    (sa_Tape : PySem.W.findIn K (.ref c_Tape) "__setattr__" = some (some (.builtin "object.__setattr__")))
    (mk_Tape : PySem.W.makesIn K c_Tape = true)
    (kc_Tape : PySem.W.keepIn K (.ref c_Tape) = true)
    (in_Tape : PySem.W.findIn K (.ref c_Tape) "__init__" = some (some (.ref i_Tape)))
    (fn_Tape : PySem.W.isFn K (.ref i_Tape) = true)
    (na_Tape_numbers : PySem.W.findIn K (.ref c_Tape) "numbers" = some none)
    (na_Tape_at : PySem.W.findIn K (.ref c_Tape) "at" = some none)
    (l_i_Tape : K.lookup i_Tape = some ⟨oc_i_Tape, od_i_Tape, .func (PySem.W.fnOf "__init__" "Tape.__init__" (defArgs s_i_Tape) (defBody s_i_Tape) (defScope s_i_Tape) .none kV_i_Tape dc_i_Tape pm_i_Tape an_i_Tape cd_i_Tape ct_i_Tape), sl_i_Tape⟩)
    (c_i_Tape : PySem.W.codeIn K cd_i_Tape "Tape.__init__" = true)
    (k_i_Tape : PySem.W.keepIn K (.ref i_Tape) = true)
    (me_is_away : PySem.W.findIn K (.ref c_Plane) "is_away" = some (some (.ref m_is_away)))
    (fm_is_away : PySem.W.isFn K (.ref m_is_away) = true)
    (l_m_is_away : K.lookup m_is_away = some ⟨oc_m_is_away, od_m_is_away, .func (PySem.W.fnOf "is_away" "Plane.is_away" (defArgs s_m_is_away) (defBody s_m_is_away) (defScope s_m_is_away) .none kV_m_is_away dc_m_is_away pm_m_is_away an_m_is_away cd_m_is_away ct_m_is_away), sl_m_is_away⟩)
    (c_m_is_away : PySem.W.codeIn K cd_m_is_away "Plane.is_away" = true)
    (k_m_is_away : PySem.W.keepIn K (.ref m_is_away) = true)
    (me_is_done : PySem.W.findIn K (.ref c_Tape) "is_done" = some (some (.ref m_is_done)))
    (fm_is_done : PySem.W.isFn K (.ref m_is_done) = true)
    (l_m_is_done : K.lookup m_is_done = some ⟨oc_m_is_done, od_m_is_done, .func (PySem.W.fnOf "is_done" "Tape.is_done" (defArgs s_m_is_done) (defBody s_m_is_done) (defScope s_m_is_done) .none kV_m_is_done dc_m_is_done pm_m_is_done an_m_is_done cd_m_is_done ct_m_is_done), sl_m_is_done⟩)
    (c_m_is_done : PySem.W.codeIn K cd_m_is_done "Tape.is_done" = true)
    (k_m_is_done : PySem.W.keepIn K (.ref m_is_done) = true)
    (me_take_one : PySem.W.findIn K (.ref c_Tape) "take_one" = some (some (.ref m_take_one)))
    (fm_take_one : PySem.W.isFn K (.ref m_take_one) = true)
    (l_m_take_one : K.lookup m_take_one = some ⟨oc_m_take_one, od_m_take_one, .func (PySem.W.fnOf "take_one" "Tape.take_one" (defArgs s_m_take_one) (defBody s_m_take_one) (defScope s_m_take_one) .none kV_m_take_one dc_m_take_one pm_m_take_one an_m_take_one cd_m_take_one ct_m_take_one), sl_m_take_one⟩)
    (c_m_take_one : PySem.W.codeIn K cd_m_take_one "Tape.take_one" = true)
    (k_m_take_one : PySem.W.keepIn K (.ref m_take_one) = true)
    (me_take_many : PySem.W.findIn K (.ref c_Tape) "take_many" = some (some (.ref m_take_many)))
    (fm_take_many : PySem.W.isFn K (.ref m_take_many) = true)
    (l_m_take_many : K.lookup m_take_many = some ⟨oc_m_take_many, od_m_take_many, .func (PySem.W.fnOf "take_many" "Tape.take_many" (defArgs s_m_take_many) (defBody s_m_take_many) (defScope s_m_take_many) .none kV_m_take_many dc_m_take_many pm_m_take_many an_m_take_many cd_m_take_many ct_m_take_many), sl_m_take_many⟩)
    (c_m_take_many : PySem.W.codeIn K cd_m_take_many "Tape.take_many" = true)
    (k_m_take_many : PySem.W.keepIn K (.ref m_take_many) = true)
    (g_year_of : PySem.W.nsIn K mainGlobals "year_of" = some (some (.ref f_year_of)))
    (l_f_year_of : K.lookup f_year_of = some ⟨oc_f_year_of, od_f_year_of, .func (PySem.W.fnOf "year_of" "year_of" (defArgs s_f_year_of) (defBody s_f_year_of) (defScope s_f_year_of) .none kV_f_year_of dc_f_year_of pm_f_year_of an_f_year_of cd_f_year_of ct_f_year_of), sl_f_year_of⟩)
    (c_f_year_of : PySem.W.codeIn K cd_f_year_of "year_of" = true)
    (k_f_year_of : PySem.W.keepIn K (.ref f_year_of) = true)
    (g_month_of : PySem.W.nsIn K mainGlobals "month_of" = some (some (.ref f_month_of)))
    (l_f_month_of : K.lookup f_month_of = some ⟨oc_f_month_of, od_f_month_of, .func (PySem.W.fnOf "month_of" "month_of" (defArgs s_f_month_of) (defBody s_f_month_of) (defScope s_f_month_of) .none kV_f_month_of dc_f_month_of pm_f_month_of an_f_month_of cd_f_month_of ct_f_month_of), sl_f_month_of⟩)
    (c_f_month_of : PySem.W.codeIn K cd_f_month_of "month_of" = true)
    (k_f_month_of : PySem.W.keepIn K (.ref f_month_of) = true)
    (g_day_of : PySem.W.nsIn K mainGlobals "day_of" = some (some (.ref f_day_of)))
    (l_f_day_of : K.lookup f_day_of = some ⟨oc_f_day_of, od_f_day_of, .func (PySem.W.fnOf "day_of" "day_of" (defArgs s_f_day_of) (defBody s_f_day_of) (defScope s_f_day_of) .none kV_f_day_of dc_f_day_of pm_f_day_of an_f_day_of cd_f_day_of ct_f_day_of), sl_f_day_of⟩)
    (c_f_day_of : PySem.W.codeIn K cd_f_day_of "day_of" = true)
    (k_f_day_of : PySem.W.keepIn K (.ref f_day_of) = true)
    (g_is_leap : PySem.W.nsIn K mainGlobals "is_leap" = some (some (.ref f_is_leap)))
    (l_f_is_leap : K.lookup f_is_leap = some ⟨oc_f_is_leap, od_f_is_leap, .func (PySem.W.fnOf "is_leap" "is_leap" (defArgs s_f_is_leap) (defBody s_f_is_leap) (defScope s_f_is_leap) .none kV_f_is_leap dc_f_is_leap pm_f_is_leap an_f_is_leap cd_f_is_leap ct_f_is_leap), sl_f_is_leap⟩)
    (c_f_is_leap : PySem.W.codeIn K cd_f_is_leap "is_leap" = true)
    (k_f_is_leap : PySem.W.keepIn K (.ref f_is_leap) = true)
    (g_length_of : PySem.W.nsIn K mainGlobals "length_of" = some (some (.ref f_length_of)))
    (l_f_length_of : K.lookup f_length_of = some ⟨oc_f_length_of, od_f_length_of, .func (PySem.W.fnOf "length_of" "length_of" (defArgs s_f_length_of) (defBody s_f_length_of) (defScope s_f_length_of) .none kV_f_length_of dc_f_length_of pm_f_length_of an_f_length_of cd_f_length_of ct_f_length_of), sl_f_length_of⟩)
    (c_f_length_of : PySem.W.codeIn K cd_f_length_of "length_of" = true)
    (k_f_length_of : PySem.W.keepIn K (.ref f_length_of) = true)
    (g_is_date : PySem.W.nsIn K mainGlobals "is_date" = some (some (.ref f_is_date)))
    (l_f_is_date : K.lookup f_is_date = some ⟨oc_f_is_date, od_f_is_date, .func (PySem.W.fnOf "is_date" "is_date" (defArgs s_f_is_date) (defBody s_f_is_date) (defScope s_f_is_date) .none kV_f_is_date dc_f_is_date pm_f_is_date an_f_is_date cd_f_is_date ct_f_is_date), sl_f_is_date⟩)
    (c_f_is_date : PySem.W.codeIn K cd_f_is_date "is_date" = true)
    (k_f_is_date : PySem.W.keepIn K (.ref f_is_date) = true)
    (g_leaps_before : PySem.W.nsIn K mainGlobals "leaps_before" = some (some (.ref f_leaps_before)))
    (l_f_leaps_before : K.lookup f_leaps_before = some ⟨oc_f_leaps_before, od_f_leaps_before, .func (PySem.W.fnOf "leaps_before" "leaps_before" (defArgs s_f_leaps_before) (defBody s_f_leaps_before) (defScope s_f_leaps_before) .none kV_f_leaps_before dc_f_leaps_before pm_f_leaps_before an_f_leaps_before cd_f_leaps_before ct_f_leaps_before), sl_f_leaps_before⟩)
    (c_f_leaps_before : PySem.W.codeIn K cd_f_leaps_before "leaps_before" = true)
    (k_f_leaps_before : PySem.W.keepIn K (.ref f_leaps_before) = true)
    (g_number_of : PySem.W.nsIn K mainGlobals "number_of" = some (some (.ref f_number_of)))
    (l_f_number_of : K.lookup f_number_of = some ⟨oc_f_number_of, od_f_number_of, .func (PySem.W.fnOf "number_of" "number_of" (defArgs s_f_number_of) (defBody s_f_number_of) (defScope s_f_number_of) .none kV_f_number_of dc_f_number_of pm_f_number_of an_f_number_of cd_f_number_of ct_f_number_of), sl_f_number_of⟩)
    (c_f_number_of : PySem.W.codeIn K cd_f_number_of "number_of" = true)
    (k_f_number_of : PySem.W.keepIn K (.ref f_number_of) = true)
    (g_parts_in : PySem.W.nsIn K mainGlobals "parts_in" = some (some (.ref f_parts_in)))
    (l_f_parts_in : K.lookup f_parts_in = some ⟨oc_f_parts_in, od_f_parts_in, .func (PySem.W.fnOf "parts_in" "parts_in" (defArgs s_f_parts_in) (defBody s_f_parts_in) (defScope s_f_parts_in) .none kV_f_parts_in dc_f_parts_in pm_f_parts_in an_f_parts_in cd_f_parts_in ct_f_parts_in), sl_f_parts_in⟩)
    (c_f_parts_in : PySem.W.codeIn K cd_f_parts_in "parts_in" = true)
    (k_f_parts_in : PySem.W.keepIn K (.ref f_parts_in) = true)
    (g_is_past : PySem.W.nsIn K mainGlobals "is_past" = some (some (.ref f_is_past)))
    (l_f_is_past : K.lookup f_is_past = some ⟨oc_f_is_past, od_f_is_past, .func (PySem.W.fnOf "is_past" "is_past" (defArgs s_f_is_past) (defBody s_f_is_past) (defScope s_f_is_past) .none kV_f_is_past dc_f_is_past pm_f_is_past an_f_is_past cd_f_is_past ct_f_is_past), sl_f_is_past⟩)
    (c_f_is_past : PySem.W.codeIn K cd_f_is_past "is_past" = true)
    (k_f_is_past : PySem.W.keepIn K (.ref f_is_past) = true)
    (g_what_bars : PySem.W.nsIn K mainGlobals "what_bars" = some (some (.ref f_what_bars)))
    (l_f_what_bars : K.lookup f_what_bars = some ⟨oc_f_what_bars, od_f_what_bars, .func (PySem.W.fnOf "what_bars" "what_bars" (defArgs s_f_what_bars) (defBody s_f_what_bars) (defScope s_f_what_bars) .none kV_f_what_bars dc_f_what_bars pm_f_what_bars an_f_what_bars cd_f_what_bars ct_f_what_bars), sl_f_what_bars⟩)
    (c_f_what_bars : PySem.W.codeIn K cd_f_what_bars "what_bars" = true)
    (k_f_what_bars : PySem.W.keepIn K (.ref f_what_bars) = true)
    (g_first_bar : PySem.W.nsIn K mainGlobals "first_bar" = some (some (.ref f_first_bar)))
    (l_f_first_bar : K.lookup f_first_bar = some ⟨oc_f_first_bar, od_f_first_bar, .func (PySem.W.fnOf "first_bar" "first_bar" (defArgs s_f_first_bar) (defBody s_f_first_bar) (defScope s_f_first_bar) .none kV_f_first_bar dc_f_first_bar pm_f_first_bar an_f_first_bar cd_f_first_bar ct_f_first_bar), sl_f_first_bar⟩)
    (c_f_first_bar : PySem.W.codeIn K cd_f_first_bar "first_bar" = true)
    (k_f_first_bar : PySem.W.keepIn K (.ref f_first_bar) = true)
    (g_least_left : PySem.W.nsIn K mainGlobals "least_left" = some (some (.ref f_least_left)))
    (l_f_least_left : K.lookup f_least_left = some ⟨oc_f_least_left, od_f_least_left, .func (PySem.W.fnOf "least_left" "least_left" (defArgs s_f_least_left) (defBody s_f_least_left) (defScope s_f_least_left) .none kV_f_least_left dc_f_least_left pm_f_least_left an_f_least_left cd_f_least_left ct_f_least_left), sl_f_least_left⟩)
    (c_f_least_left : PySem.W.codeIn K cd_f_least_left "least_left" = true)
    (k_f_least_left : PySem.W.keepIn K (.ref f_least_left) = true)
    (g_left_in : PySem.W.nsIn K mainGlobals "left_in" = some (some (.ref f_left_in)))
    (l_f_left_in : K.lookup f_left_in = some ⟨oc_f_left_in, od_f_left_in, .func (PySem.W.fnOf "left_in" "left_in" (defArgs s_f_left_in) (defBody s_f_left_in) (defScope s_f_left_in) .none kV_f_left_in dc_f_left_in pm_f_left_in an_f_left_in cd_f_left_in ct_f_left_in), sl_f_left_in⟩)
    (c_f_left_in : PySem.W.codeIn K cd_f_left_in "left_in" = true)
    (k_f_left_in : PySem.W.keepIn K (.ref f_left_in) = true)
    (g_count_flight : PySem.W.nsIn K mainGlobals "count_flight" = some (some (.ref f_count_flight)))
    (l_f_count_flight : K.lookup f_count_flight = some ⟨oc_f_count_flight, od_f_count_flight, .func (PySem.W.fnOf "count_flight" "count_flight" (defArgs s_f_count_flight) (defBody s_f_count_flight) (defScope s_f_count_flight) .none kV_f_count_flight dc_f_count_flight pm_f_count_flight an_f_count_flight cd_f_count_flight ct_f_count_flight), sl_f_count_flight⟩)
    (c_f_count_flight : PySem.W.codeIn K cd_f_count_flight "count_flight" = true)
    (k_f_count_flight : PySem.W.keepIn K (.ref f_count_flight) = true)
    (g_do_task : PySem.W.nsIn K mainGlobals "do_task" = some (some (.ref f_do_task)))
    (l_f_do_task : K.lookup f_do_task = some ⟨oc_f_do_task, od_f_do_task, .func (PySem.W.fnOf "do_task" "do_task" (defArgs s_f_do_task) (defBody s_f_do_task) (defScope s_f_do_task) .none kV_f_do_task dc_f_do_task pm_f_do_task an_f_do_task cd_f_do_task ct_f_do_task), sl_f_do_task⟩)
    (c_f_do_task : PySem.W.codeIn K cd_f_do_task "do_task" = true)
    (k_f_do_task : PySem.W.keepIn K (.ref f_do_task) = true)
    (g_ask : PySem.W.nsIn K mainGlobals "ask" = some (some (.ref f_ask)))
    (l_f_ask : K.lookup f_ask = some ⟨oc_f_ask, od_f_ask, .func (PySem.W.fnOf "ask" "ask" (defArgs s_f_ask) (defBody s_f_ask) (defScope s_f_ask) .none kV_f_ask dc_f_ask pm_f_ask an_f_ask cd_f_ask ct_f_ask), sl_f_ask⟩)
    (c_f_ask : PySem.W.codeIn K cd_f_ask "ask" = true)
    (k_f_ask : PySem.W.keepIn K (.ref f_ask) = true)
    (g_ask_plane : PySem.W.nsIn K mainGlobals "ask_plane" = some (some (.ref f_ask_plane)))
    (l_f_ask_plane : K.lookup f_ask_plane = some ⟨oc_f_ask_plane, od_f_ask_plane, .func (PySem.W.fnOf "ask_plane" "ask_plane" (defArgs s_f_ask_plane) (defBody s_f_ask_plane) (defScope s_f_ask_plane) .none kV_f_ask_plane dc_f_ask_plane pm_f_ask_plane an_f_ask_plane cd_f_ask_plane ct_f_ask_plane), sl_f_ask_plane⟩)
    (c_f_ask_plane : PySem.W.codeIn K cd_f_ask_plane "ask_plane" = true)
    (k_f_ask_plane : PySem.W.keepIn K (.ref f_ask_plane) = true)
    (g_ask_order : PySem.W.nsIn K mainGlobals "ask_order" = some (some (.ref f_ask_order)))
    (l_f_ask_order : K.lookup f_ask_order = some ⟨oc_f_ask_order, od_f_ask_order, .func (PySem.W.fnOf "ask_order" "ask_order" (defArgs s_f_ask_order) (defBody s_f_ask_order) (defScope s_f_ask_order) .none kV_f_ask_order dc_f_ask_order pm_f_ask_order an_f_ask_order cd_f_ask_order ct_f_ask_order), sl_f_ask_order⟩)
    (c_f_ask_order : PySem.W.codeIn K cd_f_ask_order "ask_order" = true)
    (k_f_ask_order : PySem.W.keepIn K (.ref f_ask_order) = true)
    (g_part_at : PySem.W.nsIn K mainGlobals "part_at" = some (some (.ref f_part_at)))
    (l_f_part_at : K.lookup f_part_at = some ⟨oc_f_part_at, od_f_part_at, .func (PySem.W.fnOf "part_at" "part_at" (defArgs s_f_part_at) (defBody s_f_part_at) (defScope s_f_part_at) .none kV_f_part_at dc_f_part_at pm_f_part_at an_f_part_at cd_f_part_at ct_f_part_at), sl_f_part_at⟩)
    (c_f_part_at : PySem.W.codeIn K cd_f_part_at "part_at" = true)
    (k_f_part_at : PySem.W.keepIn K (.ref f_part_at) = true)
    (g_do_part : PySem.W.nsIn K mainGlobals "do_part" = some (some (.ref f_do_part)))
    (l_f_do_part : K.lookup f_do_part = some ⟨oc_f_do_part, od_f_do_part, .func (PySem.W.fnOf "do_part" "do_part" (defArgs s_f_do_part) (defBody s_f_do_part) (defScope s_f_do_part) .none kV_f_do_part dc_f_do_part pm_f_do_part an_f_do_part cd_f_do_part ct_f_do_part), sl_f_do_part⟩)
    (c_f_do_part : PySem.W.codeIn K cd_f_do_part "do_part" = true)
    (k_f_do_part : PySem.W.keepIn K (.ref f_do_part) = true)
    (g_do_put : PySem.W.nsIn K mainGlobals "do_put" = some (some (.ref f_do_put)))
    (l_f_do_put : K.lookup f_do_put = some ⟨oc_f_do_put, od_f_do_put, .func (PySem.W.fnOf "do_put" "do_put" (defArgs s_f_do_put) (defBody s_f_do_put) (defScope s_f_do_put) .none kV_f_do_put dc_f_do_put pm_f_do_put an_f_do_put cd_f_do_put ct_f_do_put), sl_f_do_put⟩)
    (c_f_do_put : PySem.W.codeIn K cd_f_do_put "do_put" = true)
    (k_f_do_put : PySem.W.keepIn K (.ref f_do_put) = true)
    (g_do_take : PySem.W.nsIn K mainGlobals "do_take" = some (some (.ref f_do_take)))
    (l_f_do_take : K.lookup f_do_take = some ⟨oc_f_do_take, od_f_do_take, .func (PySem.W.fnOf "do_take" "do_take" (defArgs s_f_do_take) (defBody s_f_do_take) (defScope s_f_do_take) .none kV_f_do_take dc_f_do_take pm_f_do_take an_f_do_take cd_f_do_take ct_f_do_take), sl_f_do_take⟩)
    (c_f_do_take : PySem.W.codeIn K cd_f_do_take "do_take" = true)
    (k_f_do_take : PySem.W.keepIn K (.ref f_do_take) = true)
    (g_do_did : PySem.W.nsIn K mainGlobals "do_did" = some (some (.ref f_do_did)))
    (l_f_do_did : K.lookup f_do_did = some ⟨oc_f_do_did, od_f_do_did, .func (PySem.W.fnOf "do_did" "do_did" (defArgs s_f_do_did) (defBody s_f_do_did) (defScope s_f_do_did) .none kV_f_do_did dc_f_do_did pm_f_do_did an_f_do_did cd_f_do_did ct_f_do_did), sl_f_do_did⟩)
    (c_f_do_did : PySem.W.codeIn K cd_f_do_did "do_did" = true)
    (k_f_do_did : PySem.W.keepIn K (.ref f_do_did) = true)
    (g_ask_flight : PySem.W.nsIn K mainGlobals "ask_flight" = some (some (.ref f_ask_flight)))
    (l_f_ask_flight : K.lookup f_ask_flight = some ⟨oc_f_ask_flight, od_f_ask_flight, .func (PySem.W.fnOf "ask_flight" "ask_flight" (defArgs s_f_ask_flight) (defBody s_f_ask_flight) (defScope s_f_ask_flight) .none kV_f_ask_flight dc_f_ask_flight pm_f_ask_flight an_f_ask_flight cd_f_ask_flight ct_f_ask_flight), sl_f_ask_flight⟩)
    (c_f_ask_flight : PySem.W.codeIn K cd_f_ask_flight "ask_flight" = true)
    (k_f_ask_flight : PySem.W.keepIn K (.ref f_ask_flight) = true)
    (g_do_go : PySem.W.nsIn K mainGlobals "do_go" = some (some (.ref f_do_go)))
    (l_f_do_go : K.lookup f_do_go = some ⟨oc_f_do_go, od_f_do_go, .func (PySem.W.fnOf "do_go" "do_go" (defArgs s_f_do_go) (defBody s_f_do_go) (defScope s_f_do_go) .none kV_f_do_go dc_f_do_go pm_f_do_go an_f_do_go cd_f_do_go ct_f_do_go), sl_f_do_go⟩)
    (c_f_do_go : PySem.W.codeIn K cd_f_do_go "do_go" = true)
    (k_f_do_go : PySem.W.keepIn K (.ref f_do_go) = true)
    (g_do_bars : PySem.W.nsIn K mainGlobals "do_bars" = some (some (.ref f_do_bars)))
    (l_f_do_bars : K.lookup f_do_bars = some ⟨oc_f_do_bars, od_f_do_bars, .func (PySem.W.fnOf "do_bars" "do_bars" (defArgs s_f_do_bars) (defBody s_f_do_bars) (defScope s_f_do_bars) .none kV_f_do_bars dc_f_do_bars pm_f_do_bars an_f_do_bars cd_f_do_bars ct_f_do_bars), sl_f_do_bars⟩)
    (c_f_do_bars : PySem.W.codeIn K cd_f_do_bars "do_bars" = true)
    (k_f_do_bars : PySem.W.keepIn K (.ref f_do_bars) = true)
    (g_told_again : PySem.W.nsIn K mainGlobals "told_again" = some (some (.ref f_told_again)))
    (l_f_told_again : K.lookup f_told_again = some ⟨oc_f_told_again, od_f_told_again, .func (PySem.W.fnOf "told_again" "told_again" (defArgs s_f_told_again) (defBody s_f_told_again) (defScope s_f_told_again) .none kV_f_told_again dc_f_told_again pm_f_told_again an_f_told_again cd_f_told_again ct_f_told_again), sl_f_told_again⟩)
    (c_f_told_again : PySem.W.codeIn K cd_f_told_again "told_again" = true)
    (k_f_told_again : PySem.W.keepIn K (.ref f_told_again) = true)
    (g_do_flew : PySem.W.nsIn K mainGlobals "do_flew" = some (some (.ref f_do_flew)))
    (l_f_do_flew : K.lookup f_do_flew = some ⟨oc_f_do_flew, od_f_do_flew, .func (PySem.W.fnOf "do_flew" "do_flew" (defArgs s_f_do_flew) (defBody s_f_do_flew) (defScope s_f_do_flew) .none kV_f_do_flew dc_f_do_flew pm_f_do_flew an_f_do_flew cd_f_do_flew ct_f_do_flew), sl_f_do_flew⟩)
    (c_f_do_flew : PySem.W.codeIn K cd_f_do_flew "do_flew" = true)
    (k_f_do_flew : PySem.W.keepIn K (.ref f_do_flew) = true)
    (g_do_left : PySem.W.nsIn K mainGlobals "do_left" = some (some (.ref f_do_left)))
    (l_f_do_left : K.lookup f_do_left = some ⟨oc_f_do_left, od_f_do_left, .func (PySem.W.fnOf "do_left" "do_left" (defArgs s_f_do_left) (defBody s_f_do_left) (defScope s_f_do_left) .none kV_f_do_left dc_f_do_left pm_f_do_left an_f_do_left cd_f_do_left ct_f_do_left), sl_f_do_left⟩)
    (c_f_do_left : PySem.W.codeIn K cd_f_do_left "do_left" = true)
    (k_f_do_left : PySem.W.keepIn K (.ref f_do_left) = true)
    (g_do_of : PySem.W.nsIn K mainGlobals "do_of" = some (some (.ref f_do_of)))
    (l_f_do_of : K.lookup f_do_of = some ⟨oc_f_do_of, od_f_do_of, .func (PySem.W.fnOf "do_of" "do_of" (defArgs s_f_do_of) (defBody s_f_do_of) (defScope s_f_do_of) .none kV_f_do_of dc_f_do_of pm_f_do_of an_f_do_of cd_f_do_of ct_f_do_of), sl_f_do_of⟩)
    (c_f_do_of : PySem.W.codeIn K cd_f_do_of "do_of" = true)
    (k_f_do_of : PySem.W.keepIn K (.ref f_do_of) = true)
    (g_answer_start : PySem.W.nsIn K mainGlobals "answer_start" = some (some (.ref f_answer_start)))
    (l_f_answer_start : K.lookup f_answer_start = some ⟨oc_f_answer_start, od_f_answer_start, .func (PySem.W.fnOf "answer_start" "answer_start" (defArgs s_f_answer_start) (defBody s_f_answer_start) (defScope s_f_answer_start) .none kV_f_answer_start dc_f_answer_start pm_f_answer_start an_f_answer_start cd_f_answer_start ct_f_answer_start), sl_f_answer_start⟩)
    (c_f_answer_start : PySem.W.codeIn K cd_f_answer_start "answer_start" = true)
    (k_f_answer_start : PySem.W.keepIn K (.ref f_answer_start) = true)
    (g_answer : PySem.W.nsIn K mainGlobals "answer" = some (some (.ref f_answer)))
    (l_f_answer : K.lookup f_answer = some ⟨oc_f_answer, od_f_answer, .func (PySem.W.fnOf "answer" "answer" (defArgs s_f_answer) (defBody s_f_answer) (defScope s_f_answer) .none kV_f_answer dc_f_answer pm_f_answer an_f_answer cd_f_answer ct_f_answer), sl_f_answer⟩)
    (c_f_answer : PySem.W.codeIn K cd_f_answer "answer" = true)
    (k_f_answer : PySem.W.keepIn K (.ref f_answer) = true)
    (g_answers : PySem.W.nsIn K mainGlobals "answers" = some (some (.ref f_answers)))
    (l_f_answers : K.lookup f_answers = some ⟨oc_f_answers, od_f_answers, .func (PySem.W.fnOf "answers" "answers" (defArgs s_f_answers) (defBody s_f_answers) (defScope s_f_answers) .none kV_f_answers dc_f_answers pm_f_answers an_f_answers cd_f_answers ct_f_answers), sl_f_answers⟩)
    (c_f_answers : PySem.W.codeIn K cd_f_answers "answers" = true)
    (k_f_answers : PySem.W.keepIn K (.ref f_answers) = true)
    (g_FIRST_YEAR : PySem.W.nsIn K mainGlobals "FIRST_YEAR" = some (some (.int 1900 t_FIRST_YEAR)))
    (g_LAST_YEAR : PySem.W.nsIn K mainGlobals "LAST_YEAR" = some (some (.int 2199 t_LAST_YEAR)))
    (g_FEBRUARY : PySem.W.nsIn K mainGlobals "FEBRUARY" = some (some (.int 2 t_FEBRUARY)))
    (g_TASKS : PySem.W.nsIn K mainGlobals "TASKS" = some (some (.int 4 t_TASKS)))
    (g_PLANES : PySem.W.nsIn K mainGlobals "PLANES" = some (some (.int 16 t_PLANES)))
    (g_NO_PLANE : PySem.W.nsIn K mainGlobals "NO_PLANE" = some (some (.int 255 t_NO_PLANE)))
    (g_NO_LIMIT : PySem.W.nsIn K mainGlobals "NO_LIMIT" = some (some (.int 4294967295 t_NO_LIMIT)))
    (g_BY_MINUTES : PySem.W.nsIn K mainGlobals "BY_MINUTES" = some (some (.int 0 t_BY_MINUTES)))
    (g_BY_LANDINGS : PySem.W.nsIn K mainGlobals "BY_LANDINGS" = some (some (.int 1 t_BY_LANDINGS)))
    (g_BY_DAYS : PySem.W.nsIn K mainGlobals "BY_DAYS" = some (some (.int 2 t_BY_DAYS)))
    (g_WRONG : PySem.W.nsIn K mainGlobals "WRONG" = some (some (.int (-22) t_WRONG)))
    (g_NO_SUCH : PySem.W.nsIn K mainGlobals "NO_SUCH" = some (some (.int (-2) t_NO_SUCH)))
    (g_IN_NONE : PySem.W.nsIn K mainGlobals "IN_NONE" = some (some (.int (-11) t_IN_NONE)))
    (g_BEFORE : PySem.W.nsIn K mainGlobals "BEFORE" = some (some (.int (-13) t_BEFORE)))
    (g_AWAY : PySem.W.nsIn K mainGlobals "AWAY" = some (some (.int (-16) t_AWAY)))
    (g_OTHERWISE : PySem.W.nsIn K mainGlobals "OTHERWISE" = some (some (.int (-17) t_OTHERWISE)))
    (g_FULL : PySem.W.nsIn K mainGlobals "FULL" = some (some (.int (-28) t_FULL)))
    (g_BARRED : PySem.W.nsIn K mainGlobals "BARRED" = some (some (.int (-33) t_BARRED)))
    (g_NOT_FLOWN : PySem.W.nsIn K mainGlobals "NOT_FLOWN" = some (some (.int (-71) t_NOT_FLOWN)))
    (g_MOST_PARTS : PySem.W.nsIn K mainGlobals "MOST_PARTS" = some (some (.int 256 t_MOST_PARTS)))
    (g_MOST_IN_PLANE : PySem.W.nsIn K mainGlobals "MOST_IN_PLANE" = some (some (.int 32 t_MOST_IN_PLANE)))
    (g_MOST_LET_GO : PySem.W.nsIn K mainGlobals "MOST_LET_GO" = some (some (.int 1440 t_MOST_LET_GO)))
    (g_MOST_MINUTES : PySem.W.nsIn K mainGlobals "MOST_MINUTES" = some (some (.int 65535 t_MOST_MINUTES)))
    (g_MOST_SINCE : PySem.W.nsIn K mainGlobals "MOST_SINCE" = some (some (.int 64 t_MOST_SINCE)))
    (g_FLIGHT_BOUND : PySem.W.nsIn K mainGlobals "FLIGHT_BOUND" = some (some (.int 2147483648 t_FLIGHT_BOUND)))
    (g_START : PySem.W.nsIn K mainGlobals "START" = some (some (.int 0 t_START)))
    (g_KIND_NUMBERS : PySem.W.nsIn K mainGlobals "KIND_NUMBERS" = some (some (.int 12 t_KIND_NUMBERS)))
    (g_MOST_KINDS : PySem.W.nsIn K mainGlobals "MOST_KINDS" = some (some (.int 16 t_MOST_KINDS)))
    (n_range : PySem.W.nsIn K mainGlobals "range" = some none)
    (n_len : PySem.W.nsIn K mainGlobals "len" = some none)
    (n_int : PySem.W.nsIn K mainGlobals "int" = some none)
    (n_min : PySem.W.nsIn K mainGlobals "min" = some none)
    (n_max : PySem.W.nsIn K mainGlobals "max" = some none)
    (n_list : PySem.W.nsIn K mainGlobals "list" = some none)
    (r_a : PySem.W.nsIn K mainGlobals "Refused" = some (some (.ref c_Refused)))
    (r_x : K.lookup c_Refused = some (excClassObj nm q c_Refused N bs [.type "ValueError", .type "Exception", .type "BaseException", .type "object"] true sn sub ab col dd m0 m1 m2 m3 m5 "ValueError.__new__"))
    (r_sa : PySem.W.findIn K (.ref c_Refused) "__setattr__" = some (some (.builtin "object.__setattr__")))
    (r_ga : PySem.W.findIn K (.ref c_Refused) "__getattribute__" = some (some (.builtin "BaseException.__getattribute__")))
    (r_gg : PySem.W.findIn K (.ref c_Refused) "__getattr__" = some none)
    (r_nb : PySem.W.findIn K (.ref c_Refused) "number" = some none)
    (r_i : PySem.W.findIn K (.ref c_Refused) "__init__" = some (some (.ref i_Refused)))
    (r_t : PySem.W.typeIn K (.ref i_Refused) = some (.type "function"))
    (r_l : K.lookup i_Refused = some ⟨oc1, od1, .func (PySem.W.fnOf "__init__" "Refused.__init__" (PySem.LowX.iA ⟨135, 17, 135, 21⟩ ⟨135, 23, 135, 29⟩) (PySem.LowX.iB ⟨136, 8, 136, 12⟩ ⟨136, 8, 136, 19⟩ ⟨136, 22, 136, 28⟩ ⟨136, 8, 136, 28⟩) PySem.LowX.iS .none .none dc1 pm1 an1 cd1 ct1), sl1⟩)
    (r_c : PySem.W.codeIn K cd1 "Refused.__init__" = true)
    (r_k : PySem.W.keepIn K (.ref c_Refused) = true)
    (r_e : PySem.W.subIn K (.ref c_Refused) (.type "BaseException") = some true)
    (r_y : PySem.W.typeIn K (.ref c_Refused) = some (.type "type"))
    (r_h : PySem.W.hasDictIn K c_Refused = true)
    (r_z : PySem.W.isClsIn K c_Refused = true)
    (r_s : PySem.W.subIn K (.ref c_Refused) (.ref c_Refused) = some true)
    (g_ML : PySem.W.nsIn K mainGlobals "MONTH_LENGTHS" = some (some (.ref aML)))
    (l_ML : K.lookup aML = some ⟨.type "tuple", odML, .seq #[.int 31 u0, .int 28 u1, .int 31 u2, .int 30 u3, .int 31 u4, .int 30 u5, .int 31 u6, .int 31 u7, .int 30 u8, .int 31 u9, .int 30 u10, .int 31 u11] nML, slML⟩)
    (g_D : PySem.W.nsIn K mainGlobals "DEEDS" = some (some (.ref aD)))
    (l_D : K.lookup aD = some ⟨.type "dict", none, .dict es nD, #[]⟩)
    (z_D : KeysInt es.toList)
    (z_1 : findBy Value.isInt es 1 = some (.ref d1))
    (l_d1 : K.lookup d1 = some ⟨.type "tuple", od1, .seq #[.int 2 td1, .ref f_do_part] n1, sd1⟩)
    (z_2 : findBy Value.isInt es 2 = some (.ref d2))
    (l_d2 : K.lookup d2 = some ⟨.type "tuple", od2, .seq #[.int 3 td2, .ref f_do_put] n2, sd2⟩)
    (z_3 : findBy Value.isInt es 3 = some (.ref d3))
    (l_d3 : K.lookup d3 = some ⟨.type "tuple", od3, .seq #[.int 2 td3, .ref f_do_take] n3, sd3⟩)
    (z_4 : findBy Value.isInt es 4 = some (.ref d4))
    (l_d4 : K.lookup d4 = some ⟨.type "tuple", od4, .seq #[.int 3 td4, .ref f_do_did] n4, sd4⟩)
    (z_5 : findBy Value.isInt es 5 = some (.ref d5))
    (l_d5 : K.lookup d5 = some ⟨.type "tuple", od5, .seq #[.int 3 td5, .ref f_do_go] n5, sd5⟩)
    (z_6 : findBy Value.isInt es 6 = some (.ref d6))
    (l_d6 : K.lookup d6 = some ⟨.type "tuple", od6, .seq #[.int 3 td6, .ref f_do_bars] n6, sd6⟩)
    (z_7 : findBy Value.isInt es 7 = some (.ref d7))
    (l_d7 : K.lookup d7 = some ⟨.type "tuple", od7, .seq #[.int 3 td7, .ref f_do_flew] n7, sd7⟩)
    (z_8 : findBy Value.isInt es 8 = some (.ref d8))
    (l_d8 : K.lookup d8 = some ⟨.type "tuple", od8, .seq #[.int 2 td8, .ref f_do_left] n8, sd8⟩)
    (z_9 : findBy Value.isInt es 9 = some (.ref d9))
    (l_d9 : K.lookup d9 = some ⟨.type "tuple", od9, .seq #[.int 1 td9, .ref f_do_of] n9, sd9⟩)
    : ∃ fd : FuncData, (∀ (s : Shared) (us : List Value), us.length = (["calls"] : List Str).length → BindsTo s fd ⟨us, []⟩ ((["calls"] : List Str).zip us)) ∧ ∀ base : Heap, K.In base → base.Ns mainGlobals mg → FnOk P w K mg base CX0 8 fa fd ["calls"] (spAnswers K) := by
  have e : fa = f_answers := by
    have q := hfa.symm.trans (PySem.W.mg_of KX G g_answers)
    cases q
    rfl
  rw [e]
  have te := exm_own r_e r_z r_y r_s
  have low : PySem.LowX.LowTxt K mg c_Refused i_Refused :=
    { gC := PySem.W.mg_of KX G r_a, cls := ⟨nm, q, N, bs, _, sn, sub, ab, col, dd, m0, m1, m2, m3, m5, r_x, by decide +kernel⟩, sa := r_sa, ga := r_ga, gg := r_gg, noN := r_nb, iC := r_i, tC := r_t, kC := r_k, exC := r_e, tyC := r_y, hdC := r_h, te := te,
      fn := ⟨_, _, _, _, _, _, _, _, _, _, _, _, _, _, r_l, r_c⟩ }
  let A : Ads := { c_Kind := c_Kind, c_Part := c_Part, c_Plane := c_Plane, c_Book := c_Book, c_Refused := c_Refused, c_Hangar := c_Hangar, c_Tape := c_Tape, f_year_of := f_year_of, f_month_of := f_month_of, f_day_of := f_day_of, f_is_leap := f_is_leap, f_length_of := f_length_of, f_is_date := f_is_date, f_leaps_before := f_leaps_before, f_number_of := f_number_of, i_Kind := i_Kind, i_Part := i_Part, i_Plane := i_Plane, m_is_away := m_is_away, i_Book := i_Book, f_parts_in := f_parts_in, f_is_past := f_is_past, f_what_bars := f_what_bars, f_first_bar := f_first_bar, f_least_left := f_least_left, f_left_in := f_left_in, f_count_flight := f_count_flight, f_do_task := f_do_task, i_Refused := i_Refused, f_ask := f_ask, f_ask_plane := f_ask_plane, f_ask_order := f_ask_order, f_part_at := f_part_at, f_do_part := f_do_part, f_do_put := f_do_put, f_do_take := f_do_take, f_do_did := f_do_did, f_ask_flight := f_ask_flight, f_do_go := f_do_go, f_do_bars := f_do_bars, f_told_again := f_told_again, f_do_flew := f_do_flew, f_do_left := f_do_left, f_do_of := f_do_of, i_Hangar := i_Hangar, i_Tape := i_Tape, m_is_done := m_is_done, m_take_one := m_take_one, m_take_many := m_take_many, f_answer_start := f_answer_start, f_answer := f_answer, f_answers := f_answers, D := aD, ML := aML, d1 := d1, d2 := d2, d3 := d3, d4 := d4, d5 := d5, d6 := d6, d7 := d7, d8 := d8, d9 := d9 }
  have T : Txt K mg A := {
    cl_Kind := ⟨pg_Kind, hd_Kind, po_Kind, sa_Kind⟩,
    g_Kind := PySem.W.mg_of KX G g_Kind,
    mk_Kind := ⟨mk_Kind, in_Kind, fn_Kind, kc_Kind⟩,
    na_Kind_minutes := na_Kind_minutes,
    na_Kind_landings := na_Kind_landings,
    na_Kind_days := na_Kind_days,
    cl_Part := ⟨pg_Part, hd_Part, po_Part, sa_Part⟩,
    g_Part := PySem.W.mg_of KX G g_Part,
    mk_Part := ⟨mk_Part, in_Part, fn_Part, kc_Part⟩,
    na_Part_kind := na_Part_kind,
    na_Part_plane := na_Part_plane,
    na_Part_minutes := na_Part_minutes,
    na_Part_landings := na_Part_landings,
    na_Part_minutes_since := na_Part_minutes_since,
    na_Part_landings_since := na_Part_landings_since,
    na_Part_done_on := na_Part_done_on,
    cl_Plane := ⟨pg_Plane, hd_Plane, po_Plane, sa_Plane⟩,
    g_Plane := PySem.W.mg_of KX G g_Plane,
    mk_Plane := ⟨mk_Plane, in_Plane, fn_Plane, kc_Plane⟩,
    na_Plane_flown := na_Plane_flown,
    na_Plane_let_go := na_Plane_let_go,
    cl_Book := ⟨pg_Book, hd_Book, po_Book, sa_Book⟩,
    g_Book := PySem.W.mg_of KX G g_Book,
    mk_Book := ⟨mk_Book, in_Book, fn_Book, kc_Book⟩,
    na_Book_kinds := na_Book_kinds,
    na_Book_parts := na_Book_parts,
    na_Book_planes := na_Book_planes,
    na_Book_last_day := na_Book_last_day,
    cl_Hangar := ⟨pg_Hangar, hd_Hangar, po_Hangar, sa_Hangar⟩,
    g_Hangar := PySem.W.mg_of KX G g_Hangar,
    mk_Hangar := ⟨mk_Hangar, in_Hangar, fn_Hangar, kc_Hangar⟩,
    na_Hangar_book := na_Hangar_book,
    cl_Tape := ⟨pg_Tape, hd_Tape, po_Tape, sa_Tape⟩,
    g_Tape := PySem.W.mg_of KX G g_Tape,
    mk_Tape := ⟨mk_Tape, in_Tape, fn_Tape, kc_Tape⟩,
    na_Tape_numbers := na_Tape_numbers,
    na_Tape_at := na_Tape_at,
    low := low,
    te := te,
    me_is_away := ⟨me_is_away, fm_is_away, k_m_is_away⟩,
    me_is_done := ⟨me_is_done, fm_is_done, k_m_is_done⟩,
    me_take_one := ⟨me_take_one, fm_take_one, k_m_take_one⟩,
    me_take_many := ⟨me_take_many, fm_take_many, k_m_take_many⟩,
    F_f_year_of := fd_mk l_f_year_of c_f_year_of k_f_year_of,
    F_f_month_of := fd_mk l_f_month_of c_f_month_of k_f_month_of,
    F_f_day_of := fd_mk l_f_day_of c_f_day_of k_f_day_of,
    F_f_is_leap := fd_mk l_f_is_leap c_f_is_leap k_f_is_leap,
    F_f_length_of := fd_mk l_f_length_of c_f_length_of k_f_length_of,
    F_f_is_date := fd_mk l_f_is_date c_f_is_date k_f_is_date,
    F_f_leaps_before := fd_mk l_f_leaps_before c_f_leaps_before k_f_leaps_before,
    F_f_number_of := fd_mk l_f_number_of c_f_number_of k_f_number_of,
    F_i_Kind := fd_mk l_i_Kind c_i_Kind k_i_Kind,
    F_i_Part := fd_mk l_i_Part c_i_Part k_i_Part,
    F_i_Plane := fd_mk l_i_Plane c_i_Plane k_i_Plane,
    F_m_is_away := fd_mk l_m_is_away c_m_is_away k_m_is_away,
    F_i_Book := fd_mk l_i_Book c_i_Book k_i_Book,
    F_f_parts_in := fd_mk l_f_parts_in c_f_parts_in k_f_parts_in,
    F_f_is_past := fd_mk l_f_is_past c_f_is_past k_f_is_past,
    F_f_what_bars := fd_mk l_f_what_bars c_f_what_bars k_f_what_bars,
    F_f_first_bar := fd_mk l_f_first_bar c_f_first_bar k_f_first_bar,
    F_f_least_left := fd_mk l_f_least_left c_f_least_left k_f_least_left,
    F_f_left_in := fd_mk l_f_left_in c_f_left_in k_f_left_in,
    F_f_count_flight := fd_mk l_f_count_flight c_f_count_flight k_f_count_flight,
    F_f_do_task := fd_mk l_f_do_task c_f_do_task k_f_do_task,
    F_f_ask := fd_mk l_f_ask c_f_ask k_f_ask,
    F_f_ask_plane := fd_mk l_f_ask_plane c_f_ask_plane k_f_ask_plane,
    F_f_ask_order := fd_mk l_f_ask_order c_f_ask_order k_f_ask_order,
    F_f_part_at := fd_mk l_f_part_at c_f_part_at k_f_part_at,
    F_f_do_part := fd_mk l_f_do_part c_f_do_part k_f_do_part,
    F_f_do_put := fd_mk l_f_do_put c_f_do_put k_f_do_put,
    F_f_do_take := fd_mk l_f_do_take c_f_do_take k_f_do_take,
    F_f_do_did := fd_mk l_f_do_did c_f_do_did k_f_do_did,
    F_f_ask_flight := fd_mk l_f_ask_flight c_f_ask_flight k_f_ask_flight,
    F_f_do_go := fd_mk l_f_do_go c_f_do_go k_f_do_go,
    F_f_do_bars := fd_mk l_f_do_bars c_f_do_bars k_f_do_bars,
    F_f_told_again := fd_mk l_f_told_again c_f_told_again k_f_told_again,
    F_f_do_flew := fd_mk l_f_do_flew c_f_do_flew k_f_do_flew,
    F_f_do_left := fd_mk l_f_do_left c_f_do_left k_f_do_left,
    F_f_do_of := fd_mk l_f_do_of c_f_do_of k_f_do_of,
    F_i_Hangar := fd_mk l_i_Hangar c_i_Hangar k_i_Hangar,
    F_i_Tape := fd_mk l_i_Tape c_i_Tape k_i_Tape,
    F_m_is_done := fd_mk l_m_is_done c_m_is_done k_m_is_done,
    F_m_take_one := fd_mk l_m_take_one c_m_take_one k_m_take_one,
    F_m_take_many := fd_mk l_m_take_many c_m_take_many k_m_take_many,
    F_f_answer_start := fd_mk l_f_answer_start c_f_answer_start k_f_answer_start,
    F_f_answer := fd_mk l_f_answer c_f_answer k_f_answer,
    F_f_answers := fd_mk l_f_answers c_f_answers k_f_answers,
    g_year_of := PySem.W.mg_of KX G g_year_of,
    g_month_of := PySem.W.mg_of KX G g_month_of,
    g_day_of := PySem.W.mg_of KX G g_day_of,
    g_is_leap := PySem.W.mg_of KX G g_is_leap,
    g_length_of := PySem.W.mg_of KX G g_length_of,
    g_is_date := PySem.W.mg_of KX G g_is_date,
    g_leaps_before := PySem.W.mg_of KX G g_leaps_before,
    g_number_of := PySem.W.mg_of KX G g_number_of,
    g_parts_in := PySem.W.mg_of KX G g_parts_in,
    g_is_past := PySem.W.mg_of KX G g_is_past,
    g_what_bars := PySem.W.mg_of KX G g_what_bars,
    g_first_bar := PySem.W.mg_of KX G g_first_bar,
    g_least_left := PySem.W.mg_of KX G g_least_left,
    g_left_in := PySem.W.mg_of KX G g_left_in,
    g_count_flight := PySem.W.mg_of KX G g_count_flight,
    g_do_task := PySem.W.mg_of KX G g_do_task,
    g_ask := PySem.W.mg_of KX G g_ask,
    g_ask_plane := PySem.W.mg_of KX G g_ask_plane,
    g_ask_order := PySem.W.mg_of KX G g_ask_order,
    g_part_at := PySem.W.mg_of KX G g_part_at,
    g_do_part := PySem.W.mg_of KX G g_do_part,
    g_do_put := PySem.W.mg_of KX G g_do_put,
    g_do_take := PySem.W.mg_of KX G g_do_take,
    g_do_did := PySem.W.mg_of KX G g_do_did,
    g_ask_flight := PySem.W.mg_of KX G g_ask_flight,
    g_do_go := PySem.W.mg_of KX G g_do_go,
    g_do_bars := PySem.W.mg_of KX G g_do_bars,
    g_told_again := PySem.W.mg_of KX G g_told_again,
    g_do_flew := PySem.W.mg_of KX G g_do_flew,
    g_do_left := PySem.W.mg_of KX G g_do_left,
    g_do_of := PySem.W.mg_of KX G g_do_of,
    g_answer_start := PySem.W.mg_of KX G g_answer_start,
    g_answer := PySem.W.mg_of KX G g_answer,
    g_answers := PySem.W.mg_of KX G g_answers,
    g_FIRST_YEAR := ⟨t_FIRST_YEAR, PySem.W.mg_of KX G g_FIRST_YEAR⟩,
    g_LAST_YEAR := ⟨t_LAST_YEAR, PySem.W.mg_of KX G g_LAST_YEAR⟩,
    g_FEBRUARY := ⟨t_FEBRUARY, PySem.W.mg_of KX G g_FEBRUARY⟩,
    g_TASKS := ⟨t_TASKS, PySem.W.mg_of KX G g_TASKS⟩,
    g_PLANES := ⟨t_PLANES, PySem.W.mg_of KX G g_PLANES⟩,
    g_NO_PLANE := ⟨t_NO_PLANE, PySem.W.mg_of KX G g_NO_PLANE⟩,
    g_NO_LIMIT := ⟨t_NO_LIMIT, PySem.W.mg_of KX G g_NO_LIMIT⟩,
    g_BY_MINUTES := ⟨t_BY_MINUTES, PySem.W.mg_of KX G g_BY_MINUTES⟩,
    g_BY_LANDINGS := ⟨t_BY_LANDINGS, PySem.W.mg_of KX G g_BY_LANDINGS⟩,
    g_BY_DAYS := ⟨t_BY_DAYS, PySem.W.mg_of KX G g_BY_DAYS⟩,
    g_WRONG := ⟨t_WRONG, PySem.W.mg_of KX G g_WRONG⟩,
    g_NO_SUCH := ⟨t_NO_SUCH, PySem.W.mg_of KX G g_NO_SUCH⟩,
    g_IN_NONE := ⟨t_IN_NONE, PySem.W.mg_of KX G g_IN_NONE⟩,
    g_BEFORE := ⟨t_BEFORE, PySem.W.mg_of KX G g_BEFORE⟩,
    g_AWAY := ⟨t_AWAY, PySem.W.mg_of KX G g_AWAY⟩,
    g_OTHERWISE := ⟨t_OTHERWISE, PySem.W.mg_of KX G g_OTHERWISE⟩,
    g_FULL := ⟨t_FULL, PySem.W.mg_of KX G g_FULL⟩,
    g_BARRED := ⟨t_BARRED, PySem.W.mg_of KX G g_BARRED⟩,
    g_NOT_FLOWN := ⟨t_NOT_FLOWN, PySem.W.mg_of KX G g_NOT_FLOWN⟩,
    g_MOST_PARTS := ⟨t_MOST_PARTS, PySem.W.mg_of KX G g_MOST_PARTS⟩,
    g_MOST_IN_PLANE := ⟨t_MOST_IN_PLANE, PySem.W.mg_of KX G g_MOST_IN_PLANE⟩,
    g_MOST_LET_GO := ⟨t_MOST_LET_GO, PySem.W.mg_of KX G g_MOST_LET_GO⟩,
    g_MOST_MINUTES := ⟨t_MOST_MINUTES, PySem.W.mg_of KX G g_MOST_MINUTES⟩,
    g_MOST_SINCE := ⟨t_MOST_SINCE, PySem.W.mg_of KX G g_MOST_SINCE⟩,
    g_FLIGHT_BOUND := ⟨t_FLIGHT_BOUND, PySem.W.mg_of KX G g_FLIGHT_BOUND⟩,
    g_START := ⟨t_START, PySem.W.mg_of KX G g_START⟩,
    g_KIND_NUMBERS := ⟨t_KIND_NUMBERS, PySem.W.mg_of KX G g_KIND_NUMBERS⟩,
    g_MOST_KINDS := ⟨t_MOST_KINDS, PySem.W.mg_of KX G g_MOST_KINDS⟩,
    n_range := PySem.W.mg_none_of KX G n_range,
    n_len := PySem.W.mg_none_of KX G n_len,
    n_int := PySem.W.mg_none_of KX G n_int,
    n_min := PySem.W.mg_none_of KX G n_min,
    n_max := PySem.W.mg_none_of KX G n_max,
    n_list := PySem.W.mg_none_of KX G n_list,
    gD := PySem.W.mg_of KX G g_D,
    gML := PySem.W.mg_of KX G g_ML,
    ml := sqt_mk l_ML (by decide : 12 ≤ 16777216) (.cons ⟨_, rfl⟩ (.cons ⟨_, rfl⟩ (.cons ⟨_, rfl⟩ (.cons ⟨_, rfl⟩ (.cons ⟨_, rfl⟩ (.cons ⟨_, rfl⟩ (.cons ⟨_, rfl⟩ (.cons ⟨_, rfl⟩ (.cons ⟨_, rfl⟩ (.cons ⟨_, rfl⟩ (.cons ⟨_, rfl⟩ (.cons ⟨_, rfl⟩ .nil)))))))))))),
    dd1 := kd_mk l_D z_D z_1,
    dt1 := sqt_mk l_d1 (by decide : 2 ≤ 16777216) (.cons ⟨_, rfl⟩ (.cons rfl .nil)),
    dd2 := kd_mk l_D z_D z_2,
    dt2 := sqt_mk l_d2 (by decide : 2 ≤ 16777216) (.cons ⟨_, rfl⟩ (.cons rfl .nil)),
    dd3 := kd_mk l_D z_D z_3,
    dt3 := sqt_mk l_d3 (by decide : 2 ≤ 16777216) (.cons ⟨_, rfl⟩ (.cons rfl .nil)),
    dd4 := kd_mk l_D z_D z_4,
    dt4 := sqt_mk l_d4 (by decide : 2 ≤ 16777216) (.cons ⟨_, rfl⟩ (.cons rfl .nil)),
    dd5 := kd_mk l_D z_D z_5,
    dt5 := sqt_mk l_d5 (by decide : 2 ≤ 16777216) (.cons ⟨_, rfl⟩ (.cons rfl .nil)),
    dd6 := kd_mk l_D z_D z_6,
    dt6 := sqt_mk l_d6 (by decide : 2 ≤ 16777216) (.cons ⟨_, rfl⟩ (.cons rfl .nil)),
    dd7 := kd_mk l_D z_D z_7,
    dt7 := sqt_mk l_d7 (by decide : 2 ≤ 16777216) (.cons ⟨_, rfl⟩ (.cons rfl .nil)),
    dd8 := kd_mk l_D z_D z_8,
    dt8 := sqt_mk l_d8 (by decide : 2 ≤ 16777216) (.cons ⟨_, rfl⟩ (.cons rfl .nil)),
    dd9 := kd_mk l_D z_D z_9,
    dt9 := sqt_mk l_d9 (by decide : 2 ≤ 16777216) (.cons ⟨_, rfl⟩ (.cons rfl .nil)) }
  exact ⟨PySem.W.fnOf "answers" "answers" (defArgs s_f_answers) (defBody s_f_answers) (defScope s_f_answers) .none kV_f_answers dc_f_answers pm_f_answers an_f_answers cd_f_answers ct_f_answers, fun s us hu => match us, hu with | [_], _ => .of_eq rfl,
    fun base _ _ => fn_answers T (fun_mk l_f_answers c_f_answers k_f_answers)⟩
end FBW
open PySem PySem.W PyProof.Rows
set_option maxRecDepth 100000 in
set_option maxHeartbeats 16000000 in
theorem PySem.Challenge.cw_flightbook_s01_answers_holds : PySem.Challenge.rw_flightbook_s01_answers.Holds := by
  w_on; k_headS; (case hw => exact ⟨[.list [.int 0, .int 12, .int 0, .int 0, .int 0, .int 0, .int 0, .int 0, .int 0, .int 0, .int 0, .int 0, .int 0, .int 0]], by decide +kernel, by decide +kernel⟩)
  k_fillS
  refine L2.walk_specK (r := PySem.Challenge.rw_flightbook_s01_answers) (k := 8) (CX := L2.CX0) (ps := ["calls"]) (sp := FBW.spAnswers) (by decide +kernel) rfl rfl ⟨rfl, by decide, by decide⟩ (fun w h Y => PySem.W.kIn_of Y) ?F ?S (fun _ _ _ _ z => z)
  case F =>
    intro w mg fa h Y KX G hmg
    refine' FBW.all_mk KX G hmg ?g_Kind ?pg_Kind ?hd_Kind ?po_Kind ?sa_Kind ?mk_Kind ?kc_Kind ?in_Kind ?fn_Kind ?na_Kind_minutes ?na_Kind_landings ?na_Kind_days ?l_i_Kind ?c_i_Kind ?k_i_Kind ?g_Part ?pg_Part ?hd_Part ?po_Part ?sa_Part ?mk_Part ?kc_Part ?in_Part ?fn_Part ?na_Part_kind ?na_Part_plane ?na_Part_minutes ?na_Part_landings ?na_Part_minutes_since ?na_Part_landings_since ?na_Part_done_on ?l_i_Part ?c_i_Part ?k_i_Part ?g_Plane ?pg_Plane ?hd_Plane ?po_Plane ?sa_Plane ?mk_Plane ?kc_Plane ?in_Plane ?fn_Plane ?na_Plane_flown ?na_Plane_let_go ?l_i_Plane ?c_i_Plane ?k_i_Plane ?g_Book ?pg_Book ?hd_Book ?po_Book ?sa_Book ?mk_Book ?kc_Book ?in_Book ?fn_Book ?na_Book_kinds ?na_Book_parts ?na_Book_planes ?na_Book_last_day ?l_i_Book ?c_i_Book ?k_i_Book ?g_Hangar ?pg_Hangar ?hd_Hangar ?po_Hangar ?sa_Hangar ?mk_Hangar ?kc_Hangar ?in_Hangar ?fn_Hangar ?na_Hangar_book ?l_i_Hangar ?c_i_Hangar ?k_i_Hangar ?g_Tape ?pg_Tape ?hd_Tape ?po_Tape ?sa_Tape ?mk_Tape ?kc_Tape ?in_Tape ?fn_Tape ?na_Tape_numbers ?na_Tape_at ?l_i_Tape ?c_i_Tape ?k_i_Tape ?me_is_away ?fm_is_away ?l_m_is_away ?c_m_is_away ?k_m_is_away ?me_is_done ?fm_is_done ?l_m_is_done ?c_m_is_done ?k_m_is_done ?me_take_one ?fm_take_one ?l_m_take_one ?c_m_take_one ?k_m_take_one ?me_take_many ?fm_take_many ?l_m_take_many ?c_m_take_many ?k_m_take_many ?g_year_of ?l_f_year_of ?c_f_year_of ?k_f_year_of ?g_month_of ?l_f_month_of ?c_f_month_of ?k_f_month_of ?g_day_of ?l_f_day_of ?c_f_day_of ?k_f_day_of ?g_is_leap ?l_f_is_leap ?c_f_is_leap ?k_f_is_leap ?g_length_of ?l_f_length_of ?c_f_length_of ?k_f_length_of ?g_is_date ?l_f_is_date ?c_f_is_date ?k_f_is_date ?g_leaps_before ?l_f_leaps_before ?c_f_leaps_before ?k_f_leaps_before ?g_number_of ?l_f_number_of ?c_f_number_of ?k_f_number_of ?g_parts_in ?l_f_parts_in ?c_f_parts_in ?k_f_parts_in ?g_is_past ?l_f_is_past ?c_f_is_past ?k_f_is_past ?g_what_bars ?l_f_what_bars ?c_f_what_bars ?k_f_what_bars ?g_first_bar ?l_f_first_bar ?c_f_first_bar ?k_f_first_bar ?g_least_left ?l_f_least_left ?c_f_least_left ?k_f_least_left ?g_left_in ?l_f_left_in ?c_f_left_in ?k_f_left_in ?g_count_flight ?l_f_count_flight ?c_f_count_flight ?k_f_count_flight ?g_do_task ?l_f_do_task ?c_f_do_task ?k_f_do_task ?g_ask ?l_f_ask ?c_f_ask ?k_f_ask ?g_ask_plane ?l_f_ask_plane ?c_f_ask_plane ?k_f_ask_plane ?g_ask_order ?l_f_ask_order ?c_f_ask_order ?k_f_ask_order ?g_part_at ?l_f_part_at ?c_f_part_at ?k_f_part_at ?g_do_part ?l_f_do_part ?c_f_do_part ?k_f_do_part ?g_do_put ?l_f_do_put ?c_f_do_put ?k_f_do_put ?g_do_take ?l_f_do_take ?c_f_do_take ?k_f_do_take ?g_do_did ?l_f_do_did ?c_f_do_did ?k_f_do_did ?g_ask_flight ?l_f_ask_flight ?c_f_ask_flight ?k_f_ask_flight ?g_do_go ?l_f_do_go ?c_f_do_go ?k_f_do_go ?g_do_bars ?l_f_do_bars ?c_f_do_bars ?k_f_do_bars ?g_told_again ?l_f_told_again ?c_f_told_again ?k_f_told_again ?g_do_flew ?l_f_do_flew ?c_f_do_flew ?k_f_do_flew ?g_do_left ?l_f_do_left ?c_f_do_left ?k_f_do_left ?g_do_of ?l_f_do_of ?c_f_do_of ?k_f_do_of ?g_answer_start ?l_f_answer_start ?c_f_answer_start ?k_f_answer_start ?g_answer ?l_f_answer ?c_f_answer ?k_f_answer ?g_answers ?l_f_answers ?c_f_answers ?k_f_answers ?g_FIRST_YEAR ?g_LAST_YEAR ?g_FEBRUARY ?g_TASKS ?g_PLANES ?g_NO_PLANE ?g_NO_LIMIT ?g_BY_MINUTES ?g_BY_LANDINGS ?g_BY_DAYS ?g_WRONG ?g_NO_SUCH ?g_IN_NONE ?g_BEFORE ?g_AWAY ?g_OTHERWISE ?g_FULL ?g_BARRED ?g_NOT_FLOWN ?g_MOST_PARTS ?g_MOST_IN_PLANE ?g_MOST_LET_GO ?g_MOST_MINUTES ?g_MOST_SINCE ?g_FLIGHT_BOUND ?g_START ?g_KIND_NUMBERS ?g_MOST_KINDS ?n_range ?n_len ?n_int ?n_min ?n_max ?n_list ?r_a ?r_x ?r_sa ?r_ga ?r_gg ?r_nb ?r_i ?r_t ?r_l ?r_c ?r_k ?r_e ?r_y ?r_h ?r_z ?r_s ?g_ML ?l_ML ?g_D ?l_D ?z_D ?z_1 ?l_d1 ?z_2 ?l_d2 ?z_3 ?l_d3 ?z_4 ?l_d4 ?z_5 ?l_d5 ?z_6 ?l_d6 ?z_7 ?l_d7 ?z_8 ?l_d8 ?z_9 ?l_d9
    (case g_Kind => k_is)
    (case pg_Kind => k_is)
    (case hd_Kind => k_is)
    (case po_Kind => k_is)
    (case sa_Kind => k_is)
    (case mk_Kind => k_is)
    (case kc_Kind => k_is)
    (case in_Kind => k_is)
    (case fn_Kind => k_is)
    (case na_Kind_minutes => k_is)
    (case na_Kind_landings => k_is)
    (case na_Kind_days => k_is)
    (case l_i_Kind => k_is)
    (case c_i_Kind => k_is)
    (case k_i_Kind => k_is)
    (case g_Part => k_is)
    (case pg_Part => k_is)
    (case hd_Part => k_is)
    (case po_Part => k_is)
    (case sa_Part => k_is)
    (case mk_Part => k_is)
    (case kc_Part => k_is)
    (case in_Part => k_is)
    (case fn_Part => k_is)
    (case na_Part_kind => k_is)
    (case na_Part_plane => k_is)
    (case na_Part_minutes => k_is)
    (case na_Part_landings => k_is)
    (case na_Part_minutes_since => k_is)
    (case na_Part_landings_since => k_is)
    (case na_Part_done_on => k_is)
    (case l_i_Part => k_is)
    (case c_i_Part => k_is)
    (case k_i_Part => k_is)
    (case g_Plane => k_is)
    (case pg_Plane => k_is)
    (case hd_Plane => k_is)
    (case po_Plane => k_is)
    (case sa_Plane => k_is)
    (case mk_Plane => k_is)
    (case kc_Plane => k_is)
    (case in_Plane => k_is)
    (case fn_Plane => k_is)
    (case na_Plane_flown => k_is)
    (case na_Plane_let_go => k_is)
    (case l_i_Plane => k_is)
    (case c_i_Plane => k_is)
    (case k_i_Plane => k_is)
    (case g_Book => k_is)
    (case pg_Book => k_is)
    (case hd_Book => k_is)
    (case po_Book => k_is)
    (case sa_Book => k_is)
    (case mk_Book => k_is)
    (case kc_Book => k_is)
    (case in_Book => k_is)
    (case fn_Book => k_is)
    (case na_Book_kinds => k_is)
    (case na_Book_parts => k_is)
    (case na_Book_planes => k_is)
    (case na_Book_last_day => k_is)
    (case l_i_Book => k_is)
    (case c_i_Book => k_is)
    (case k_i_Book => k_is)
    (case g_Hangar => k_is)
    (case pg_Hangar => k_is)
    (case hd_Hangar => k_is)
    (case po_Hangar => k_is)
    (case sa_Hangar => k_is)
    (case mk_Hangar => k_is)
    (case kc_Hangar => k_is)
    (case in_Hangar => k_is)
    (case fn_Hangar => k_is)
    (case na_Hangar_book => k_is)
    (case l_i_Hangar => k_is)
    (case c_i_Hangar => k_is)
    (case k_i_Hangar => k_is)
    (case g_Tape => k_is)
    (case pg_Tape => k_is)
    (case hd_Tape => k_is)
    (case po_Tape => k_is)
    (case sa_Tape => k_is)
    (case mk_Tape => k_is)
    (case kc_Tape => k_is)
    (case in_Tape => k_is)
    (case fn_Tape => k_is)
    (case na_Tape_numbers => k_is)
    (case na_Tape_at => k_is)
    (case l_i_Tape => k_is)
    (case c_i_Tape => k_is)
    (case k_i_Tape => k_is)
    (case me_is_away => k_is)
    (case fm_is_away => k_is)
    (case l_m_is_away => k_is)
    (case c_m_is_away => k_is)
    (case k_m_is_away => k_is)
    (case me_is_done => k_is)
    (case fm_is_done => k_is)
    (case l_m_is_done => k_is)
    (case c_m_is_done => k_is)
    (case k_m_is_done => k_is)
    (case me_take_one => k_is)
    (case fm_take_one => k_is)
    (case l_m_take_one => k_is)
    (case c_m_take_one => k_is)
    (case k_m_take_one => k_is)
    (case me_take_many => k_is)
    (case fm_take_many => k_is)
    (case l_m_take_many => k_is)
    (case c_m_take_many => k_is)
    (case k_m_take_many => k_is)
    (case g_year_of => k_is)
    (case l_f_year_of => k_is)
    (case c_f_year_of => k_is)
    (case k_f_year_of => k_is)
    (case g_month_of => k_is)
    (case l_f_month_of => k_is)
    (case c_f_month_of => k_is)
    (case k_f_month_of => k_is)
    (case g_day_of => k_is)
    (case l_f_day_of => k_is)
    (case c_f_day_of => k_is)
    (case k_f_day_of => k_is)
    (case g_is_leap => k_is)
    (case l_f_is_leap => k_is)
    (case c_f_is_leap => k_is)
    (case k_f_is_leap => k_is)
    (case g_length_of => k_is)
    (case l_f_length_of => k_is)
    (case c_f_length_of => k_is)
    (case k_f_length_of => k_is)
    (case g_is_date => k_is)
    (case l_f_is_date => k_is)
    (case c_f_is_date => k_is)
    (case k_f_is_date => k_is)
    (case g_leaps_before => k_is)
    (case l_f_leaps_before => k_is)
    (case c_f_leaps_before => k_is)
    (case k_f_leaps_before => k_is)
    (case g_number_of => k_is)
    (case l_f_number_of => k_is)
    (case c_f_number_of => k_is)
    (case k_f_number_of => k_is)
    (case g_parts_in => k_is)
    (case l_f_parts_in => k_is)
    (case c_f_parts_in => k_is)
    (case k_f_parts_in => k_is)
    (case g_is_past => k_is)
    (case l_f_is_past => k_is)
    (case c_f_is_past => k_is)
    (case k_f_is_past => k_is)
    (case g_what_bars => k_is)
    (case l_f_what_bars => k_is)
    (case c_f_what_bars => k_is)
    (case k_f_what_bars => k_is)
    (case g_first_bar => k_is)
    (case l_f_first_bar => k_is)
    (case c_f_first_bar => k_is)
    (case k_f_first_bar => k_is)
    (case g_least_left => k_is)
    (case l_f_least_left => k_is)
    (case c_f_least_left => k_is)
    (case k_f_least_left => k_is)
    (case g_left_in => k_is)
    (case l_f_left_in => k_is)
    (case c_f_left_in => k_is)
    (case k_f_left_in => k_is)
    (case g_count_flight => k_is)
    (case l_f_count_flight => k_is)
    (case c_f_count_flight => k_is)
    (case k_f_count_flight => k_is)
    (case g_do_task => k_is)
    (case l_f_do_task => k_is)
    (case c_f_do_task => k_is)
    (case k_f_do_task => k_is)
    (case g_ask => k_is)
    (case l_f_ask => k_is)
    (case c_f_ask => k_is)
    (case k_f_ask => k_is)
    (case g_ask_plane => k_is)
    (case l_f_ask_plane => k_is)
    (case c_f_ask_plane => k_is)
    (case k_f_ask_plane => k_is)
    (case g_ask_order => k_is)
    (case l_f_ask_order => k_is)
    (case c_f_ask_order => k_is)
    (case k_f_ask_order => k_is)
    (case g_part_at => k_is)
    (case l_f_part_at => k_is)
    (case c_f_part_at => k_is)
    (case k_f_part_at => k_is)
    (case g_do_part => k_is)
    (case l_f_do_part => k_is)
    (case c_f_do_part => k_is)
    (case k_f_do_part => k_is)
    (case g_do_put => k_is)
    (case l_f_do_put => k_is)
    (case c_f_do_put => k_is)
    (case k_f_do_put => k_is)
    (case g_do_take => k_is)
    (case l_f_do_take => k_is)
    (case c_f_do_take => k_is)
    (case k_f_do_take => k_is)
    (case g_do_did => k_is)
    (case l_f_do_did => k_is)
    (case c_f_do_did => k_is)
    (case k_f_do_did => k_is)
    (case g_ask_flight => k_is)
    (case l_f_ask_flight => k_is)
    (case c_f_ask_flight => k_is)
    (case k_f_ask_flight => k_is)
    (case g_do_go => k_is)
    (case l_f_do_go => k_is)
    (case c_f_do_go => k_is)
    (case k_f_do_go => k_is)
    (case g_do_bars => k_is)
    (case l_f_do_bars => k_is)
    (case c_f_do_bars => k_is)
    (case k_f_do_bars => k_is)
    (case g_told_again => k_is)
    (case l_f_told_again => k_is)
    (case c_f_told_again => k_is)
    (case k_f_told_again => k_is)
    (case g_do_flew => k_is)
    (case l_f_do_flew => k_is)
    (case c_f_do_flew => k_is)
    (case k_f_do_flew => k_is)
    (case g_do_left => k_is)
    (case l_f_do_left => k_is)
    (case c_f_do_left => k_is)
    (case k_f_do_left => k_is)
    (case g_do_of => k_is)
    (case l_f_do_of => k_is)
    (case c_f_do_of => k_is)
    (case k_f_do_of => k_is)
    (case g_answer_start => k_is)
    (case l_f_answer_start => k_is)
    (case c_f_answer_start => k_is)
    (case k_f_answer_start => k_is)
    (case g_answer => k_is)
    (case l_f_answer => k_is)
    (case c_f_answer => k_is)
    (case k_f_answer => k_is)
    (case g_answers => k_is)
    (case l_f_answers => k_is)
    (case c_f_answers => k_is)
    (case k_f_answers => k_is)
    (case g_FIRST_YEAR => k_is)
    (case g_LAST_YEAR => k_is)
    (case g_FEBRUARY => k_is)
    (case g_TASKS => k_is)
    (case g_PLANES => k_is)
    (case g_NO_PLANE => k_is)
    (case g_NO_LIMIT => k_is)
    (case g_BY_MINUTES => k_is)
    (case g_BY_LANDINGS => k_is)
    (case g_BY_DAYS => k_is)
    (case g_WRONG => k_is)
    (case g_NO_SUCH => k_is)
    (case g_IN_NONE => k_is)
    (case g_BEFORE => k_is)
    (case g_AWAY => k_is)
    (case g_OTHERWISE => k_is)
    (case g_FULL => k_is)
    (case g_BARRED => k_is)
    (case g_NOT_FLOWN => k_is)
    (case g_MOST_PARTS => k_is)
    (case g_MOST_IN_PLANE => k_is)
    (case g_MOST_LET_GO => k_is)
    (case g_MOST_MINUTES => k_is)
    (case g_MOST_SINCE => k_is)
    (case g_FLIGHT_BOUND => k_is)
    (case g_START => k_is)
    (case g_KIND_NUMBERS => k_is)
    (case g_MOST_KINDS => k_is)
    (case n_range => k_is)
    (case n_len => k_is)
    (case n_int => k_is)
    (case n_min => k_is)
    (case n_max => k_is)
    (case n_list => k_is)
    (case r_a => k_is)
    (case r_x => k_is)
    (case r_sa => k_is)
    (case r_ga => k_is)
    (case r_gg => k_is)
    (case r_nb => k_is)
    (case r_i => k_is)
    (case r_t => k_is)
    (case r_l => k_is)
    (case r_c => k_is)
    (case r_k => k_is)
    (case r_e => k_is)
    (case r_y => k_is)
    (case r_h => k_is)
    (case r_z => k_is)
    (case r_s => first | rfl | k_is)
    (case g_ML => k_is)
    (case l_ML => k_is)
    (case g_D => k_is)
    (case l_D => k_is)
    (case z_D => exact ⟨⟨_, _, rfl, rfl⟩, ⟨_, _, rfl, rfl⟩, ⟨_, _, rfl, rfl⟩, ⟨_, _, rfl, rfl⟩, ⟨_, _, rfl, rfl⟩, ⟨_, _, rfl, rfl⟩, ⟨_, _, rfl, rfl⟩, ⟨_, _, rfl, rfl⟩, ⟨_, _, rfl, rfl⟩, trivial⟩)
    (case z_1 => rfl)
    (case l_d1 => k_is)
    (case z_2 => rfl)
    (case l_d2 => k_is)
    (case z_3 => rfl)
    (case l_d3 => k_is)
    (case z_4 => rfl)
    (case l_d4 => k_is)
    (case z_5 => rfl)
    (case l_d5 => k_is)
    (case z_6 => rfl)
    (case l_d6 => k_is)
    (case z_7 => rfl)
    (case l_d7 => k_is)
    (case z_8 => rfl)
    (case l_d8 => k_is)
    (case z_9 => rfl)
    (case l_d9 => k_is)
    all_goals exact none
  case S =>
    intro K H xs a hO hwi hask hx
    cases hx with
    | cons h1 h2 =>
      cases h2
      cases h1 with
      | lst hs ha =>
        have e := L2.ints_dw a.1 _ ha
        subst e
        have q : ((Codec.inLen 0 30000 a.1 && a.1.all (Codec.inInt 0 4294967295)) && true) = true := hwi
        rw [Bool.and_eq_true, Bool.and_eq_true] at q
        obtain ⟨⟨q1, q2⟩, _⟩ := q
        exact ⟨_, a.1, rfl, hs, FBW.in_all q2, (FBW.in_len q1), hask, fun H' p hp => .lst (L2.SqL.of hp) (L2.dw_ints _)⟩
