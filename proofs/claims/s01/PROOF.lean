import PyProof.Rows.All
import Wide.All
import OpenK.AllK
import Wide.FinOn
import Open.SpecLaws
import KE.OsGo
import HandS.ForSpec
import HandS.Comp
import HandS.Conv
import HandS.Iter
import HandS.Walk
import HandS.Text
import HandS.Evl
import PySem.Challenge.RW_crossgreen_s01_answers
import PySa38
set_option Elab.async false
set_option linter.all false
set_option maxRecDepth 100000
set_option maxHeartbeats 4000000
/-! The mirror: each def of the program as a total function of plain data. -/
namespace Cg

/-- a stream object: what was told of it, and what its light is -/
structure SM where
  c : Sa38.Stream
  colour : Nat
  time : Nat
  rest : Nat
  waited : Nat
  letgo : Bool
  car : Bool
  button : Bool
/-- a crossing object -/
structure CM where
  ss : List SM
  group : Nat
  lasts : List (Option Nat)
  cars : Nat
  first : Option Nat

def SM.fresh (c : Sa38.Stream) : SM := ⟨c, 0, 0, 0, 0, false, c.remembers, decide (0 < c.walk)⟩
def dflt : SM := ⟨Sa38.none_, 0, 0, 0, 0, false, false, false⟩
def SM.walkers (s : SM) : Bool := s.colour == 1 && (s.letgo && decide (s.time < s.c.walk))
def SM.clearers (s : SM) : Bool := s.colour == 1 && (s.letgo && (decide (s.c.walk ≤ s.time) && decide (s.time < s.c.walk + s.c.clear)))
def SM.remember (s : SM) (car person : Bool) : SM :=
  { s with button := s.button || (person && (decide (0 < s.c.walk) && !s.walkers)), car := s.car || (car && (s.c.remembers && s.colour != 1)) }
def SM.tick (s : SM) (car pressed : Bool) : SM :=
  { s with
    time := if s.colour = 0 then s.time else s.time + 1
    rest := if s.colour = 1 then (if car = true then s.c.gap else s.rest - 1) else s.rest
    waited := if s.colour = 1 then (if pressed = true then s.waited + 1 else s.waited) else s.waited }
def SM.endWalk (s : SM) : SM := if s.walkers = true then { s with time := s.c.walk } else s
def SM.fade1 (s : SM) : SM := if s.colour = 2 ∧ s.c.yellow ≤ s.time then { s with colour := 3, time := 0 } else s
def SM.fade2 (s : SM) : SM := if s.colour = 3 ∧ s.c.red ≤ s.time then { s with colour := 0 } else s
def SM.fade (s : SM) : SM := s.fade1.fade2
def SM.peopleOver (s : SM) : Bool := !s.letgo || decide (s.c.walk + s.c.clear ≤ s.time)
def SM.due (s : SM) : Bool := if s.time < s.c.least then false else ((s.rest == 0 && !s.c.tillMost) || decide (s.c.most ≤ s.waited))
def SM.toYellow (s : SM) : SM := { s with colour := 2, time := 0 }
def SM.toGreen (s : SM) : SM :=
  { s with colour := 1, time := 0, rest := s.c.gap, waited := 0, car := false, letgo := s.button || (s.c.tillMost && decide (0 < s.c.walk)), button := false }

def CM.fresh (l : List Sa38.Stream) : CM := ⟨l.map SM.fresh, 7, List.replicate 4 none, 0, none⟩
def CM.sat (m : CM) (k : Nat) : SM := m.ss.getD k dflt
def CM.nums (m : CM) : List Nat := List.range m.ss.length
def CM.crosses (m : CM) (j k : Nat) : Bool := j != k && ((m.sat j).c.ring == (m.sat k).c.ring || (m.sat j).c.group != (m.sat k).c.group)
def CM.barred (m : CM) (k : Nat) : Bool := m.first.any fun f => m.crosses f k
def CM.called (m : CM) (k : Nat) : Bool :=
  ((m.sat k).c.always || ((m.sat k).car || ((m.sat k).button || m.first == some k))) || (m.cars.testBit k && (m.sat k).colour != 1)
def CM.greens (m : CM) : List Nat := m.nums.filter fun k => (m.sat k).colour == 1
def CM.inColour (m : CM) (r : Nat) : Option Nat := m.nums.find? fun k => (m.sat k).c.ring == r && (m.sat k).colour != 0
def CM.allRed (m : CM) : Bool := (List.range 4).all fun r => (m.inColour r).isNone
def CM.lastOf (m : CM) (r : Nat) : Option Nat := m.lasts.getD r none
def CM.stuck (m : CM) (k : Nat) : Bool :=
  if (m.sat k).c.group != m.group || !(m.inColour (m.sat k).c.ring).isNone then false
  else m.called k && (m.lastOf (m.sat k).c.ring).any fun l => decide (k ≤ l)
def CM.pressed (m : CM) : Bool := (m.nums.any fun k => m.called k && m.greens.any fun g => m.crosses k g) || (!m.greens.isEmpty && m.nums.any m.stuck)
def CM.takeCalls (m : CM) (people : Nat) : CM := { m with ss := m.ss.mapIdx fun k s => s.remember (m.cars.testBit k) (people.testBit k) }
def CM.tick1 (m : CM) (pr : Bool) (k : Nat) (s : SM) : SM := if m.barred k = true then (s.tick (m.cars.testBit k) pr).endWalk else s.tick (m.cars.testBit k) pr
def CM.runClocks (m : CM) : CM := { m with ss := m.ss.mapIdx (m.tick1 m.pressed) }
def CM.ready (m : CM) (k : Nat) : Bool :=
  if m.first == some k || ((m.sat k).colour != 1 || !(m.sat k).peopleOver) then false else (m.sat k).due || m.barred k
def CM.beside (m : CM) (j k : Nat) : Bool := (m.sat j).c.ring == (m.sat k).c.ring && (m.sat j).c.group == (m.sat k).c.group
def CM.heir (m : CM) (k : Nat) : Option Nat :=
  if (m.first.any fun f => f != k && m.beside k f) = true then m.first
  else if m.barred k = true then none
  else m.nums.find? fun j => decide (k < j) && (m.beside k j && m.called j)
def CM.over (m : CM) (r : Nat) : Bool := match m.inColour r with
  | none => true
  | some k => if (m.heir k).isSome = true then false else (m.sat k).colour != 1 || m.ready k
def CM.fade (m : CM) : CM := { m with ss := m.ss.map SM.fade }
def CM.yellow1 (m : CM) (k : Nat) : CM := { m with ss := m.ss.modify k SM.toYellow }
def CM.yellow (m : CM) (l : List Nat) : CM := l.foldl CM.yellow1 m
def CM.ripe (m : CM) : List Nat := m.greens.filter fun k => m.ready k && (m.heir k).isSome
def CM.ends (m : CM) : CM :=
  let m1 := m.fade
  let m2 := m1.yellow m1.ripe
  if ((List.range 4).all m1.over && m2.pressed) = true then m2.yellow m2.greens else m2
def CM.light (m : CM) (k : Nat) : CM := { m with ss := m.ss.modify k SM.toGreen, lasts := m.lasts.set (m.sat k).c.ring (some k) }
def CM.lightO (m : CM) (o : Option Nat) : CM := match o with
  | none => m
  | some k => m.light k
def CM.firstCalled (m : CM) (r g : Nat) : Option Nat := m.nums.find? fun k => (m.sat k).c.ring == r && ((m.sat k).c.group == g && (m.called k && !m.barred k))
def CM.beginIn (m : CM) (r : Nat) (sg : Bool) : CM := match m.lastOf r with
  | some k => m.lightO (m.heir k)
  | none => if sg = true then m.lightO (m.firstCalled r m.group) else m
def CM.calledIn (m : CM) (g : Nat) : Bool := (m.nums.filter fun k => (m.sat k).c.group == g).any m.called
def CM.nextGroup (m : CM) : Nat := match m.first with
  | some f => (m.sat f).c.group
  | none => (((List.range 8).map fun d => (m.group + (1 + d)) % 8).find? m.calledIn).getD m.group
def CM.turned (m : CM) : CM := { m with group := m.nextGroup, lasts := List.replicate 4 none }
def CM.firstIn (m : CM) (r : Nat) : CM := m.lightO (m.firstCalled r m.group)
def CM.beginGroup (m : CM) : CM := (List.range 4).foldl CM.firstIn m.turned
def CM.goOn (sg : Bool) (m : CM) (r : Nat) : CM := if (m.inColour r).isNone = true then m.beginIn r sg else m
def CM.begins (m : CM) : CM :=
  let m1 := (List.range 4).foldl (CM.goOn (!m.greens.isEmpty)) m
  if (m1.allRed && m1.nums.any m1.called) = true then m1.beginGroup else m1
def CM.handed (m : CM) (cars : Nat) (first : Option Nat) : CM := { m with cars := cars, first := first }
def CM.step (m : CM) (cars people : Nat) (first : Option Nat) : CM := (((m.handed cars first).takeCalls people).runClocks).ends.begins
/-- bits of truths, the first one the lowest -/
def bitsOf (l : List Bool) : Nat := ((List.range l.length).map fun k => if l.getD k false = true then 2 ^ k else 0).sum
def CM.lights (m : CM) : List Nat := [bitsOf (m.ss.map fun s => s.colour == 1), bitsOf (m.ss.map fun s => s.colour == 2), bitsOf (m.ss.map SM.walkers), bitsOf (m.ss.map SM.clearers)]
def CM.remembered (m : CM) : List Nat := [bitsOf (m.ss.map SM.car), bitsOf (m.ss.map SM.button)]
/-- what holds of a crossing at all times, and the program's text leans on -/
structure CM.Ok (m : CM) : Prop where
  pos : 1 ≤ m.ss.length
  len : m.ss.length ≤ 16
  ring : ∀ s ∈ m.ss, s.c.ring < 4
  grp : ∀ s ∈ m.ss, s.c.group < 8
  mode : ∀ s ∈ m.ss, s.c.mode < 8
  group : m.group < 8
  lasts : m.lasts.length = 4
  last : ∀ k, some k ∈ m.lasts → k < m.ss.length
  first : ∀ k, m.first = some k → k < m.ss.length
end Cg

/-! The law, part one: the abstraction of a mirror's crossing, and what is asked of it by the specification. -/
namespace Cg
def colOf (n : Nat) : Sa38.Colour := if n = 1 then .green else if n = 2 then .yellow else .clearing
def litOf (s : SM) (k : Nat) : Sa38.Lit := ⟨k, colOf s.colour, s.time, s.rest, s.waited, s.letgo⟩
def CM.lit (m : CM) (r : Nat) : Option Sa38.Lit := (m.inColour r).map fun k => litOf (m.sat k) k
def CM.abs (m : CM) : Sa38.St := ⟨m.ss.map SM.c, (List.range 4).map m.lit, m.lasts, m.group, m.ss.map SM.car, m.ss.map SM.button⟩
def CM.inp (m : CM) (people : Nat) : Sa38.In := ⟨m.cars, people, m.first⟩
structure CM.Good (m : CM) : Prop where
  ok : m.Ok
  uniq : ∀ j k, (m.sat j).colour ≠ 0 → (m.sat k).colour ≠ 0 → (m.sat j).c.ring = (m.sat k).c.ring → j = k
  lastr : ∀ r k, m.lastOf r = some k → (m.sat k).c.ring = r
  col : ∀ k, (m.sat k).colour ≤ 3

theorem bne_nat (a b : Nat) : (a != b) = !decide (a = b) := by
  by_cases h : a = b <;> simp [h]
theorem beq_nat (a b : Nat) : (a == b) = decide (a = b) := by
  by_cases h : a = b <;> simp [h]
theorem sat_of {m : CM} {k : Nat} {s : SM} (h : m.ss[k]? = some s) : m.sat k = s := by
  unfold CM.sat
  rw [List.getD_eq_getElem?_getD, h]
  rfl
theorem sat_lt {m : CM} {k : Nat} (h : k < m.ss.length) : m.ss[k]? = some (m.sat k) := by
  unfold CM.sat
  rw [List.getD_eq_getElem?_getD, List.getElem?_eq_getElem h]
  rfl
theorem sat_ge {m : CM} {k : Nat} (h : m.ss.length ≤ k) : m.sat k = dflt := by
  unfold CM.sat
  rw [List.getD_eq_getElem?_getD, List.getElem?_eq_none_iff.mpr h]
  rfl
theorem colour_lt {m : CM} {k : Nat} (h : (m.sat k).colour ≠ 0) : k < m.ss.length := by
  rcases Nat.lt_or_ge k m.ss.length with q | q
  · exact q
  · rw [sat_ge q] at h
    exact absurd rfl h
theorem sat_mem {m : CM} {k : Nat} (h : k < m.ss.length) : m.sat k ∈ m.ss := List.mem_of_getElem? (sat_lt h)
theorem Ok.ring_lt {m : CM} (o : m.Ok) (k : Nat) : (m.sat k).c.ring < 4 := by
  rcases Nat.lt_or_ge k m.ss.length with q | q
  · exact o.ring _ (sat_mem q)
  · rw [sat_ge q]
    decide
theorem Ok.group_lt {m : CM} (o : m.Ok) (k : Nat) : (m.sat k).c.group < 8 := by
  rcases Nat.lt_or_ge k m.ss.length with q | q
  · exact o.grp _ (sat_mem q)
  · rw [sat_ge q]
    decide
theorem mem_nums {m : CM} {k : Nat} : k ∈ m.nums ↔ k < m.ss.length := List.mem_range
theorem inColour_some {m : CM} (g : m.Good) {r k : Nat} : m.inColour r = some k ↔ (m.sat k).c.ring = r ∧ (m.sat k).colour ≠ 0 := by
  unfold CM.inColour
  constructor
  · intro h
    have q := List.find?_some h
    simp only [Bool.and_eq_true, beq_iff_eq, bne_iff_ne] at q
    exact q
  · rintro ⟨h1, h2⟩
    cases e : List.find? (fun k => (m.sat k).c.ring == r && (m.sat k).colour != 0) m.nums with
    | none =>
      have q := List.find?_eq_none.mp e k (mem_nums.mpr (colour_lt h2))
      simp [h1, h2] at q
    | some j =>
      have q := List.find?_some e
      simp only [Bool.and_eq_true, beq_iff_eq, bne_iff_ne] at q
      rw [g.uniq j k q.2 h2 (q.1.trans h1.symm)]
theorem inColour_none {m : CM} {r : Nat} : m.inColour r = none ↔ ∀ k, (m.sat k).c.ring = r → (m.sat k).colour = 0 := by
  unfold CM.inColour
  rw [List.find?_eq_none]
  constructor
  · intro h k h1
    rcases Nat.lt_or_ge k m.ss.length with q | q
    · have z := h k (mem_nums.mpr q)
      simp [h1] at z
      exact z
    · rw [sat_ge q]
      rfl
  · intro h k _
    by_cases q : (m.sat k).c.ring = r
    · simp [q, h k q]
    · simp [q]
theorem inColour_some' {m : CM} {r k : Nat} (h : m.inColour r = some k) : (m.sat k).c.ring = r ∧ (m.sat k).colour ≠ 0 := by
  have q := List.find?_some h
  simp only [Bool.and_eq_true, beq_iff_eq, bne_iff_ne] at q
  exact q
theorem lit_some {m : CM} (g : m.Good) {k : Nat} (h : (m.sat k).colour ≠ 0) : m.lit (m.sat k).c.ring = some (litOf (m.sat k) k) := by
  unfold CM.lit
  rw [(inColour_some g).mpr ⟨rfl, h⟩]
  rfl
theorem lit_none {m : CM} {r : Nat} (h : ∀ k, (m.sat k).c.ring = r → (m.sat k).colour = 0) : m.lit r = none := by
  unfold CM.lit
  rw [inColour_none.mpr h]
  rfl
/-- a ring has nothing in colour, or just one -/
theorem lit_cases {m : CM} (g : m.Good) (r : Nat) : (m.inColour r = none ∧ m.lit r = none ∧ ∀ k, (m.sat k).c.ring = r → (m.sat k).colour = 0) ∨
    ∃ k, m.inColour r = some k ∧ m.lit r = some (litOf (m.sat k) k) ∧ (m.sat k).c.ring = r ∧ (m.sat k).colour ≠ 0 := by
  cases e : m.inColour r with
  | none =>
    have q := inColour_none.mp e
    exact .inl ⟨rfl, lit_none q, q⟩
  | some k =>
    have q := inColour_some' e
    refine .inr ⟨k, rfl, ?_, q.1, q.2⟩
    rw [← q.1]
    exact lit_some g q.2

/-! ### the specification's words at an abstraction -/
theorem abs_stream (m : CM) (k : Nat) : m.abs.stream k = (m.sat k).c := by
  show (m.ss.map SM.c).getD k Sa38.none_ = (m.ss.getD k dflt).c
  rw [List.getD_eq_getElem?_getD, List.getD_eq_getElem?_getD, List.getElem?_map]
  cases m.ss[k]? <;> rfl
theorem abs_all (m : CM) : m.abs.all = m.nums := by
  show List.range (m.ss.map SM.c).length = List.range m.ss.length
  rw [List.length_map]
theorem abs_car (m : CM) (k : Nat) : m.abs.cars.getD k false = (m.sat k).car := by
  show (m.ss.map SM.car).getD k false = (m.ss.getD k dflt).car
  rw [List.getD_eq_getElem?_getD, List.getD_eq_getElem?_getD, List.getElem?_map]
  cases m.ss[k]? <;> rfl
theorem abs_button (m : CM) (k : Nat) : m.abs.people.getD k false = (m.sat k).button := by
  show (m.ss.map SM.button).getD k false = (m.ss.getD k dflt).button
  rw [List.getD_eq_getElem?_getD, List.getD_eq_getElem?_getD, List.getElem?_map]
  cases m.ss[k]? <;> rfl
theorem abs_of (m : CM) {r : Nat} (h : r < 4) : m.abs.of r = m.lit r := by
  show ((List.range 4).map m.lit).getD r none = m.lit r
  rw [List.getD_eq_getElem?_getD, List.getElem?_map, List.getElem?_range h]
  rfl
theorem abs_ofr {m : CM} (o : m.Ok) (k : Nat) : m.abs.of (m.abs.stream k).ring = m.lit (m.sat k).c.ring := by
  rw [abs_stream]
  exact abs_of m (Ok.ring_lt o k)
theorem colOf_green {n : Nat} : colOf n = .green ↔ n = 1 := by
  unfold colOf
  by_cases h : n = 1
  · simp [h]
  · by_cases q : n = 2 <;> simp [h, q]
theorem colOf_yellow {n : Nat} : colOf n = .yellow ↔ n = 2 := by
  unfold colOf
  by_cases h : n = 1
  · simp [h]
  · by_cases q : n = 2 <;> simp [h, q]
theorem colOf_clearing {n : Nat} (h0 : n ≠ 0) (h3 : n ≤ 3) : colOf n = .clearing ↔ n = 3 := by
  unfold colOf
  by_cases h : n = 1
  · simp [h]
  · by_cases q : n = 2
    · simp [h, q]
    · simp only [h, q, if_false]
      constructor
      · intro _
        omega
      · intro _
        trivial
theorem abs_green {m : CM} (g : m.Good) (k : Nat) : m.abs.green k = if (m.sat k).colour = 1 then some (litOf (m.sat k) k) else none := by
  unfold Sa38.St.green
  rw [abs_ofr g.ok]
  by_cases h : (m.sat k).colour = 1
  · rw [lit_some g (by omega), if_pos h]
    show (if k = k ∧ colOf (m.sat k).colour = .green then some (litOf (m.sat k) k) else none) = some (litOf (m.sat k) k)
    rw [if_pos ⟨rfl, colOf_green.mpr h⟩]
  · rw [if_neg h]
    rcases lit_cases g (m.sat k).c.ring with ⟨_, e, _⟩ | ⟨j, _, e, _, _⟩
    · rw [e]
    · rw [e]
      show (if j = k ∧ colOf (m.sat j).colour = .green then some (litOf (m.sat j) j) else none) = none
      rw [if_neg]
      rintro ⟨rfl, q⟩
      exact h (colOf_green.mp q)
theorem abs_isGreen {m : CM} (g : m.Good) (k : Nat) : (m.abs.green k).isSome = ((m.sat k).colour == 1) := by
  rw [abs_green g, beq_nat]
  by_cases h : (m.sat k).colour = 1 <;> simp [h]
theorem abs_notGreen {m : CM} (g : m.Good) (k : Nat) : (m.abs.green k).isNone = ((m.sat k).colour != 1) := by
  rw [abs_green g, bne_nat]
  by_cases h : (m.sat k).colour = 1 <;> simp [h]
theorem abs_walks {m : CM} (g : m.Good) (k : Nat) : Sa38.walks m.abs k = (m.sat k).walkers := by
  unfold Sa38.walks SM.walkers
  rw [abs_green g, beq_nat, abs_stream]
  by_cases h : (m.sat k).colour = 1
  · rw [if_pos h, decide_eq_true h]
    rfl
  · rw [if_neg h, decide_eq_false h]
    rfl
theorem abs_clears {m : CM} (g : m.Good) (k : Nat) : Sa38.clears m.abs k = (m.sat k).clearers := by
  unfold Sa38.clears SM.clearers
  rw [abs_green g, beq_nat, abs_stream]
  by_cases h : (m.sat k).colour = 1
  · rw [if_pos h, decide_eq_true h]
    rfl
  · rw [if_neg h, decide_eq_false h]
    rfl
theorem abs_isYellow {m : CM} (g : m.Good) (k : Nat) : Sa38.isYellow m.abs k = ((m.sat k).colour == 2) := by
  unfold Sa38.isYellow
  rw [abs_ofr g.ok, beq_nat]
  rcases lit_cases g (m.sat k).c.ring with ⟨_, e, z⟩ | ⟨j, _, e, z1, z2⟩
  · rw [e, z k rfl]
    rfl
  · rw [e]
    show ((j == k) && (colOf (m.sat j).colour == .yellow)) = _
    by_cases h : (m.sat k).colour = 2
    · have ej : j = k := g.uniq j k z2 (by omega) z1
      subst ej
      rw [decide_eq_true h, colOf_yellow.mpr h]
      simp
    · rw [decide_eq_false h]
      by_cases ej : j = k
      · subst ej
        have : ¬ colOf (m.sat j).colour = .yellow := fun q => h (colOf_yellow.mp q)
        simp [this]
      · simp [ej]
theorem abs_crosses (m : CM) (j k : Nat) : Sa38.crosses m.abs j k = m.crosses j k := by
  unfold Sa38.crosses CM.crosses
  rw [abs_stream, abs_stream]
theorem abs_barred (m : CM) (p k : Nat) : Sa38.firstCrosses m.abs (m.inp p) k = m.barred k := by
  show (m.first.any fun j => Sa38.crosses m.abs j k) = m.first.any fun j => m.crosses j k
  cases m.first with
  | none => rfl
  | some f => exact abs_crosses m f k
theorem abs_called {m : CM} (g : m.Good) (p k : Nat) : Sa38.called m.abs (m.inp p) k = m.called k := by
  unfold Sa38.called CM.called
  rw [abs_stream, abs_car, abs_button, abs_notGreen g]
  show ((m.sat k).c.always || ((m.sat k).car || ((m.sat k).button || (m.first == some k || (m.cars.testBit k && _))))) = _
  simp only [Bool.or_assoc]
theorem abs_beside (m : CM) (j k : Nat) : Sa38.beside m.abs j k = m.beside j k := by
  unfold Sa38.beside CM.beside
  rw [abs_stream, abs_stream]
theorem beside_comm (m : CM) (j k : Nat) : m.beside j k = m.beside k j := by
  unfold CM.beside
  rw [Bool.beq_comm (a := (m.sat j).c.ring), Bool.beq_comm (a := (m.sat j).c.group)]
theorem abs_heir {m : CM} (g : m.Good) (p k : Nat) : Sa38.heir m.abs (m.inp p) k = m.heir k := by
  unfold Sa38.heir CM.heir
  rw [abs_barred]
  have e1 : ((m.inp p).first.any fun f => f != k && Sa38.beside m.abs f k) = (m.first.any fun f => f != k && m.beside k f) := by
    show (m.first.any fun f => f != k && Sa38.beside m.abs f k) = _
    cases m.first with
    | none => rfl
    | some f =>
      show (f != k && Sa38.beside m.abs f k) = (f != k && m.beside k f)
      rw [abs_beside, beside_comm]
  have e2 : (fun j => decide (k < j) && (Sa38.called m.abs (m.inp p) j && ((m.abs.stream j).ring == (m.abs.stream k).ring && (m.abs.stream j).group == (m.abs.stream k).group))) = fun j => decide (k < j) && (m.beside k j && m.called j) := by
    funext j
    rw [abs_called g]
    have := abs_beside m j k
    unfold Sa38.beside at this
    rw [this, beside_comm, Bool.and_comm (m.called j)]
  rw [e1, e2, abs_all]
  rfl
theorem any_filter {α : Type} (l : List α) (p q : α → Bool) : (l.filter p).any q = l.any fun x => p x && q x := by
  induction l with
  | nil => rfl
  | cons a l ih =>
    rw [List.filter_cons, List.any_cons, ← ih]
    cases p a <;> simp
theorem isEmpty_filter {α : Type} (l : List α) (p : α → Bool) : (!(l.filter p).isEmpty) = l.any p := by
  induction l with
  | nil => rfl
  | cons a l ih =>
    rw [List.filter_cons, List.any_cons, ← ih]
    cases p a <;> simp
theorem abs_someGreen {m : CM} (g : m.Good) : Sa38.someGreen m.abs = !m.greens.isEmpty := by
  unfold Sa38.someGreen CM.greens
  rw [isEmpty_filter, abs_all]
  congr 1
  funext k
  exact abs_isGreen g k
theorem lit_isNone (m : CM) (r : Nat) : (m.lit r).isNone = (m.inColour r).isNone := by
  unfold CM.lit
  cases m.inColour r <;> rfl
theorem abs_stuck {m : CM} (g : m.Good) (p k : Nat) : Sa38.stuck m.abs (m.inp p) k = m.stuck k := by
  unfold Sa38.stuck CM.stuck
  rw [abs_called g, abs_ofr g.ok, abs_stream, lit_isNone, bne_nat, beq_nat]
  show (m.called k && ((m.inColour (m.sat k).c.ring).isNone && (decide ((m.sat k).c.group = m.group) && (m.lasts.getD (m.sat k).c.ring none).any fun l => decide (k ≤ l)))) = _
  unfold CM.lastOf
  cases (m.inColour (m.sat k).c.ring).isNone <;> cases decide ((m.sat k).c.group = m.group) <;> simp
theorem abs_pressed {m : CM} (g : m.Good) (p : Nat) : Sa38.pressed m.abs (m.inp p) = m.pressed := by
  unfold Sa38.pressed CM.pressed
  rw [abs_someGreen g, abs_all]
  have e1 : (fun j => Sa38.called m.abs (m.inp p) j && m.nums.any fun k => (m.abs.green k).isSome && Sa38.crosses m.abs j k) = fun k => m.called k && m.greens.any fun g => m.crosses k g := by
    funext j
    rw [abs_called g]
    unfold CM.greens
    rw [any_filter]
    congr 2
    funext k
    rw [abs_isGreen g, abs_crosses]
  have e2 : Sa38.stuck m.abs (m.inp p) = m.stuck := by
    funext k
    exact abs_stuck g p k
  rw [e1, e2]
theorem abs_ready {m : CM} (g : m.Good) (p k : Nat) : Sa38.ready m.abs (m.inp p) (litOf (m.sat k) k) = m.ready k := by
  unfold Sa38.ready CM.ready SM.peopleOver SM.due
  simp only []
  rw [show (litOf (m.sat k) k).k = k from rfl, abs_stream, abs_barred]
  show ((colOf (m.sat k).colour == .green) && ((m.first != some k) && _)) = _
  have e : (colOf (m.sat k).colour == Sa38.Colour.green) = !((m.sat k).colour != 1) := by
    rw [bne_nat]
    by_cases h : (m.sat k).colour = 1
    · rw [h]
      rfl
    · have : ¬ colOf (m.sat k).colour = .green := fun q => h (colOf_green.mp q)
      simp [h, this]
  rw [e]
  have e2 : (m.first != some k) = !(m.first == some k) := rfl
  rw [e2]
  show (!((m.sat k).colour != 1) && (!(m.first == some k) && ((!(m.sat k).letgo || decide ((m.sat k).c.walk + (m.sat k).c.clear ≤ (m.sat k).time)) && (m.barred k || (decide ((m.sat k).c.least ≤ (m.sat k).time) && (((m.sat k).rest == 0 && !(m.sat k).c.tillMost) || decide ((m.sat k).c.most ≤ (m.sat k).waited))))))) = _
  have e3 : decide ((m.sat k).c.least ≤ (m.sat k).time) = !decide ((m.sat k).time < (m.sat k).c.least) := by
    by_cases h : (m.sat k).time < (m.sat k).c.least
    · rw [decide_eq_true h, decide_eq_false (by omega)]
      rfl
    · rw [decide_eq_false h, decide_eq_true (by omega)]
      rfl
  rw [e3]
  by_cases hl : (m.sat k).time < (m.sat k).c.least
  · rw [if_pos hl, decide_eq_true hl]
    cases (m.sat k).colour != 1 <;> cases m.first == some k <;> cases (!(m.sat k).letgo || decide ((m.sat k).c.walk + (m.sat k).c.clear ≤ (m.sat k).time)) <;> simp
  · rw [if_neg hl, decide_eq_false hl]
    cases (m.sat k).colour != 1 <;> cases m.first == some k <;> cases (!(m.sat k).letgo || decide ((m.sat k).c.walk + (m.sat k).c.clear ≤ (m.sat k).time)) <;> simp [Bool.or_comm]
theorem abs_over {m : CM} (g : m.Good) (p r : Nat) : Sa38.isOver m.abs (m.inp p) (m.lit r) = m.over r := by
  unfold CM.over
  rcases lit_cases g r with ⟨e1, e2, _⟩ | ⟨k, e1, e2, _, _⟩
  · rw [e1, e2]
    rfl
  · rw [e1, e2]
    show ((Sa38.heir m.abs (m.inp p) k).isNone && ((colOf (m.sat k).colour != .green) || Sa38.ready m.abs (m.inp p) (litOf (m.sat k) k))) = if (m.heir k).isSome = true then false else (m.sat k).colour != 1 || m.ready k
    rw [abs_heir g, abs_ready g]
    have e : (colOf (m.sat k).colour != Sa38.Colour.green) = ((m.sat k).colour != 1) := by
      rw [bne_nat]
      by_cases h : (m.sat k).colour = 1
      · rw [h]
        rfl
      · have : ¬ colOf (m.sat k).colour = .green := fun q => h (colOf_green.mp q)
        simp [h, this]
    rw [e]
    cases m.heir k <;> simp
end Cg

/-! The law, part two: a step of the mirror is a step of the specification. -/
namespace Cg
theorem abs_eq {m : CM} {s : Sa38.St} (h1 : m.ss.map SM.c = s.streams) (h2 : ∀ r, r < 4 → m.lit r = s.lit.getD r none) (h2' : s.lit.length = 4) (h3 : m.lasts = s.last) (h4 : m.group = s.group)
    (h5 : m.ss.map SM.car = s.cars) (h6 : m.ss.map SM.button = s.people) : m.abs = s := by
  cases s with
  | mk a b c d e f =>
    show Sa38.St.mk _ _ _ _ _ _ = _
    have e2 : (List.range 4).map m.lit = b := by
      apply List.ext_getElem?
      intro r
      rw [List.getElem?_map]
      rcases Nat.lt_or_ge r 4 with q | q
      · rw [List.getElem?_range q]
        have hb : b.length = 4 := h2'
        have z := h2 r q
        rw [List.getD_eq_getElem?_getD, List.getElem?_eq_getElem (by omega)] at z
        rw [List.getElem?_eq_getElem (by omega)]
        exact congrArg some z
      · have hb : b.length = 4 := h2'
        have e1 : b[r]? = none := List.getElem?_eq_none_iff.mpr (by omega)
        have e3 : (List.range 4)[r]? = none := List.getElem?_eq_none_iff.mpr (by rw [List.length_range]; exact q)
        rw [e1, e3]
        rfl
    rw [h1, e2, h3, h4, h5, h6]
/-- a crossing whose streams are changed one by one, their text and colours' being kept -/
theorem sat_mapIdx (m : CM) (f : Nat → SM → SM) (k : Nat) (h : k < m.ss.length) : ({ m with ss := m.ss.mapIdx f } : CM).sat k = f k (m.sat k) := by
  apply sat_of
  show (m.ss.mapIdx f)[k]? = _
  rw [List.getElem?_mapIdx, sat_lt h]
  rfl
theorem sat_map (m : CM) (f : SM → SM) (hf : f dflt = dflt) (k : Nat) : ({ m with ss := m.ss.map f } : CM).sat k = f (m.sat k) := by
  rcases Nat.lt_or_ge k m.ss.length with q | q
  · apply sat_of
    show (m.ss.map f)[k]? = _
    rw [List.getElem?_map, sat_lt q]
    rfl
  · rw [sat_ge (by show (m.ss.map f).length ≤ k; rw [List.length_map]; exact q), sat_ge q, hf]
/-- two crossings of the same rings and colours have the same in colour -/
theorem inColour_same {m m' : CM} (hl : m'.ss.length = m.ss.length) (hr : ∀ k, (m'.sat k).c = (m.sat k).c) (hc : ∀ k, (m'.sat k).colour = (m.sat k).colour) (r : Nat) : m'.inColour r = m.inColour r := by
  unfold CM.inColour CM.nums
  rw [hl]
  congr 1
  funext k
  rw [hr, hc]
theorem Ok.same {m m' : CM} (o : m.Ok) (hl : m'.ss.length = m.ss.length) (hr : ∀ k, (m'.sat k).c = (m.sat k).c) (h1 : m'.group = m.group) (h2 : m'.lasts = m.lasts) (h3 : m'.first = m.first) : m'.Ok := by
  have get : ∀ s ∈ m'.ss, ∃ t ∈ m.ss, s.c = t.c := fun s hs => by
    obtain ⟨k, hk⟩ := List.mem_iff_getElem?.mp hs
    have lt : k < m'.ss.length := (List.getElem?_eq_some_iff.mp hk).1
    refine ⟨m.sat k, sat_mem (by omega), ?_⟩
    rw [← hr k, sat_of hk]
  exact { pos := by rw [hl]; exact o.pos, len := by rw [hl]; exact o.len
          ring := fun s hs => by obtain ⟨t, ht, e⟩ := get s hs; rw [e]; exact o.ring t ht
          grp := fun s hs => by obtain ⟨t, ht, e⟩ := get s hs; rw [e]; exact o.grp t ht
          mode := fun s hs => by obtain ⟨t, ht, e⟩ := get s hs; rw [e]; exact o.mode t ht
          group := by rw [h1]; exact o.group
          lasts := by rw [h2]; exact o.lasts
          last := by rw [h2, hl]; exact o.last
          first := by rw [h3, hl]; exact o.first }
theorem Good.same {m m' : CM} (g : m.Good) (hl : m'.ss.length = m.ss.length) (hr : ∀ k, (m'.sat k).c = (m.sat k).c) (hc : ∀ k, (m'.sat k).colour = (m.sat k).colour) (h1 : m'.group = m.group) (h2 : m'.lasts = m.lasts) (h3 : m'.first = m.first) : m'.Good where
  ok := Ok.same g.ok hl hr h1 h2 h3
  uniq := fun j k => by rw [hc, hc, hr, hr]; exact g.uniq j k
  lastr := fun r k h => by rw [hr]; exact g.lastr r k (by unfold CM.lastOf at h ⊢; rw [← h2]; exact h)
  col := fun k => by rw [hc]; exact g.col k

theorem range_getD {α : Type} (f : Nat → Option α) {r : Nat} (h : r < 4) : ((List.range 4).map f).getD r none = f r := by
  rw [List.getD_eq_getElem?_getD, List.getElem?_map, List.getElem?_range h]
  rfl
theorem lit_length (m : CM) : m.abs.lit.length = 4 := by
  show ((List.range 4).map m.lit).length = 4
  rw [List.length_map, List.length_range]

/-! ### calls -/
theorem remember_c (s : SM) (a b : Bool) : (s.remember a b).c = s.c := rfl
theorem sat_calls (m : CM) (p k : Nat) : (m.takeCalls p).sat k = if k < m.ss.length then (m.sat k).remember (m.cars.testBit k) (p.testBit k) else dflt := by
  by_cases h : k < m.ss.length
  · rw [if_pos h]
    exact sat_mapIdx m (fun k s => s.remember (m.cars.testBit k) (p.testBit k)) k h
  · rw [if_neg h, sat_ge]
    show (m.ss.mapIdx _).length ≤ k
    rw [List.length_mapIdx]
    omega
theorem calls_c (m : CM) (p k : Nat) : ((m.takeCalls p).sat k).c = (m.sat k).c := by
  rw [sat_calls]
  by_cases h : k < m.ss.length
  · rw [if_pos h]
    rfl
  · rw [if_neg h, sat_ge (by omega)]
theorem calls_colour (m : CM) (p k : Nat) : ((m.takeCalls p).sat k).colour = (m.sat k).colour := by
  rw [sat_calls]
  by_cases h : k < m.ss.length
  · rw [if_pos h]
    rfl
  · rw [if_neg h, sat_ge (by omega)]
theorem calls_len (m : CM) (p : Nat) : (m.takeCalls p).ss.length = m.ss.length := by
  show (m.ss.mapIdx _).length = _
  rw [List.length_mapIdx]
theorem good_calls {m : CM} (g : m.Good) (p : Nat) : (m.takeCalls p).Good := Good.same g (calls_len m p) (calls_c m p) (calls_colour m p) rfl rfl rfl
theorem map_mapIdx {α β γ : Type} (l : List α) (f : Nat → α → β) (g : β → γ) : (l.mapIdx f).map g = l.mapIdx fun i a => g (f i a) := by
  apply List.ext_getElem?
  intro i
  rw [List.getElem?_map, List.getElem?_mapIdx, List.getElem?_mapIdx]
  cases l[i]? <;> rfl
theorem mapIdx_id {α β : Type} (l : List α) (f : Nat → α → β) (g : α → β) (h : ∀ i a, f i a = g a) : l.mapIdx f = l.map g := by
  apply List.ext_getElem?
  intro i
  rw [List.getElem?_map, List.getElem?_mapIdx]
  cases l[i]? with
  | none => rfl
  | some a => exact congrArg some (h i a)
theorem abs_calls {m : CM} (g : m.Good) (p : Nat) : (m.takeCalls p).abs = Sa38.remember m.abs (m.inp p) := by
  refine abs_eq ?_ (fun r hr => ?_) (lit_length m) rfl rfl ?_ ?_
  · show (m.ss.mapIdx _).map SM.c = m.ss.map SM.c
    rw [map_mapIdx]
    exact mapIdx_id _ _ _ fun _ _ => rfl
  · show _ = ((List.range 4).map m.lit).getD r none
    rw [range_getD _ hr]
    unfold CM.lit
    rw [inColour_same (calls_len m p) (calls_c m p) (calls_colour m p)]
    cases e : m.inColour r with
    | none => rfl
    | some k =>
      show some (litOf ((m.takeCalls p).sat k) k) = some (litOf (m.sat k) k)
      rw [sat_calls, if_pos (colour_lt (inColour_some' e).2)]
      rfl
  · show (m.ss.mapIdx _).map SM.car = (m.ss.map SM.car).zipIdx.map _
    apply List.ext_getElem?
    intro k
    rw [List.getElem?_map, List.getElem?_map, List.getElem?_mapIdx, List.getElem?_zipIdx, List.getElem?_map]
    cases e : m.ss[k]? with
    | none => rfl
    | some s =>
      show some (s.car || (m.cars.testBit k && (s.c.remembers && s.colour != 1))) = some (s.car || (m.cars.testBit (0 + k) && ((m.abs.stream (0 + k)).remembers && (m.abs.green (0 + k)).isNone)))
      rw [Nat.zero_add, abs_stream, abs_notGreen g, sat_of e]
  · show (m.ss.mapIdx _).map SM.button = (m.ss.map SM.button).zipIdx.map _
    apply List.ext_getElem?
    intro k
    rw [List.getElem?_map, List.getElem?_map, List.getElem?_mapIdx, List.getElem?_zipIdx, List.getElem?_map]
    cases e : m.ss[k]? with
    | none => rfl
    | some s =>
      show some (s.button || (p.testBit k && (decide (0 < s.c.walk) && !s.walkers))) = some (s.button || (p.testBit (0 + k) && (decide (0 < (m.abs.stream (0 + k)).walk) && !Sa38.walks m.abs (0 + k))))
      rw [Nat.zero_add, abs_stream, abs_walks g, sat_of e]

/-! ### clocks -/
theorem endWalk_c (s : SM) : s.endWalk.c = s.c := by
  unfold SM.endWalk
  split <;> rfl
theorem endWalk_colour (s : SM) : s.endWalk.colour = s.colour := by
  unfold SM.endWalk
  split <;> rfl
theorem endWalk_car (s : SM) : s.endWalk.car = s.car := by
  unfold SM.endWalk
  split <;> rfl
theorem endWalk_button (s : SM) : s.endWalk.button = s.button := by
  unfold SM.endWalk
  split <;> rfl
theorem tick1_c (m : CM) (pr : Bool) (k : Nat) (s : SM) : (m.tick1 pr k s).c = s.c := by
  unfold CM.tick1
  split
  · rw [endWalk_c]
    rfl
  · rfl
theorem tick1_colour (m : CM) (pr : Bool) (k : Nat) (s : SM) : (m.tick1 pr k s).colour = s.colour := by
  unfold CM.tick1
  split
  · rw [endWalk_colour]
    rfl
  · rfl
theorem tick1_car (m : CM) (pr : Bool) (k : Nat) (s : SM) : (m.tick1 pr k s).car = s.car := by
  unfold CM.tick1
  split
  · rw [endWalk_car]
    rfl
  · rfl
theorem tick1_button (m : CM) (pr : Bool) (k : Nat) (s : SM) : (m.tick1 pr k s).button = s.button := by
  unfold CM.tick1
  split
  · rw [endWalk_button]
    rfl
  · rfl
theorem sat_clocks (m : CM) (k : Nat) : m.runClocks.sat k = if k < m.ss.length then m.tick1 m.pressed k (m.sat k) else dflt := by
  by_cases h : k < m.ss.length
  · rw [if_pos h]
    exact sat_mapIdx m (m.tick1 m.pressed) k h
  · rw [if_neg h, sat_ge]
    show (m.ss.mapIdx _).length ≤ k
    rw [List.length_mapIdx]
    omega
theorem clocks_c (m : CM) (k : Nat) : (m.runClocks.sat k).c = (m.sat k).c := by
  rw [sat_clocks]
  by_cases h : k < m.ss.length
  · rw [if_pos h, tick1_c]
  · rw [if_neg h, sat_ge (by omega)]
theorem clocks_colour (m : CM) (k : Nat) : (m.runClocks.sat k).colour = (m.sat k).colour := by
  rw [sat_clocks]
  by_cases h : k < m.ss.length
  · rw [if_pos h, tick1_colour]
  · rw [if_neg h, sat_ge (by omega)]
theorem clocks_len (m : CM) : m.runClocks.ss.length = m.ss.length := by
  show (m.ss.mapIdx _).length = _
  rw [List.length_mapIdx]
theorem good_clocks {m : CM} (g : m.Good) : m.runClocks.Good := Good.same g (clocks_len m) (clocks_c m) (clocks_colour m) rfl rfl rfl
theorem lit_tick1 {m : CM} (g : m.Good) (p k : Nat) (h0 : (m.sat k).colour ≠ 0) : litOf (m.tick1 m.pressed k (m.sat k)) k = Sa38.clock m.abs (m.inp p) (litOf (m.sat k) k) := by
  unfold Sa38.clock
  simp only []
  rw [show (litOf (m.sat k) k).k = k from rfl, abs_stream, abs_barred, abs_pressed g]
  show _ = if colOf (m.sat k).colour = .green then Sa38.Lit.mk k (colOf (m.sat k).colour) (if m.barred k = true ∧ (m.sat k).letgo = true ∧ (m.sat k).time + 1 < (m.sat k).c.walk then (m.sat k).c.walk else (m.sat k).time + 1)
    (if m.cars.testBit k = true then (m.sat k).c.gap else (m.sat k).rest - 1) (if m.pressed = true then (m.sat k).waited + 1 else (m.sat k).waited) (m.sat k).letgo
    else Sa38.Lit.mk k (colOf (m.sat k).colour) ((m.sat k).time + 1) (m.sat k).rest (m.sat k).waited (m.sat k).letgo
  generalize m.sat k = s at *
  by_cases hg : s.colour = 1
  · rw [if_pos (colOf_green.mpr hg)]
    unfold CM.tick1 SM.endWalk SM.walkers SM.tick litOf
    simp only [hg]
    by_cases hb : m.barred k = true
    · simp only [hb, if_true]
      by_cases hw : s.letgo = true ∧ s.time + 1 < s.c.walk
      · obtain ⟨h1, h2⟩ := hw
        simp [h1, h2]
      · by_cases h1 : s.letgo = true
        · have h2 : ¬ s.time + 1 < s.c.walk := fun q => hw ⟨h1, q⟩
          simp [h1, h2]
        · simp [h1]
    · simp [hb]
  · rw [if_neg (fun q => hg (colOf_green.mp q))]
    unfold CM.tick1 SM.endWalk SM.walkers SM.tick litOf
    by_cases hb : m.barred k = true <;> simp [hb, hg, h0]
theorem abs_clocks {m : CM} (g : m.Good) (p : Nat) : m.runClocks.abs = Sa38.clocks m.abs (m.inp p) := by
  refine abs_eq ?_ (fun r hr => ?_) ?_ rfl rfl ?_ ?_
  · show (m.ss.mapIdx _).map SM.c = m.ss.map SM.c
    rw [map_mapIdx]
    exact mapIdx_id _ _ _ fun i a => tick1_c m _ i a
  · show _ = (((List.range 4).map m.lit).map fun x => x.map (Sa38.clock m.abs (m.inp p))).getD r none
    rw [List.map_map, range_getD _ hr]
    show _ = (m.lit r).map (Sa38.clock m.abs (m.inp p))
    unfold CM.lit
    rw [inColour_same (clocks_len m) (clocks_c m) (clocks_colour m)]
    cases e : m.inColour r with
    | none => rfl
    | some k =>
      show some (litOf (m.runClocks.sat k) k) = some (Sa38.clock m.abs (m.inp p) (litOf (m.sat k) k))
      have h0 := (inColour_some' e).2
      rw [sat_clocks, if_pos (colour_lt h0), lit_tick1 g p k h0]
  · show (m.abs.lit.map _).length = 4
    rw [List.length_map]
    exact lit_length m
  · show (m.ss.mapIdx _).map SM.car = m.ss.map SM.car
    rw [map_mapIdx]
    exact mapIdx_id _ _ _ fun i a => tick1_car m _ i a
  · show (m.ss.mapIdx _).map SM.button = m.ss.map SM.button
    rw [map_mapIdx]
    exact mapIdx_id _ _ _ fun i a => tick1_button m _ i a

/-! ### fading -/
theorem fade1_c (s : SM) : s.fade1.c = s.c := by
  unfold SM.fade1
  split <;> rfl
theorem fade2_c (s : SM) : s.fade2.c = s.c := by
  unfold SM.fade2
  split <;> rfl
theorem fade_c (s : SM) : s.fade.c = s.c := (fade2_c _).trans (fade1_c s)
theorem fade_car (s : SM) : s.fade.car = s.car := by
  unfold SM.fade SM.fade2 SM.fade1
  split <;> split <;> rfl
theorem fade_button (s : SM) : s.fade.button = s.button := by
  unfold SM.fade SM.fade2 SM.fade1
  split <;> split <;> rfl
theorem sat_fade (m : CM) (k : Nat) : m.fade.sat k = (m.sat k).fade := sat_map m SM.fade rfl k
theorem fade_zero {s : SM} (h : s.colour = 0) : s.fade.colour = 0 := by
  have e1 : s.fade1 = s := by
    unfold SM.fade1
    rw [if_neg (by omega)]
  unfold SM.fade
  rw [e1]
  unfold SM.fade2
  rw [if_neg (by omega)]
  exact h
theorem fade_le {s : SM} (h : s.colour ≤ 3) : s.fade.colour ≤ 3 := by
  unfold SM.fade SM.fade2
  split
  · exact Nat.zero_le _
  · unfold SM.fade1
    split
    · exact Nat.le_refl _
    · exact h
theorem fade_nz {s : SM} (h : s.fade.colour ≠ 0) : s.colour ≠ 0 := fun q => h (fade_zero q)
theorem fade_len (m : CM) : m.fade.ss.length = m.ss.length := by
  show (m.ss.map _).length = _
  rw [List.length_map]
theorem fade_rc (m : CM) (k : Nat) : (m.fade.sat k).c = (m.sat k).c := by rw [sat_fade, fade_c]
theorem good_fade {m : CM} (g : m.Good) : m.fade.Good where
  ok := Ok.same g.ok (fade_len m) (fade_rc m) rfl rfl rfl
  uniq := fun j k h1 h2 h3 => by
    rw [sat_fade] at h1 h2
    rw [fade_rc, fade_rc] at h3
    exact g.uniq j k (fade_nz h1) (fade_nz h2) h3
  lastr := fun r k h => by rw [fade_rc]; exact g.lastr r k h
  col := fun k => by rw [sat_fade]; exact fade_le (g.col k)
theorem faded_lit {m : CM} (g : m.Good) (k : Nat) (h0 : (m.sat k).colour ≠ 0) : (if (m.sat k).fade.colour = 0 then none else some (litOf (m.sat k).fade k)) = Sa38.faded m.abs (some (litOf (m.sat k) k)) := by
  unfold Sa38.faded
  rw [Option.bind_some]
  simp only []
  rw [show (litOf (m.sat k) k).k = k from rfl, abs_stream]
  have h3 := g.col k
  generalize m.sat k = s at *
  show (if s.fade.colour = 0 then none else some (litOf s.fade k)) = if colOf s.colour = .yellow ∧ s.c.yellow ≤ s.time then (if s.c.red = 0 then none else some (Sa38.Lit.mk k .clearing 0 s.rest s.waited s.letgo))
    else if colOf s.colour = .clearing ∧ s.c.red ≤ s.time then none else some (litOf s k)
  by_cases hy : s.colour = 2 ∧ s.c.yellow ≤ s.time
  · have e1 : s.fade1 = { s with colour := 3, time := 0 } := if_pos hy
    rw [if_pos (c := colOf s.colour = .yellow ∧ s.c.yellow ≤ s.time) ⟨colOf_yellow.mpr hy.1, hy.2⟩]
    by_cases hr : s.c.red = 0
    · have e2 : s.fade.colour = 0 := by
        show s.fade1.fade2.colour = 0
        rw [e1]
        unfold SM.fade2
        rw [if_pos ⟨rfl, by show s.c.red ≤ 0; omega⟩]
      rw [if_pos e2, if_pos hr]
    · have e2 : s.fade = { s with colour := 3, time := 0 } := by
        show s.fade1.fade2 = _
        rw [e1]
        unfold SM.fade2
        rw [if_neg]
        rintro ⟨_, q⟩
        have q' : s.c.red ≤ 0 := q
        omega
      rw [e2, if_neg hr, if_neg (by show ¬ (3 : Nat) = 0; decide)]
      rfl
  · have e1 : s.fade1 = s := if_neg hy
    rw [if_neg (c := colOf s.colour = .yellow ∧ s.c.yellow ≤ s.time) (fun q => hy ⟨colOf_yellow.mp q.1, q.2⟩)]
    by_cases hc : s.colour = 3 ∧ s.c.red ≤ s.time
    · have e2 : s.fade.colour = 0 := by
        show s.fade1.fade2.colour = 0
        rw [e1]
        unfold SM.fade2
        rw [if_pos hc]
      rw [if_pos e2, if_pos ⟨(colOf_clearing h0 h3).mpr hc.1, hc.2⟩]
    · have e2 : s.fade = s := by
        show s.fade1.fade2 = _
        rw [e1]
        unfold SM.fade2
        rw [if_neg hc]
      rw [e2, if_neg h0, if_neg (fun q => hc ⟨(colOf_clearing h0 h3).mp q.1, q.2⟩)]
theorem lit_fade {m : CM} (g : m.Good) (r : Nat) : m.fade.lit r = Sa38.faded m.abs (m.lit r) := by
  rcases lit_cases g r with ⟨_, e2, h⟩ | ⟨k, _, e2, h1, h2⟩
  · rw [e2, lit_none]
    · rfl
    · intro k hk
      rw [fade_rc] at hk
      rw [sat_fade]
      exact fade_zero (h k hk)
  · rw [e2, ← faded_lit g k h2]
    by_cases q : (m.sat k).fade.colour = 0
    · rw [if_pos q, lit_none]
      intro j hj
      rw [fade_rc] at hj
      rw [sat_fade]
      by_cases z : (m.sat j).colour = 0
      · exact fade_zero z
      · rw [g.uniq j k z h2 (hj.trans h1.symm)]
        exact q
    · rw [if_neg q]
      have z := lit_some (good_fade g) (k := k) (by rw [sat_fade]; exact q)
      rw [fade_rc, h1, sat_fade] at z
      exact z
theorem abs_fade {m : CM} (g : m.Good) : m.fade.abs = { m.abs with lit := m.abs.lit.map (Sa38.faded m.abs) } := by
  refine abs_eq ?_ (fun r hr => ?_) ?_ rfl rfl ?_ ?_
  · show (m.ss.map _).map SM.c = m.ss.map SM.c
    rw [List.map_map]
    exact List.map_congr_left fun s _ => fade_c s
  · show _ = (((List.range 4).map m.lit).map (Sa38.faded m.abs)).getD r none
    rw [List.map_map, range_getD _ hr]
    exact lit_fade g r
  · show (m.abs.lit.map _).length = 4
    rw [List.length_map]
    exact lit_length m
  · show (m.ss.map _).map SM.car = m.ss.map SM.car
    rw [List.map_map]
    exact List.map_congr_left fun s _ => fade_car s
  · show (m.ss.map _).map SM.button = m.ss.map SM.button
    rw [List.map_map]
    exact List.map_congr_left fun s _ => fade_button s

/-! ### some become yellow -/
theorem sat_modify (m : CM) (f : SM → SM) (j k : Nat) : ({ m with ss := m.ss.modify j f } : CM).sat k = if j = k ∧ k < m.ss.length then f (m.sat k) else m.sat k := by
  rcases Nat.lt_or_ge k m.ss.length with q | q
  · apply sat_of
    show (m.ss.modify j f)[k]? = _
    rw [List.getElem?_modify, sat_lt q]
    by_cases e : j = k
    · rw [if_pos ⟨e, q⟩]
      show some (if j = k then f (m.sat k) else m.sat k) = _
      rw [if_pos e]
    · rw [if_neg (fun z => e z.1)]
      show some (if j = k then f (m.sat k) else m.sat k) = _
      rw [if_neg e]
  · rw [if_neg (by omega), sat_ge (by show (m.ss.modify j f).length ≤ k; rw [List.length_modify]; exact q), sat_ge q]
theorem sat_yellow1 (m : CM) (j k : Nat) : (m.yellow1 j).sat k = if j = k ∧ k < m.ss.length then (m.sat k).toYellow else m.sat k := sat_modify m SM.toYellow j k
theorem yellow1_len (m : CM) (j : Nat) : (m.yellow1 j).ss.length = m.ss.length := List.length_modify _ _ _
theorem toYellow_twice (s : SM) : s.toYellow.toYellow = s.toYellow := rfl
structure Yel (m m' : CM) (l : List Nat) : Prop where
  len : m'.ss.length = m.ss.length
  sat : ∀ k, m'.sat k = if k ∈ l ∧ k < m.ss.length then (m.sat k).toYellow else m.sat k
  group : m'.group = m.group
  lasts : m'.lasts = m.lasts
  cars : m'.cars = m.cars
  first : m'.first = m.first
theorem yel_of : ∀ (l : List Nat) (m : CM), Yel m (m.yellow l) l
  | [], m => ⟨rfl, fun k => by rw [if_neg (by simp)]; rfl, rfl, rfl, rfl, rfl⟩
  | j :: l, m => by
    have h := yel_of l (m.yellow1 j)
    refine ⟨h.len.trans (yellow1_len m j), fun k => ?_, h.group, h.lasts, h.cars, h.first⟩
    show ((m.yellow1 j).yellow l).sat k = _
    rw [h.sat k, yellow1_len, sat_yellow1]
    by_cases hk : k < m.ss.length
    · by_cases e : j = k
      · subst e
        rw [if_pos (c := j = j ∧ j < m.ss.length) ⟨rfl, hk⟩, if_pos (c := j ∈ j :: l ∧ j < m.ss.length) ⟨List.mem_cons_self .., hk⟩]
        split <;> rfl
      · rw [if_neg (c := j = k ∧ k < m.ss.length) (fun z => e z.1)]
        by_cases q : k ∈ l
        · rw [if_pos ⟨q, hk⟩, if_pos ⟨List.mem_cons_of_mem _ q, hk⟩]
        · rw [if_neg (fun z => q z.1), if_neg]
          rintro ⟨z, _⟩
          rcases List.mem_cons.mp z with z | z
          · exact e z.symm
          · exact q z
    · rw [if_neg (fun z => hk z.2), if_neg (fun z => hk z.2), if_neg (fun z => hk z.2)]
theorem yel_nil {m m' : CM} (y : Yel m m' []) (k : Nat) : m'.sat k = m.sat k := by rw [y.sat k, if_neg (by simp)]
theorem yel_c {m m' : CM} {l : List Nat} (y : Yel m m' l) (k : Nat) : (m'.sat k).c = (m.sat k).c := by
  rw [y.sat]
  split <;> rfl
theorem yel_car {m m' : CM} {l : List Nat} (y : Yel m m' l) (k : Nat) : (m'.sat k).car = (m.sat k).car := by
  rw [y.sat]
  split <;> rfl
theorem yel_button {m m' : CM} {l : List Nat} (y : Yel m m' l) (k : Nat) : (m'.sat k).button = (m.sat k).button := by
  rw [y.sat]
  split <;> rfl
theorem map_of_sat {α : Type} {m m' : CM} (f : SM → α) (hl : m'.ss.length = m.ss.length) (h : ∀ k, f (m'.sat k) = f (m.sat k)) : m'.ss.map f = m.ss.map f := by
  apply List.ext_getElem?
  intro k
  rw [List.getElem?_map, List.getElem?_map]
  rcases Nat.lt_or_ge k m.ss.length with q | q
  · rw [sat_lt q, sat_lt (m := m') (by omega)]
    exact congrArg some (h k)
  · rw [List.getElem?_eq_none_iff.mpr q, List.getElem?_eq_none_iff.mpr (by omega)]
/-- only such as are green become yellow -/
structure YelG (m m' : CM) (l : List Nat) : Prop extends Yel m m' l where
  gr : ∀ k ∈ l, (m.sat k).colour = 1
theorem yelg_nz {m m' : CM} {l : List Nat} (y : YelG m m' l) (k : Nat) : (m'.sat k).colour ≠ 0 ↔ (m.sat k).colour ≠ 0 := by
  rw [y.sat]
  split
  · rename_i h
    have := y.gr k h.1
    constructor
    · intro _
      omega
    · intro _
      show (2 : Nat) ≠ 0
      decide
  · exact Iff.rfl
theorem yelg_good {m m' : CM} {l : List Nat} (y : YelG m m' l) (g : m.Good) : m'.Good where
  ok := Ok.same g.ok y.len (yel_c y.toYel) y.group y.lasts y.first
  uniq := fun j k h1 h2 h3 => by
    rw [yel_c y.toYel, yel_c y.toYel] at h3
    exact g.uniq j k ((yelg_nz y j).mp h1) ((yelg_nz y k).mp h2) h3
  lastr := fun r k h => by
    rw [yel_c y.toYel]
    unfold CM.lastOf at h
    rw [y.lasts] at h
    exact g.lastr r k h
  col := fun k => by
    rw [y.sat]
    split
    · show (2 : Nat) ≤ 3
      decide
    · exact g.col k
theorem lit_yellow {s : SM} {k : Nat} : litOf s.toYellow k = Sa38.toYellow (litOf s k) := rfl
theorem lit_yel {m m' : CM} {l : List Nat} (y : YelG m m' l) (g : m.Good) (r : Nat) : m'.lit r = (m.lit r).map fun x => if x.k ∈ l then Sa38.toYellow x else x := by
  rcases lit_cases g r with ⟨_, e2, h⟩ | ⟨k, _, e2, h1, h2⟩
  · rw [e2, lit_none]
    · rfl
    · intro k hk
      rw [yel_c y.toYel] at hk
      have z := yelg_nz y k
      have := h k hk
      by_cases q : (m'.sat k).colour = 0
      · exact q
      · exact absurd this (z.mp q)
  · rw [e2]
    show _ = some (if k ∈ l then Sa38.toYellow (litOf (m.sat k) k) else litOf (m.sat k) k)
    have z := lit_some (yelg_good y g) (k := k) ((yelg_nz y k).mpr h2)
    rw [yel_c y.toYel, h1, y.sat] at z
    rw [z]
    by_cases q : k ∈ l
    · rw [if_pos ⟨q, colour_lt h2⟩, if_pos q]
      rfl
    · rw [if_neg (fun w => q w.1), if_neg q]
theorem mem_greens {m : CM} {k : Nat} : k ∈ m.greens ↔ (m.sat k).colour = 1 := by
  unfold CM.greens
  rw [List.mem_filter, mem_nums, beq_iff_eq]
  exact ⟨fun h => h.2, fun h => ⟨colour_lt (by omega), h⟩⟩
theorem mem_ripe {m : CM} {k : Nat} : k ∈ m.ripe ↔ (m.sat k).colour = 1 ∧ m.ready k = true ∧ (m.heir k).isSome = true := by
  unfold CM.ripe
  rw [List.mem_filter, mem_greens, Bool.and_eq_true]
theorem ready_green {m : CM} {k : Nat} (h : m.ready k = true) : (m.sat k).colour = 1 := by
  unfold CM.ready at h
  by_cases q : (m.sat k).colour = 1
  · exact q
  · have e : ((m.sat k).colour != 1) = true := by simp [q]
    rw [e] at h
    simp at h
theorem yelG_ripe (m : CM) : YelG m (m.yellow m.ripe) m.ripe := { yel_of m.ripe m with gr := fun k h => (mem_ripe.mp h).1 }
theorem yelG_greens (m : CM) : YelG m (m.yellow m.greens) m.greens := { yel_of m.greens m with gr := fun k h => mem_greens.mp h }
theorem good_ends {m : CM} (g : m.Good) : m.ends.Good := by
  have g1 := yelg_good (yelG_ripe m.fade) (good_fade g)
  unfold CM.ends
  simp only []
  split
  · exact yelg_good (yelG_greens _) g1
  · exact g1
/-- where all rings are over none has an heir that is ready -/
theorem ripe_nil {m : CM} (g : m.Good) (h : (List.range 4).all m.over = true) : m.ripe = [] := by
  rw [List.eq_nil_iff_forall_not_mem]
  intro k hk
  obtain ⟨h1, _, h3⟩ := mem_ripe.mp hk
  have q := List.all_eq_true.mp h (m.sat k).c.ring (List.mem_range.mpr (Ok.ring_lt g.ok k))
  unfold CM.over at q
  rw [(inColour_some g).mpr ⟨rfl, by omega⟩] at q
  simp only [h3, if_true] at q
  exact absurd q (by decide)
/-- the specification's ends behind the fading -/
def ends2 (s : Sa38.St) (i : Sa38.In) : Sa38.St :=
  { s with lit := s.lit.map fun y => y.map fun x =>
      if Sa38.ready s i x = true ∧ (Sa38.heir s i x.k).isSome = true then Sa38.toYellow x
      else if x.colour = .green ∧ s.lit.all (Sa38.isOver s i) = true ∧ Sa38.pressed s i = true then Sa38.toYellow x
      else x }
theorem ends_two (s : Sa38.St) (i : Sa38.In) : Sa38.ends s i = ends2 { s with lit := s.lit.map (Sa38.faded s) } i := rfl
theorem abs_ends {m : CM} (g : m.Good) (p : Nat) : m.ends.abs = Sa38.ends m.abs (m.inp p) := by
  have g1 := good_fade g
  rw [ends_two, ← abs_fade g]
  have ei : m.inp p = m.fade.inp p := rfl
  rw [ei]
  unfold CM.ends
  simp only []
  generalize m.fade = f at *
  have eall : f.abs.lit.all (Sa38.isOver f.abs (f.inp p)) = (List.range 4).all f.over := by
    show ((List.range 4).map f.lit).all _ = _
    rw [List.all_map]
    congr 1
    funext r
    exact abs_over g1 p r
  unfold ends2
  rw [eall, abs_pressed g1]
  have elit : ∀ {m' : CM} {l : List Nat}, YelG f m' l → (∀ k, (f.sat k).colour ≠ 0 → (k ∈ l ↔ (f.ready k = true ∧ (f.heir k).isSome = true) ∨ ((f.sat k).colour = 1 ∧ (List.range 4).all f.over = true ∧ f.pressed = true))) →
      m'.abs = { f.abs with lit := f.abs.lit.map fun y => y.map fun x => if Sa38.ready f.abs (f.inp p) x = true ∧ (Sa38.heir f.abs (f.inp p) x.k).isSome = true then Sa38.toYellow x
        else if x.colour = .green ∧ (List.range 4).all f.over = true ∧ f.pressed = true then Sa38.toYellow x else x } := by
    intro m' l y hl
    refine abs_eq ?_ (fun r hr => ?_) ?_ y.lasts y.group ?_ ?_
    · exact map_of_sat SM.c y.len (yel_c y.toYel)
    · show _ = (((List.range 4).map f.lit).map _).getD r none
      rw [List.map_map, range_getD _ hr, lit_yel y g1]
      show _ = (f.lit r).map _
      rcases lit_cases g1 r with ⟨_, e2, h⟩ | ⟨k, _, e2, h1, h2⟩
      · rw [e2]
        rfl
      · rw [e2]
        show some (if k ∈ l then Sa38.toYellow (litOf (f.sat k) k) else litOf (f.sat k) k) = some (if Sa38.ready f.abs (f.inp p) (litOf (f.sat k) k) = true ∧ (Sa38.heir f.abs (f.inp p) k).isSome = true then Sa38.toYellow (litOf (f.sat k) k)
          else if colOf (f.sat k).colour = .green ∧ (List.range 4).all f.over = true ∧ f.pressed = true then Sa38.toYellow (litOf (f.sat k) k) else litOf (f.sat k) k)
        rw [abs_ready g1, abs_heir g1]
        have hk := hl k h2
        by_cases q1 : f.ready k = true ∧ (f.heir k).isSome = true
        · rw [if_pos (hk.mpr (.inl q1)), if_pos q1]
        · rw [if_neg q1]
          by_cases q2 : (f.sat k).colour = 1 ∧ (List.range 4).all f.over = true ∧ f.pressed = true
          · rw [if_pos (hk.mpr (.inr q2)), if_pos ⟨colOf_green.mpr q2.1, q2.2⟩]
          · rw [if_neg (fun z => (hk.mp z).elim q1 q2), if_neg (fun z => q2 ⟨colOf_green.mp z.1, z.2⟩)]
    · show (f.abs.lit.map _).length = 4
      rw [List.length_map]
      exact lit_length f
    · exact map_of_sat SM.car y.len (yel_car y.toYel)
    · exact map_of_sat SM.button y.len (yel_button y.toYel)
  by_cases ha : (List.range 4).all f.over = true
  · have er := ripe_nil g1 ha
    have e2 : f.yellow f.ripe = f := by rw [er]; rfl
    rw [e2]
    by_cases hp : f.pressed = true
    · rw [if_pos (by rw [ha, hp]; rfl)]
      refine elit (yelG_greens f) fun k hk => ?_
      rw [mem_greens]
      exact ⟨fun h => .inr ⟨h, ha, hp⟩, fun h => h.elim (fun z => ready_green z.1) fun z => z.1⟩
    · rw [if_neg (by rw [Bool.and_eq_true]; exact fun z => hp z.2)]
      have y : YelG f f f.ripe := by
        have := yelG_ripe f
        rw [e2] at this
        exact this
      refine elit y fun k hk => ?_
      rw [mem_ripe]
      exact ⟨fun h => .inl h.2, fun h => h.elim (fun z => ⟨ready_green z.1, z⟩) fun z => absurd z.2.2 hp⟩
  · rw [if_neg (by rw [Bool.and_eq_true]; exact fun z => ha z.1)]
    refine elit (yelG_ripe f) fun k hk => ?_
    rw [mem_ripe]
    exact ⟨fun h => .inl h.2, fun h => h.elim (fun z => ⟨ready_green z.1, z⟩) fun z => absurd z.2.1 ha⟩
end Cg

/-! The law, part three: what begins; a whole step. -/
namespace Cg
def lightS (s : Sa38.St) (o : Option Nat) : Sa38.St := match o with
  | none => s
  | some k => Sa38.light s k
theorem sat_light (m : CM) (j k : Nat) : (m.light j).sat k = if j = k ∧ k < m.ss.length then (m.sat k).toGreen else m.sat k := sat_modify m SM.toGreen j k
theorem light_len (m : CM) (j : Nat) : (m.light j).ss.length = m.ss.length := List.length_modify _ _ _
theorem light_c (m : CM) (j k : Nat) : ((m.light j).sat k).c = (m.sat k).c := by
  rw [sat_light]
  split <;> rfl
theorem light_last (m : CM) (o : m.Ok) (j r : Nat) : (m.light j).lastOf r = if (m.sat j).c.ring = r then some j else m.lastOf r := by
  unfold CM.lastOf
  show (m.lasts.set (m.sat j).c.ring (some j)).getD r none = _
  have hr := Ok.ring_lt o j
  have hl := o.lasts
  rw [List.getD_eq_getElem?_getD, List.getD_eq_getElem?_getD, List.getElem?_set]
  by_cases e : (m.sat j).c.ring = r
  · rw [if_pos e, if_pos e, if_pos (by omega)]
    rfl
  · rw [if_neg e, if_neg e]
theorem Ok.light {m : CM} (o : m.Ok) {j : Nat} (hj : j < m.ss.length) : (m.light j).Ok := by
  have get : ∀ s ∈ (m.light j).ss, ∃ t ∈ m.ss, s.c = t.c := fun s hs => by
    obtain ⟨k, hk⟩ := List.mem_iff_getElem?.mp hs
    have lt : k < (m.light j).ss.length := (List.getElem?_eq_some_iff.mp hk).1
    rw [light_len] at lt
    refine ⟨m.sat k, sat_mem lt, ?_⟩
    rw [← light_c m j k, sat_of hk]
  exact { pos := by rw [light_len]; exact o.pos, len := by rw [light_len]; exact o.len
          ring := fun s hs => by obtain ⟨t, ht, e⟩ := get s hs; rw [e]; exact o.ring t ht
          grp := fun s hs => by obtain ⟨t, ht, e⟩ := get s hs; rw [e]; exact o.grp t ht
          mode := fun s hs => by obtain ⟨t, ht, e⟩ := get s hs; rw [e]; exact o.mode t ht
          group := o.group
          lasts := by show (m.lasts.set _ _).length = 4; rw [List.length_set]; exact o.lasts
          last := fun k hk => by
            rw [light_len]
            rcases List.mem_or_eq_of_mem_set hk with z | z
            · exact o.last k z
            · cases z
              exact hj
          first := fun k hk => by rw [light_len]; exact o.first k hk }
theorem good_light {m : CM} (g : m.Good) {j : Nat} (hj : j < m.ss.length) (hn : m.inColour (m.sat j).c.ring = none) : (m.light j).Good where
  ok := Ok.light g.ok hj
  uniq := fun a b h1 h2 h3 => by
    rw [light_c, light_c] at h3
    have z := inColour_none.mp hn
    have q : ∀ k, ((m.light j).sat k).colour ≠ 0 → j = k ∨ (m.sat k).colour ≠ 0 := fun k hk => by
      rw [sat_light] at hk
      by_cases e : j = k ∧ k < m.ss.length
      · exact .inl e.1
      · rw [if_neg e] at hk
        exact .inr hk
    rcases q a h1 with e | e
    · rcases q b h2 with e' | e'
      · exact e.symm.trans e'
      · exact absurd (z b (by rw [e]; exact h3.symm)) e'
    · rcases q b h2 with e' | e'
      · exact absurd (z a (by rw [e']; exact h3)) e
      · exact g.uniq a b e e' h3
  lastr := fun r k h => by
    rw [light_last m g.ok] at h
    rw [light_c]
    by_cases e : (m.sat j).c.ring = r
    · rw [if_pos e] at h
      cases h
      exact e
    · rw [if_neg e] at h
      exact g.lastr r k h
  col := fun k => by
    rw [sat_light]
    split
    · show (1 : Nat) ≤ 3
      decide
    · exact g.col k
theorem map_modify_set {α : Type} (f : SM → α) (h : SM → SM) (b : α) (hb : ∀ s, f (h s) = b) : ∀ (l : List SM) (j : Nat), (l.modify j h).map f = (l.map f).set j b
  | [], j => by cases j <;> rfl
  | s :: l, 0 => by
    show f (h s) :: l.map f = b :: l.map f
    rw [hb]
  | s :: l, j + 1 => by
    show f s :: (l.modify j h).map f = f s :: (l.map f).set j b
    rw [map_modify_set f h b hb l j]
theorem abs_light {m : CM} (g : m.Good) {j : Nat} (hj : j < m.ss.length) (hn : m.inColour (m.sat j).c.ring = none) : (m.light j).abs = Sa38.light m.abs j := by
  have g' := good_light g hj hn
  have hr := Ok.ring_lt g.ok j
  refine abs_eq ?_ (fun r hr' => ?_) ?_ ?_ rfl ?_ ?_
  · exact map_of_sat SM.c (light_len m j) (light_c m j)
  · show _ = (m.abs.lit.set (m.abs.stream j).ring (some ⟨j, .green, 0, (m.abs.stream j).gap, 0, m.abs.people.getD j false || ((m.abs.stream j).tillMost && decide (0 < (m.abs.stream j).walk))⟩)).getD r none
    rw [abs_stream, abs_button, List.getD_eq_getElem?_getD, List.getElem?_set, lit_length]
    by_cases e : (m.sat j).c.ring = r
    · rw [if_pos e, if_pos hr]
      have e1 : ((m.light j).sat j) = (m.sat j).toGreen := by rw [sat_light, if_pos ⟨rfl, hj⟩]
      have z := lit_some g' (k := j) (by rw [e1]; exact Nat.one_ne_zero)
      rw [light_c, e1, e] at z
      rw [z]
      rfl
    · rw [if_neg e, ← List.getD_eq_getElem?_getD]
      show _ = ((List.range 4).map m.lit).getD r none
      rw [range_getD _ hr']
      have off : ∀ k, (m.sat k).c.ring = r → (m.light j).sat k = m.sat k := fun k hk => by
        rw [sat_light, if_neg]
        rintro ⟨rfl, _⟩
        exact e hk
      rcases lit_cases g r with ⟨_, e2, h⟩ | ⟨k, _, e2, h1, h2⟩
      · rw [e2, lit_none]
        intro k hk
        rw [light_c] at hk
        rw [off k hk]
        exact h k hk
      · have z := lit_some g' (k := k) (by rw [off k h1]; exact h2)
        rw [light_c, h1, off k h1] at z
        rw [e2, z]
  · show (m.abs.lit.set _ _).length = 4
    rw [List.length_set]
    exact lit_length m
  · show m.lasts.set _ _ = m.lasts.set (m.abs.stream j).ring (some j)
    rw [abs_stream]
  · exact map_modify_set SM.car SM.toGreen false (fun _ => rfl) m.ss j
  · exact map_modify_set SM.button SM.toGreen false (fun _ => rfl) m.ss j

/-! ### rings one after another do not disturb each other -/
/-- m' is m but for the rings in D -/
structure Agree (m m' : CM) (D : List Nat) : Prop where
  len : m'.ss.length = m.ss.length
  c : ∀ k, (m'.sat k).c = (m.sat k).c
  off : ∀ k, (m.sat k).c.ring ∉ D → m'.sat k = m.sat k
  last : ∀ r, r ∉ D → m'.lastOf r = m.lastOf r
  group : m'.group = m.group
  cars : m'.cars = m.cars
  first : m'.first = m.first
theorem Agree.refl (m : CM) (D : List Nat) : Agree m m D := ⟨rfl, fun _ => rfl, fun _ _ => rfl, fun _ _ => rfl, rfl, rfl, rfl⟩
theorem Agree.mono {m m' : CM} {D D' : List Nat} (a : Agree m m' D) (h : ∀ r ∈ D, r ∈ D') : Agree m m' D' :=
  ⟨a.len, a.c, fun k hk => a.off k fun z => hk (h _ z), fun r hr => a.last r fun z => hr (h _ z), a.group, a.cars, a.first⟩
theorem Agree.light {m m' : CM} {D : List Nat} (a : Agree m m' D) (o : m'.Ok) {j : Nat} (h : (m.sat j).c.ring ∈ D) : Agree m (m'.light j) D where
  len := (light_len m' j).trans a.len
  c := fun k => (light_c m' j k).trans (a.c k)
  off := fun k hk => by
    rw [sat_light, if_neg]
    · exact a.off k hk
    · rintro ⟨rfl, _⟩
      exact hk h
  last := fun r hr => by
    rw [light_last m' o, if_neg]
    · exact a.last r hr
    · intro e
      rw [a.c] at e
      rw [e] at h
      exact hr h
  group := a.group
  cars := a.cars
  first := a.first
theorem agree_crosses {m m' : CM} {D : List Nat} (a : Agree m m' D) (j k : Nat) : m'.crosses j k = m.crosses j k := by
  unfold CM.crosses
  rw [a.c, a.c]
theorem agree_barred {m m' : CM} {D : List Nat} (a : Agree m m' D) (k : Nat) : m'.barred k = m.barred k := by
  unfold CM.barred
  rw [a.first]
  congr 1
  funext f
  exact agree_crosses a f k
theorem agree_beside {m m' : CM} {D : List Nat} (a : Agree m m' D) (j k : Nat) : m'.beside j k = m.beside j k := by
  unfold CM.beside
  rw [a.c, a.c]
theorem agree_called {m m' : CM} {D : List Nat} (a : Agree m m' D) {k : Nat} (h : (m.sat k).c.ring ∉ D) : m'.called k = m.called k := by
  unfold CM.called
  rw [a.off k h, a.first, a.cars]
theorem agree_nums {m m' : CM} {D : List Nat} (a : Agree m m' D) : m'.nums = m.nums := by
  unfold CM.nums
  rw [a.len]
theorem agree_inColour {m m' : CM} {D : List Nat} (a : Agree m m' D) {r : Nat} (h : r ∉ D) : m'.inColour r = m.inColour r := by
  unfold CM.inColour
  rw [agree_nums a]
  congr 1
  funext k
  rw [a.c]
  by_cases e : (m.sat k).c.ring = r
  · rw [a.off k (by rw [e]; exact h)]
  · rw [show ((m.sat k).c.ring == r) = false from beq_eq_false_iff_ne.mpr e]
    rfl
theorem agree_heir {m m' : CM} {D : List Nat} (a : Agree m m' D) {k : Nat} (h : (m.sat k).c.ring ∉ D) : m'.heir k = m.heir k := by
  unfold CM.heir
  rw [a.first, agree_barred a, agree_nums a]
  have e1 : (m.first.any fun f => f != k && m'.beside k f) = m.first.any fun f => f != k && m.beside k f := by
    congr 1
    funext f
    rw [agree_beside a]
  have e2 : (fun j => decide (k < j) && (m'.beside k j && m'.called j)) = fun j => decide (k < j) && (m.beside k j && m.called j) := by
    funext j
    rw [agree_beside a]
    cases e : m.beside k j with
    | false => simp
    | true =>
      unfold CM.beside at e
      simp only [Bool.and_eq_true, beq_iff_eq] at e
      rw [agree_called a (by rw [← e.1]; exact h)]
  rw [e1, e2]
theorem agree_firstCalled {m m' : CM} {D : List Nat} (a : Agree m m' D) {r : Nat} (h : r ∉ D) (gr : Nat) : m'.firstCalled r gr = m.firstCalled r gr := by
  unfold CM.firstCalled
  rw [agree_nums a]
  congr 1
  funext k
  rw [a.c, agree_barred a]
  by_cases e : (m.sat k).c.ring = r
  · rw [agree_called a (by rw [e]; exact h)]
  · rw [show ((m.sat k).c.ring == r) = false from beq_eq_false_iff_ne.mpr e]
    rfl
/-- what begins in a ring, by the crossing as it stood ahead of all rings -/
def CM.pick (sg : Bool) (m : CM) (r : Nat) : Option Nat := if (m.inColour r).isNone = true then (match m.lastOf r with
  | some k => m.heir k
  | none => if sg = true then m.firstCalled r m.group else none) else none
theorem goOn_pick (sg : Bool) (m : CM) (r : Nat) : CM.goOn sg m r = m.lightO (m.pick sg r) := by
  unfold CM.goOn CM.pick CM.beginIn
  split
  · cases m.lastOf r with
    | some k => rfl
    | none => cases sg <;> rfl
  · rfl
theorem agree_pick {m m' : CM} {D : List Nat} (a : Agree m m' D) (g : m.Good) (sg : Bool) {r : Nat} (h : r ∉ D) : m'.pick sg r = m.pick sg r := by
  unfold CM.pick
  rw [agree_inColour a h, a.last r h, a.group, agree_firstCalled a h]
  split
  · cases e : m.lastOf r with
    | some k => exact agree_heir a (by rw [g.lastr r k e]; exact h)
    | none => rfl
  · rfl
theorem firstCalled_some {m : CM} {r gr k : Nat} (h : m.firstCalled r gr = some k) : (m.sat k).c.ring = r ∧ k < m.ss.length := by
  have q := List.find?_some h
  simp only [Bool.and_eq_true, beq_iff_eq] at q
  exact ⟨q.1, mem_nums.mp (List.mem_of_find?_eq_some h)⟩
theorem heir_some {m : CM} (o : m.Ok) {k j : Nat} (h : m.heir k = some j) : (m.sat j).c.ring = (m.sat k).c.ring ∧ j < m.ss.length := by
  unfold CM.heir at h
  split at h
  · rename_i q
    refine ⟨?_, o.first j h⟩
    rw [h] at q
    simp only [Option.any_some, Bool.and_eq_true] at q
    have z := q.2
    unfold CM.beside at z
    simp only [Bool.and_eq_true, beq_iff_eq] at z
    exact z.1.symm
  · split at h
    · cases h
    · have q := List.find?_some h
      simp only [Bool.and_eq_true] at q
      have z := q.2.1
      unfold CM.beside at z
      simp only [Bool.and_eq_true, beq_iff_eq] at z
      exact ⟨z.1.symm, mem_nums.mp (List.mem_of_find?_eq_some h)⟩
theorem pick_some {m : CM} (g : m.Good) {sg : Bool} {r k : Nat} (h : m.pick sg r = some k) : (m.sat k).c.ring = r ∧ k < m.ss.length ∧ m.inColour r = none := by
  unfold CM.pick at h
  split at h
  · rename_i q
    have q' : m.inColour r = none := Option.isNone_iff_eq_none.mp q
    cases e : m.lastOf r with
    | some l =>
      rw [e] at h
      have z := heir_some g.ok h
      exact ⟨z.1.trans (g.lastr r l e), z.2, q'⟩
    | none =>
      rw [e] at h
      cases sg with
      | true =>
        have z := firstCalled_some (show m.firstCalled r m.group = some k from h)
        exact ⟨z.1, z.2, q'⟩
      | false => exact absurd (show (none : Option Nat) = some k from h) (by simp)
  · cases h
/-- rings l, each by a choice that is told ahead: the abstraction goes along -/
theorem fold_light (f : Nat → Option Nat) (m0 : CM) : ∀ (l : List Nat) (m : CM) (D : List Nat), m.Good → Agree m0 m D → l.Nodup → (∀ r ∈ l, r ∉ D) → (∀ r ∈ l, ∀ k, f r = some k → (m0.sat k).c.ring = r ∧ k < m0.ss.length ∧ m0.inColour r = none) →
    (l.foldl (fun t r => t.lightO (f r)) m).Good ∧ (l.foldl (fun t r => t.lightO (f r)) m).abs = l.foldl (fun t r => lightS t (f r)) m.abs ∧ Agree m0 (l.foldl (fun t r => t.lightO (f r)) m) (D ++ l)
  | [], m, D, g, a, _, _, _ => ⟨g, rfl, by rw [List.append_nil]; exact a⟩
  | r :: l, m, D, g, a, nd, hD, hf => by
    have nd' := List.nodup_cons.mp nd
    have main : (m.lightO (f r)).Good ∧ (m.lightO (f r)).abs = lightS m.abs (f r) ∧ Agree m0 (m.lightO (f r)) (D ++ [r]) := by
      cases e : f r with
      | none => exact ⟨g, rfl, a.mono fun x hx => List.mem_append_left _ hx⟩
      | some k =>
        obtain ⟨h1, h2, h3⟩ := hf r (List.mem_cons_self ..) k e
        have rD := hD r (List.mem_cons_self ..)
        have hk : k < m.ss.length := by rw [a.len]; exact h2
        have hn : m.inColour (m.sat k).c.ring = none := by rw [a.c, h1, agree_inColour a rD]; exact h3
        exact ⟨good_light g hk hn, abs_light g hk hn, (a.mono (D' := D ++ [r]) fun x hx => List.mem_append_left _ hx).light g.ok (by rw [h1]; simp)⟩
    obtain ⟨g1, e1, a1⟩ := main
    have ih := fold_light f m0 l (m.lightO (f r)) (D ++ [r]) g1 a1 nd'.2 (fun x hx => by
      rw [List.mem_append]
      rintro (z | z)
      · exact hD x (List.mem_cons_of_mem _ hx) z
      · rw [List.mem_singleton.mp z] at hx
        exact nd'.1 hx) (fun x hx => hf x (List.mem_cons_of_mem _ hx))
    show (l.foldl _ (m.lightO (f r))).Good ∧ (l.foldl _ (m.lightO (f r))).abs = l.foldl _ (lightS m.abs (f r)) ∧ Agree m0 (l.foldl _ (m.lightO (f r))) (D ++ r :: l)
    rw [← e1, show D ++ r :: l = D ++ [r] ++ l by rw [List.append_assoc]; rfl]
    exact ih
/-- the choices made on the way are those told ahead -/
theorem fold_same (p : CM → Nat → Option Nat) (f : Nat → Option Nat) (m0 : CM) : ∀ (l : List Nat) (m : CM) (D : List Nat), m.Good → Agree m0 m D → l.Nodup → (∀ r ∈ l, r ∉ D) → (∀ r ∈ l, ∀ k, f r = some k → (m0.sat k).c.ring = r ∧ k < m0.ss.length ∧ m0.inColour r = none) →
    (∀ r ∈ l, ∀ (m' : CM) (D' : List Nat), Agree m0 m' D' → r ∉ D' → p m' r = f r) → l.foldl (fun t r => t.lightO (p t r)) m = l.foldl (fun t r => t.lightO (f r)) m
  | [], m, D, g, a, _, _, _, _ => rfl
  | r :: l, m, D, g, a, nd, hD, hf, hp => by
    have nd' := List.nodup_cons.mp nd
    have e := hp r (List.mem_cons_self ..) m D a (hD r (List.mem_cons_self ..))
    have st := fold_light f m0 [r] m D g a (by simp) (fun x hx => by rw [List.mem_singleton.mp hx]; exact hD r (List.mem_cons_self ..)) (fun x hx => by rw [List.mem_singleton.mp hx]; exact hf r (List.mem_cons_self ..))
    have g1 : (m.lightO (f r)).Good := st.1
    have a1 : Agree m0 (m.lightO (f r)) (D ++ [r]) := st.2.2
    show l.foldl _ (m.lightO (p m r)) = l.foldl _ (m.lightO (f r))
    rw [e]
    exact fold_same p f m0 l (m.lightO (f r)) (D ++ [r]) g1 a1 nd'.2 (fun x hx => by
      rw [List.mem_append]
      rintro (z | z)
      · exact hD x (List.mem_cons_of_mem _ hx) z
      · rw [List.mem_singleton.mp z] at hx
        exact nd'.1 hx) (fun x hx => hf x (List.mem_cons_of_mem _ hx)) (fun x hx => hp x (List.mem_cons_of_mem _ hx))
theorem abs_firstPick {m : CM} (g : m.Good) (p r gr : Nat) : (m.abs.all.find? fun j => Sa38.called m.abs (m.inp p) j && ((m.abs.stream j).ring == r && ((m.abs.stream j).group == gr && ((m.inp p).first.all fun f => f == j || !Sa38.crosses m.abs f j)))) = m.firstCalled r gr := by
  unfold CM.firstCalled
  rw [abs_all]
  congr 1
  funext j
  rw [abs_called g, abs_stream]
  have e : ((m.inp p).first.all fun f => f == j || !Sa38.crosses m.abs f j) = !m.barred j := by
    show (m.first.all fun f => f == j || !Sa38.crosses m.abs f j) = !(m.first.any fun f => m.crosses f j)
    cases m.first with
    | none => rfl
    | some f =>
      show (f == j || !Sa38.crosses m.abs f j) = !m.crosses f j
      rw [abs_crosses]
      unfold CM.crosses
      cases q : f == j with
      | true => simp [bne, q]
      | false => simp
  rw [e]
  cases m.called j <;> cases (m.sat j).c.ring == r <;> cases (m.sat j).c.group == gr <;> simp
theorem foldl_congr {α β : Type} {f g : α → β → α} : ∀ (l : List β) (a : α), (∀ b ∈ l, ∀ x, f x b = g x b) → l.foldl f a = l.foldl g a
  | [], _, _ => rfl
  | b :: l, a, h => by
    show l.foldl f (f a b) = l.foldl g (g a b)
    rw [h b (List.mem_cons_self ..)]
    exact foldl_congr l _ fun x hx => h x (List.mem_cons_of_mem _ hx)
theorem abs_heirs {m : CM} (g : m.Good) (p : Nat) : ((List.range 4).foldl (CM.goOn (!m.greens.isEmpty)) m).Good ∧ ((List.range 4).foldl (CM.goOn (!m.greens.isEmpty)) m).abs = Sa38.heirs m.abs (m.inp p) ∧
    Agree m ((List.range 4).foldl (CM.goOn (!m.greens.isEmpty)) m) (List.range 4) := by
  have hf : ∀ r ∈ List.range 4, ∀ k, m.pick (!m.greens.isEmpty) r = some k → (m.sat k).c.ring = r ∧ k < m.ss.length ∧ m.inColour r = none := fun r _ k h => pick_some g h
  have e0 : (List.range 4).foldl (CM.goOn (!m.greens.isEmpty)) m = (List.range 4).foldl (fun t r => t.lightO (m.pick (!m.greens.isEmpty) r)) m := by
    rw [show CM.goOn (!m.greens.isEmpty) = fun t r => t.lightO (t.pick (!m.greens.isEmpty) r) from funext fun t => funext fun r => goOn_pick _ t r]
    exact fold_same (fun t r => t.pick (!m.greens.isEmpty) r) _ m (List.range 4) m [] g (Agree.refl m []) List.nodup_range (fun _ _ => List.not_mem_nil) hf fun r _ m' D' a hD => agree_pick a g _ hD
  have st := fold_light (m.pick (!m.greens.isEmpty)) m (List.range 4) m [] g (Agree.refl m []) List.nodup_range (fun _ _ => List.not_mem_nil) hf
  rw [e0]
  refine ⟨st.1, st.2.1.trans ?_, st.2.2⟩
  unfold Sa38.heirs
  refine foldl_congr _ _ fun r hr t => ?_
  have hr4 : r < 4 := List.mem_range.mp hr
  rw [abs_of m hr4, show m.abs.last.getD r none = m.lastOf r from rfl, abs_someGreen g]
  unfold CM.pick
  rcases lit_cases g r with ⟨e1, e2, _⟩ | ⟨k, e1, e2, _, _⟩
  · rw [e1, e2]
    simp only [Option.isNone_none, if_true]
    cases m.lastOf r with
    | some k =>
      simp only []
      rw [abs_heir g]
      cases m.heir k <;> rfl
    | none =>
      simp only []
      split
      · rw [show m.abs.group = m.group from rfl, abs_firstPick g]
        cases m.firstCalled r m.group <;> rfl
      · rfl
  · rw [e1, e2]
    rfl
theorem lits_none (m : CM) : m.abs.lit.all Option.isNone = m.allRed := by
  show ((List.range 4).map m.lit).all _ = _
  rw [List.all_map]
  unfold CM.allRed
  congr 1
  funext r
  exact lit_isNone m r
theorem abs_calledIn {m : CM} (g : m.Good) (p gr : Nat) : Sa38.calledIn m.abs (m.inp p) gr = m.calledIn gr := by
  unfold Sa38.calledIn CM.calledIn
  rw [any_filter, abs_all]
  congr 1
  funext k
  rw [abs_called g, abs_stream, Bool.and_comm]
theorem abs_nextGroup {m : CM} (g : m.Good) (p : Nat) : Sa38.nextGroup m.abs (m.inp p) = if m.nums.any m.called = true then some m.nextGroup else none := by
  unfold Sa38.nextGroup CM.nextGroup
  show (match m.first with
    | some k => some (m.abs.stream k).group
    | none => (Sa38.groupsFrom m.group).find? (Sa38.calledIn m.abs (m.inp p))) = _
  cases e : m.first with
  | some f =>
    have hf := g.ok.first f e
    have hc : m.called f = true := by
      unfold CM.called
      rw [e]
      simp
    rw [if_pos (List.any_eq_true.mpr ⟨f, mem_nums.mpr hf, hc⟩)]
    simp only []
    rw [abs_stream]
  | none =>
    simp only []
    rw [show Sa38.calledIn m.abs (m.inp p) = m.calledIn from funext fun gr => abs_calledIn g p gr]
    rw [show Sa38.groupsFrom m.group = (List.range 8).map fun d => (m.group + (1 + d)) % 8 from List.map_congr_left fun d _ => by rw [Nat.add_assoc]]
    cases q : List.find? m.calledIn ((List.range 8).map fun d => (m.group + (1 + d)) % 8) with
    | some x =>
      have z := List.find?_some q
      unfold CM.calledIn at z
      rw [any_filter] at z
      obtain ⟨k, hk, hz⟩ := List.any_eq_true.mp z
      rw [Bool.and_eq_true] at hz
      rw [if_pos (List.any_eq_true.mpr ⟨k, hk, hz.2⟩)]
      rfl
    | none =>
      rw [if_neg]
      intro h
      obtain ⟨k, hk, hc⟩ := List.any_eq_true.mp h
      have hg := Ok.group_lt g.ok k
      have hm := g.ok.group
      have hmem : (m.sat k).c.group ∈ (List.range 8).map fun d => (m.group + (1 + d)) % 8 := by
        refine List.mem_map.mpr ⟨((m.sat k).c.group + 15 - m.group) % 8, List.mem_range.mpr (Nat.mod_lt _ (by decide)), ?_⟩
        omega
      have z := List.find?_eq_none.mp q _ hmem
      apply z
      unfold CM.calledIn
      rw [any_filter]
      refine List.any_eq_true.mpr ⟨k, hk, ?_⟩
      rw [hc]
      simp
theorem nextGroup_lt {m : CM} (o : m.Ok) : m.nextGroup < 8 := by
  unfold CM.nextGroup
  cases e : m.first with
  | some f => exact Ok.group_lt o f
  | none =>
    simp only []
    cases q : List.find? m.calledIn ((List.range 8).map fun d => (m.group + (1 + d)) % 8) with
    | none => exact o.group
    | some x =>
      obtain ⟨d, _, hd⟩ := List.mem_map.mp (List.mem_of_find?_eq_some q)
      show x < 8
      rw [← hd]
      exact Nat.mod_lt _ (by decide)
theorem turned_last (m : CM) (r : Nat) : m.turned.lastOf r = none := by
  unfold CM.lastOf
  show (List.replicate 4 none).getD r none = none
  rw [List.getD_eq_getElem?_getD, List.getElem?_replicate]
  split <;> rfl
theorem Ok.turned {m : CM} (o : m.Ok) : m.turned.Ok :=
  { pos := o.pos, len := o.len, ring := o.ring, grp := o.grp, mode := o.mode, group := nextGroup_lt o, lasts := List.length_replicate .., first := o.first
    last := fun k hk => by
      have := List.eq_of_mem_replicate hk
      cases this }
theorem good_turned {m : CM} (g : m.Good) : m.turned.Good where
  ok := Ok.turned g.ok
  uniq := g.uniq
  lastr := fun r k h => by
    rw [turned_last] at h
    cases h
  col := g.col
theorem turned_abs (m : CM) : m.turned.abs = { m.abs with group := m.nextGroup, last := List.replicate 4 none } := rfl
theorem abs_beginGroup {m : CM} (g : m.Good) (p : Nat) (hr : m.allRed = true) : m.beginGroup.Good ∧ m.beginGroup.abs =
    (List.range 4).foldl (fun u r => match m.abs.all.find? fun k => Sa38.called m.abs (m.inp p) k && ((m.abs.stream k).ring == r && (m.abs.stream k).group == m.nextGroup && ((m.inp p).first.all fun j => j == k || !Sa38.crosses m.abs j k)) with
      | some k => Sa38.light u k
      | none => u) { m.abs with group := m.nextGroup, last := List.replicate 4 none } := by
  have g1 := good_turned g
  have hf : ∀ r ∈ List.range 4, ∀ k, m.turned.firstCalled r m.nextGroup = some k → (m.turned.sat k).c.ring = r ∧ k < m.turned.ss.length ∧ m.turned.inColour r = none := fun r hr' k h => by
    have z := firstCalled_some h
    refine ⟨z.1, z.2, ?_⟩
    have q := List.all_eq_true.mp hr r hr'
    exact Option.isNone_iff_eq_none.mp q
  have e0 : m.beginGroup = (List.range 4).foldl (fun t r => t.lightO (m.turned.firstCalled r m.nextGroup)) m.turned := by
    unfold CM.beginGroup
    rw [show CM.firstIn = fun t r => t.lightO (t.firstCalled r t.group) from rfl]
    exact fold_same (fun t r => t.firstCalled r t.group) _ m.turned (List.range 4) m.turned [] g1 (Agree.refl _ []) List.nodup_range (fun _ _ => List.not_mem_nil) hf fun r _ m' D' a hD => by
      show m'.firstCalled r m'.group = _
      rw [a.group]
      exact agree_firstCalled a hD _
  have st := fold_light (fun r => m.turned.firstCalled r m.nextGroup) m.turned (List.range 4) m.turned [] g1 (Agree.refl _ []) List.nodup_range (fun _ _ => List.not_mem_nil) hf
  rw [e0]
  refine ⟨st.1, st.2.1.trans ?_⟩
  rw [turned_abs]
  refine foldl_congr _ _ fun r _ t => ?_
  have ea : (fun k => Sa38.called m.abs (m.inp p) k && ((m.abs.stream k).ring == r && (m.abs.stream k).group == m.nextGroup && ((m.inp p).first.all fun j => j == k || !Sa38.crosses m.abs j k))) =
      fun k => Sa38.called m.abs (m.inp p) k && ((m.abs.stream k).ring == r && ((m.abs.stream k).group == m.nextGroup && ((m.inp p).first.all fun j => j == k || !Sa38.crosses m.abs j k))) := by
    funext k
    rw [Bool.and_assoc ((m.abs.stream k).ring == r)]
  rw [ea, abs_firstPick g]
  show lightS t (m.firstCalled r m.nextGroup) = _
  cases m.firstCalled r m.nextGroup <;> rfl
theorem abs_begins {m : CM} (g : m.Good) (p : Nat) : m.begins.Good ∧ m.begins.abs = Sa38.begins m.abs (m.inp p) := by
  obtain ⟨g1, e1, a1⟩ := abs_heirs g p
  unfold Sa38.begins CM.begins
  simp only []
  rw [← e1]
  have ei : m.inp p = ((List.range 4).foldl (CM.goOn (!m.greens.isEmpty)) m).inp p := by
    unfold CM.inp
    rw [a1.cars, a1.first]
  rw [ei]
  generalize (List.range 4).foldl (CM.goOn (!m.greens.isEmpty)) m = f at *
  rw [lits_none, abs_nextGroup g1]
  by_cases hr : f.allRed = true
  · by_cases hc : f.nums.any f.called = true
    · rw [if_pos (by rw [hr, hc]; rfl), if_pos hr, if_pos hc]
      exact abs_beginGroup g1 p hr
    · rw [if_neg (by rw [Bool.and_eq_true]; exact fun z => hc z.2), if_pos hr, if_neg hc]
      exact ⟨g1, rfl⟩
  · rw [if_neg (by rw [Bool.and_eq_true]; exact fun z => hr z.1), if_neg hr]
    exact ⟨g1, rfl⟩

/-! ### a whole step -/
theorem ends_len (m : CM) : m.ends.cars = m.cars ∧ m.ends.first = m.first := by
  have y1 := yel_of m.fade.ripe m.fade
  unfold CM.ends
  simp only []
  split
  · have y2 := yel_of (m.fade.yellow m.fade.ripe).greens (m.fade.yellow m.fade.ripe)
    exact ⟨y2.cars.trans y1.cars, y2.first.trans y1.first⟩
  · exact ⟨y1.cars, y1.first⟩
theorem good_handed {m : CM} (g : m.Good) {cars : Nat} {first : Option Nat} (hf : ∀ k, first = some k → k < m.ss.length) : (m.handed cars first).Good where
  ok := { pos := g.ok.pos, len := g.ok.len, ring := g.ok.ring, grp := g.ok.grp, mode := g.ok.mode, group := g.ok.group, lasts := g.ok.lasts, last := g.ok.last, first := hf }
  uniq := g.uniq
  lastr := g.lastr
  col := g.col
theorem step_is {m : CM} (g : m.Good) {cars people : Nat} {first : Option Nat} (hf : ∀ k, first = some k → k < m.ss.length) :
    (m.step cars people first).Good ∧ (m.step cars people first).abs = Sa38.step m.abs ⟨cars, people, first⟩ := by
  have g0 := good_handed g (cars := cars) hf
  have g1 := good_calls g0 people
  have g2 := good_clocks g1
  have g3 := good_ends g2
  have e0 : (m.handed cars first).abs = m.abs := rfl
  have e1 := abs_calls g0 people
  have e2 := abs_clocks g1 people
  have e3 := abs_ends g2 people
  have b := abs_begins g3 people
  refine ⟨b.1, b.2.trans ?_⟩
  have i0 : (m.handed cars first).inp people = ⟨cars, people, first⟩ := rfl
  have i1 : ((m.handed cars first).takeCalls people).inp people = ⟨cars, people, first⟩ := rfl
  have i2 : ((m.handed cars first).takeCalls people).runClocks.inp people = ⟨cars, people, first⟩ := rfl
  have i3 : ((m.handed cars first).takeCalls people).runClocks.ends.inp people = ⟨cars, people, first⟩ := by
    unfold CM.inp
    rw [(ends_len _).1, (ends_len _).2]
    rfl
  rw [i3, e3, i2, e2, i1, e1, i0, e0]
  rfl
/-! ### what is told -/
theorem bits_is (m : CM) (f : Nat → Bool) (h : SM → Bool) (e : ∀ k, k < m.ss.length → f k = h (m.sat k)) : Sa38.bits m.abs f = bitsOf (m.ss.map h) := by
  unfold Sa38.bits bitsOf
  rw [abs_all, List.length_map]
  unfold CM.nums
  congr 1
  refine List.map_congr_left fun k hk => ?_
  have lt := List.mem_range.mp hk
  rw [e k lt, List.getD_eq_getElem?_getD, List.getElem?_map, sat_lt lt]
  rfl
theorem lights_is {m : CM} (g : m.Good) : [Sa38.bits m.abs fun k => (m.abs.green k).isSome, Sa38.bits m.abs (Sa38.isYellow m.abs), Sa38.bits m.abs (Sa38.walks m.abs), Sa38.bits m.abs (Sa38.clears m.abs)] = m.lights := by
  unfold CM.lights
  rw [bits_is m _ (fun s => s.colour == 1) fun k _ => abs_isGreen g k, bits_is m _ (fun s => s.colour == 2) fun k _ => abs_isYellow g k, bits_is m _ SM.walkers fun k _ => abs_walks g k, bits_is m _ SM.clearers fun k _ => abs_clears g k]
theorem remembered_is (m : CM) : [Sa38.bits m.abs fun k => m.abs.cars.getD k false, Sa38.bits m.abs fun k => m.abs.people.getD k false] = m.remembered := by
  unfold CM.remembered
  rw [bits_is m _ SM.car fun k _ => abs_car m k, bits_is m _ SM.button fun k _ => abs_button m k]
theorem fresh_abs (l : List Sa38.Stream) : (CM.fresh l).abs = Sa38.begun l := by
  have e0 : ∀ k, ((CM.fresh l).sat k).colour = 0 := fun k => by
    unfold CM.sat
    show ((l.map SM.fresh).getD k dflt).colour = 0
    rw [List.getD_eq_getElem?_getD, List.getElem?_map]
    cases l[k]? <;> rfl
  refine abs_eq ?_ (fun r hr => ?_) rfl rfl rfl ?_ ?_
  · show (l.map SM.fresh).map SM.c = l
    rw [List.map_map]
    exact List.map_id l
  · rw [lit_none fun k _ => e0 k]
    show none = (List.replicate 4 none).getD r none
    rw [List.getD_eq_getElem?_getD, List.getElem?_replicate]
    split <;> rfl
  · show (l.map SM.fresh).map SM.car = l.map Sa38.Stream.remembers
    rw [List.map_map]
    rfl
  · show (l.map SM.fresh).map SM.button = l.map _
    rw [List.map_map]
    rfl
structure Sound (l : List Sa38.Stream) : Prop where
  pos : 1 ≤ l.length
  len : l.length ≤ 16
  all : ∀ x ∈ l, x.ring < 4 ∧ x.group < 8 ∧ x.mode < 8
theorem fresh_ok {l : List Sa38.Stream} (h : Sound l) : (CM.fresh l).Ok := by
  have get : ∀ s ∈ (l.map SM.fresh), s.c ∈ l := fun s hs => by
    obtain ⟨x, hx, e⟩ := List.mem_map.mp hs
    rw [← e]
    exact hx
  exact { pos := by show 1 ≤ (l.map _).length; rw [List.length_map]; exact h.pos
          len := by show (l.map _).length ≤ 16; rw [List.length_map]; exact h.len
          ring := fun s hs => (h.all _ (get s hs)).1
          grp := fun s hs => (h.all _ (get s hs)).2.1
          mode := fun s hs => (h.all _ (get s hs)).2.2
          group := by show (7 : Nat) < 8; decide
          lasts := rfl
          last := fun k hk => by have := List.eq_of_mem_replicate hk; cases this
          first := fun k hk => by cases hk }
theorem fresh_good {l : List Sa38.Stream} (h : Sound l) : (CM.fresh l).Good := by
  have e0 : ∀ k, ((CM.fresh l).sat k).colour = 0 := fun k => by
    unfold CM.sat
    show ((l.map SM.fresh).getD k dflt).colour = 0
    rw [List.getD_eq_getElem?_getD, List.getElem?_map]
    cases l[k]? <;> rfl
  exact { ok := fresh_ok h
          uniq := fun j k h1 _ _ => absurd (e0 j) h1
          lastr := fun r k q => by
            have : (List.replicate 4 (none : Option Nat)).getD r none = some k := q
            rw [List.getD_eq_getElem?_getD, List.getElem?_replicate] at this
            split at this <;> cases this
          col := fun k => by rw [e0]; exact Nat.zero_le _ }
end Cg
namespace Cg
/-- looking behind k among all is looking among those behind k -/
theorem find_behind (n k : Nat) (P : Nat → Bool) : ((List.range n).find? fun j => decide (k < j) && P j) = ((List.range (n - (k + 1))).map fun d => (k + 1) + d).find? P := by
  rcases Nat.lt_or_ge k n with h | h
  · have e : List.range n = List.range (k + 1) ++ (List.range (n - (k + 1))).map fun d => (k + 1) + d := by
      have := List.range_add (n := k + 1) (m := n - (k + 1))
      rw [show k + 1 + (n - (k + 1)) = n by omega] at this
      exact this
    rw [e, List.find?_append, List.find?_eq_none.mpr]
    · rw [Option.none_or]
      generalize hl : ((List.range (n - (k + 1))).map fun d => (k + 1) + d) = l
      have hm : ∀ x ∈ l, k < x := fun x hx => by
        rw [← hl] at hx
        obtain ⟨d, _, rfl⟩ := List.mem_map.mp hx
        omega
      clear hl e
      induction l with
      | nil => rfl
      | cons a l ih =>
        rw [List.find?_cons, List.find?_cons, decide_eq_true (hm a (List.mem_cons_self ..)), Bool.true_and, ih fun x hx => hm x (List.mem_cons_of_mem _ hx)]
    · intro x hx
      have := List.mem_range.mp hx
      simp only [Bool.and_eq_true, decide_eq_true_eq]
      omega
  · rw [show n - (k + 1) = 0 by omega]
    refine List.find?_eq_none.mpr fun x hx => ?_
    have := List.mem_range.mp hx
    simp only [Bool.and_eq_true, decide_eq_true_eq]
    omega
theorem find_map {α β : Type} (f : α → β) (P : β → Bool) : ∀ l : List α, (l.map f).find? P = (l.find? fun x => P (f x)).map f
  | [] => rfl
  | a :: l => by
    rw [List.map_cons, List.find?_cons, List.find?_cons]
    cases P (f a)
    · exact find_map f P l
    · rfl
theorem next_find (g : Nat) (P : Nat → Bool) : (((List.range 8).map fun d => (g + (1 + d)) % 8).find? P).getD g = (((List.range (9 - 1)).map fun d => 1 + d).find? fun more => P ((g + more) % 8)).elim g fun more => (g + more) % 8 := by
  rw [find_map (fun d => (g + (1 + d)) % 8) P, find_map (fun d => 1 + d) (fun more => P ((g + more) % 8))]
  show _ = ((((List.range 8).find? fun d => P ((g + (1 + d)) % 8)).map fun d => 1 + d).elim g fun more => (g + more) % 8)
  cases (List.range 8).find? fun d => P ((g + (1 + d)) % 8) <;> rfl
end Cg
namespace Cg
/-- one stream is changed -/
def CM.setS (m : CM) (k : Nat) (s : SM) : CM := { m with ss := m.ss.set k s }
/-- streams changed one by one: those ahead of i -/
def CM.part (m : CM) (f : Nat → SM → SM) (i : Nat) : CM := { m with ss := m.ss.mapIdx fun j s => if j < i then f j s else s }
theorem part_zero (m : CM) (f : Nat → SM → SM) : m.part f 0 = m := by
  have e : (m.ss.mapIdx fun j s => if j < 0 then f j s else s) = m.ss := by
    rw [mapIdx_id m.ss _ (fun s => s) (fun i a => if_neg (Nat.not_lt_zero i))]
    exact List.map_id m.ss
  unfold CM.part
  rw [e]
theorem part_len (m : CM) (f : Nat → SM → SM) (i : Nat) : (m.part f i).ss.length = m.ss.length := List.length_mapIdx
theorem part_all (m : CM) (f : Nat → SM → SM) : m.part f m.ss.length = { m with ss := m.ss.mapIdx f } := by
  have e : (m.ss.mapIdx fun j s => if j < m.ss.length then f j s else s) = m.ss.mapIdx f := by
    apply List.ext_getElem?
    intro j
    rw [List.getElem?_mapIdx, List.getElem?_mapIdx]
    cases h : m.ss[j]? with
    | none => rfl
    | some s =>
      have lt := (List.getElem?_eq_some_iff.mp h).1
      show some (if j < m.ss.length then f j s else s) = some (f j s)
      rw [if_pos lt]
  unfold CM.part
  rw [e]
theorem part_sat (m : CM) (f : Nat → SM → SM) {i j : Nat} (h : i ≤ j) : (m.part f i).sat j = m.sat j := by
  rcases Nat.lt_or_ge j m.ss.length with q | q
  · apply sat_of
    show (m.ss.mapIdx _)[j]? = _
    rw [List.getElem?_mapIdx, sat_lt q]
    show some (if j < i then _ else _) = _
    rw [if_neg (by omega)]
  · rw [sat_ge q, sat_ge (by rw [part_len]; exact q)]
theorem part_next (m : CM) (f : Nat → SM → SM) {i : Nat} (h : i < m.ss.length) : (m.part f i).setS i (f i (m.sat i)) = m.part f (i + 1) := by
  have e : (m.ss.mapIdx fun j s => if j < i then f j s else s).set i (f i (m.sat i)) = m.ss.mapIdx fun j s => if j < i + 1 then f j s else s := by
    apply List.ext_getElem?
    intro j
    rw [List.getElem?_set, List.getElem?_mapIdx, List.getElem?_mapIdx, List.length_mapIdx]
    by_cases q : i = j
    · subst q
      rw [if_pos rfl, if_pos h, sat_lt h]
      show _ = some (if i < i + 1 then _ else _)
      rw [if_pos (Nat.lt_succ_self i)]
    · rw [if_neg q]
      cases hj : m.ss[j]? with
      | none => rfl
      | some s =>
        show some (if j < i then f j s else s) = some (if j < i + 1 then f j s else s)
        by_cases z : j < i
        · rw [if_pos z, if_pos (by omega)]
        · rw [if_neg z, if_neg (by omega)]
  unfold CM.part CM.setS
  simp only []
  rw [e]
theorem modify_set (m : CM) (f : SM → SM) {k : Nat} (h : k < m.ss.length) : m.ss.modify k f = m.ss.set k (f (m.sat k)) := by
  apply List.ext_getElem?
  intro j
  rw [List.getElem?_modify, List.getElem?_set]
  by_cases e : k = j
  · subst e
    rw [if_pos rfl, if_pos h, sat_lt h]
    show some (if k = k then _ else _) = _
    rw [if_pos rfl]
  · rw [if_neg e]
    cases m.ss[j]? with
    | none => rfl
    | some s =>
      show some (if k = j then _ else _) = _
      rw [if_neg e]
theorem Ok.set {m : CM} (o : m.Ok) {k : Nat} {s : SM} (h : k < m.ss.length) (hc : s.c = (m.sat k).c) : (m.setS k s).Ok := by
  refine Ok.same o (List.length_set ..) (fun j => ?_) rfl rfl rfl
  by_cases e : k = j
  · subst e
    rw [sat_of (m := m.setS k s) (k := k) (s := s) (by show (m.ss.set k s)[k]? = _; rw [List.getElem?_set, if_pos rfl, if_pos h])]
    exact hc
  · unfold CM.sat
    show ((m.ss.set k s).getD j dflt).c = (m.ss.getD j dflt).c
    rw [List.getD_eq_getElem?_getD, List.getD_eq_getElem?_getD, List.getElem?_set, if_neg e]
theorem yellow1_set {m : CM} {k : Nat} (h : k < m.ss.length) : m.yellow1 k = m.setS k (m.sat k).toYellow := by
  unfold CM.yellow1 CM.setS
  rw [modify_set m _ h]
theorem light_set {m : CM} {k : Nat} (h : k < m.ss.length) : m.light k = { m with ss := m.ss.set k (m.sat k).toGreen, lasts := m.lasts.set (m.sat k).c.ring (some k) } := by
  unfold CM.light
  rw [modify_set m _ h]
theorem yellow_ok : ∀ (l : List Nat) {m : CM}, m.Ok → (m.yellow l).Ok := fun l m o => by
  have y := yel_of l m
  exact Ok.same o y.len (yel_c y) y.group y.lasts y.first
theorem fade_ok {m : CM} (o : m.Ok) : m.fade.Ok := Ok.same o (fade_len m) (fade_rc m) rfl rfl rfl
end Cg
namespace Cg
theorem sat_set (m : CM) (k j : Nat) (s : SM) : (m.setS k s).sat j = if k = j ∧ j < m.ss.length then s else m.sat j := by
  by_cases h : k = j ∧ j < m.ss.length
  · rw [if_pos h]
    apply sat_of
    show (m.ss.set k s)[j]? = _
    rw [List.getElem?_set, if_pos h.1, if_pos (by omega)]
  · rw [if_neg h]
    unfold CM.sat
    show (m.ss.set k s).getD j dflt = m.ss.getD j dflt
    rw [List.getD_eq_getElem?_getD, List.getD_eq_getElem?_getD, List.getElem?_set]
    by_cases e : k = j
    · rw [if_pos e, if_neg (by omega), List.getElem?_eq_none_iff.mpr (by omega)]
    · rw [if_neg e]
theorem part_c (m : CM) (f : Nat → SM → SM) (hf : ∀ i s, (f i s).c = s.c) (i j : Nat) : ((m.part f i).sat j).c = (m.sat j).c := by
  rcases Nat.lt_or_ge j m.ss.length with q | q
  · have e : (m.part f i).sat j = if j < i then f j (m.sat j) else m.sat j := by
      apply sat_of
      show (m.ss.mapIdx _)[j]? = _
      rw [List.getElem?_mapIdx, sat_lt q]
      rfl
    rw [e]
    split
    · exact hf _ _
    · rfl
  · rw [sat_ge q, sat_ge (by rw [part_len]; exact q)]
theorem barred_same {m m' : CM} (h1 : m'.first = m.first) (h2 : ∀ k, (m'.sat k).c = (m.sat k).c) (k : Nat) : m'.barred k = m.barred k := by
  unfold CM.barred CM.crosses
  rw [h1]
  congr 1
  funext f
  rw [h2, h2]
end Cg

/-! The law, part four: two crossings, the calls on them, the list of all calls. -/
namespace Cg
abbrev Bth := Option CM × Option CM
def pickB (b : Bth) (e : Int) : Option CM := if e = 0 then b.1 else b.2
def putB (b : Bth) (e : Int) (x : Option CM) : Bth := if e = 0 then (x, b.2) else (b.1, x)
def firstO (f : Int) : Option Nat := if f = -1 then none else some f.toNat
def intsOf (l : List Nat) : List Int := l.map fun (x : Nat) => (x : Int)
def rowsM (l : List Int) (n : Nat) : List (List Int) := (List.range n).map fun k => (l.drop (10 * k)).take 10
def beginM (b : Bth) (e n : Int) (l : List Int) : Bth × List Int :=
  if 1 ≤ n ∧ n ≤ 16 then (match (rowsM l n.toNat).mapM Sa38.streamOf with
    | none => (b, [-2])
    | some s => (putB b e (some (CM.fresh s)), [0]))
  else (b, [-2])
def stepM (b : Bth) (e cars people first : Int) : Bth × List Int := match pickB b e with
  | none => (b, [-9])
  | some m => if -1 ≤ first ∧ first < (m.ss.length : Int) then (putB b e (some (m.step cars.toNat people.toNat (firstO first))), 0 :: intsOf (m.step cars.toNat people.toNat (firstO first)).lights) else (b, [-2])
def callsM (b : Bth) (e : Int) : List Int := match pickB b e with
  | none => [-9]
  | some m => 0 :: intsOf m.remembered
/-- the two crossings and the specification's -/
structure Rel (b : Bth) (s : Sa38Neutral.S) : Prop where
  one : s.1 = b.1.map CM.abs
  two : s.2 = b.2.map CM.abs
  good1 : ∀ m, b.1 = some m → m.Good
  good2 : ∀ m, b.2 = some m → m.Good
theorem Rel.start : Rel (none, none) Sa38Neutral.start := ⟨rfl, rfl, (fun _ h => nomatch h), (fun _ h => nomatch h)⟩
theorem Rel.get {b : Bth} {s : Sa38Neutral.S} (R : Rel b s) (e : Int) : (if e = 0 then s.1 else s.2) = (pickB b e).map CM.abs := by
  unfold pickB
  by_cases h : e = 0
  · rw [if_pos h, if_pos h]
    exact R.one
  · rw [if_neg h, if_neg h]
    exact R.two
theorem Rel.good {b : Bth} {s : Sa38Neutral.S} (R : Rel b s) {e : Int} {m : CM} (h : pickB b e = some m) : m.Good := by
  unfold pickB at h
  by_cases q : e = 0
  · rw [if_pos q] at h
    exact R.good1 m h
  · rw [if_neg q] at h
    exact R.good2 m h
theorem Rel.put {b : Bth} {s : Sa38Neutral.S} (R : Rel b s) (e : Int) {m : CM} (g : m.Good) : Rel (putB b e (some m)) (if e = 0 then (some m.abs, s.2) else (s.1, some m.abs)) := by
  unfold putB
  by_cases q : e = 0
  · rw [if_pos q, if_pos q]
    exact ⟨rfl, R.two, fun m' h => by cases h; exact g, R.good2⟩
  · rw [if_neg q, if_neg q]
    exact ⟨R.one, rfl, R.good1, fun m' h => by cases h; exact g⟩
theorem Rel.same {b : Bth} {s : Sa38Neutral.S} (R : Rel b s) (e : Int) : Rel b (if e = 0 then ((if e = 0 then s.1 else s.2), s.2) else (s.1, (if e = 0 then s.1 else s.2))) := by
  by_cases q : e = 0
  · rw [if_pos q, if_pos q]
    exact R
  · rw [if_neg q, if_neg q]
    exact R
theorem tens_rows : ∀ (n : Nat) (l : List Int), Sa38Neutral.tens l n = rowsM l n
  | 0, _ => rfl
  | n + 1, l => by
    show l.take 10 :: Sa38Neutral.tens (l.drop 10) n = _
    rw [tens_rows n]
    unfold rowsM
    rw [List.range_succ_eq_map, List.map_cons, List.map_map]
    show _ = List.take 10 (l.drop (10 * 0)) :: _
    rw [Nat.mul_zero, List.drop_zero]
    congr 1
    refine List.map_congr_left fun k _ => ?_
    show _ = List.take 10 (List.drop (10 * (k + 1)) l)
    rw [List.drop_drop, Nat.mul_succ, Nat.add_comm]
theorem within_iff {z lo hi : Int} : Sa38.within z lo hi = true ↔ lo ≤ z ∧ z ≤ hi := by
  unfold Sa38.within
  rw [Bool.and_eq_true, decide_eq_true_eq, decide_eq_true_eq]
theorem streamOf_sound {l : List Int} {x : Sa38.Stream} (h : Sa38.streamOf l = some x) : x.ring < 4 ∧ x.group < 8 ∧ x.mode < 8 := by
  unfold Sa38.streamOf at h
  split at h
  · split at h
    · rename_i q
      cases h
      simp only [Bool.and_eq_true, within_iff] at q
      obtain ⟨h1, h2, _, _, _, _, _, _, _, _, h3⟩ := q
      refine ⟨?_, ?_, ?_⟩ <;> simp only [] <;> omega
    · cases h
  · cases h
theorem mapM_mem : ∀ {l : List (List Int)} {s : List Sa38.Stream}, l.mapM Sa38.streamOf = some s → s.length = l.length ∧ ∀ x ∈ s, ∃ r ∈ l, Sa38.streamOf r = some x
  | [], s, h => by
    cases h
    exact ⟨rfl, fun _ hx => absurd hx List.not_mem_nil⟩
  | r :: l, s, h => by
    rw [List.mapM_cons] at h
    cases e1 : Sa38.streamOf r with
    | none =>
      rw [e1] at h
      cases h
    | some y =>
      rw [e1] at h
      cases e2 : l.mapM Sa38.streamOf with
      | none =>
        rw [e2] at h
        cases h
      | some t =>
        rw [e2] at h
        cases h
        have ih := mapM_mem e2
        refine ⟨congrArg (· + 1) ih.1, fun x hx => ?_⟩
        rcases List.mem_cons.mp hx with rfl | hx
        · exact ⟨r, List.mem_cons_self .., e1⟩
        · obtain ⟨r', h1, h2⟩ := ih.2 x hx
          exact ⟨r', List.mem_cons_of_mem _ h1, h2⟩
theorem sound_of {l : List Int} {n : Nat} {s : List Sa38.Stream} (h1 : 1 ≤ n) (h2 : n ≤ 16) (h : (rowsM l n).mapM Sa38.streamOf = some s) : Sound s := by
  obtain ⟨hl, ha⟩ := mapM_mem h
  have e : s.length = n := by
    rw [hl]
    unfold rowsM
    rw [List.length_map, List.length_range]
  exact ⟨by omega, by omega, fun x hx => by obtain ⟨r, _, q⟩ := ha x hx; exact streamOf_sound q⟩
theorem call_begin {b : Bth} {s : Sa38Neutral.S} (R : Rel b s) {e n : Int} {l : List Int} (ha : Sa38Neutral.asked1 [[0, e, n], l] = true) :
    Rel (beginM b e n l).1 (Sa38Neutral.step s [[0, e, n], l]).1 ∧ (Sa38Neutral.step s [[0, e, n], l]).2 = (beginM b e n l).2 := by
  have hl : (l.length : Int) = if 1 ≤ n ∧ n ≤ 16 then 10 * n else 0 := by
    have q : (Sa38Neutral.natural e 1 && (Sa38Neutral.whole32 n && (l.all (fun (z : Int) => Sa38Neutral.whole32 z) && (decide ((l.length : Int) = if 1 ≤ n ∧ n ≤ 16 then 10 * n else 0))))) = true := ha
    simp only [Bool.and_eq_true, decide_eq_true_eq] at q
    exact q.2.2.2
  have e1 : Sa38Neutral.step s [[0, e, n], l] = (let r := Sa38.does (if e = 0 then s.1 else s.2) (.begin_ (Sa38Neutral.tens l (l.length / 10)) n)
    (if e = 0 then (r.1, s.2) else (s.1, r.1), r.2.v :: Sa38Neutral.ints r.2.l)) := rfl
  rw [e1]
  simp only []
  unfold beginM
  by_cases h : 1 ≤ n ∧ n ≤ 16
  · rw [if_pos h] at hl
    rw [if_pos h]
    have hw : Sa38.within n 1 16 = true := within_iff.mpr h
    have ed : l.length / 10 = n.toNat := by omega
    rw [ed, tens_rows]
    show Rel _ (if e = 0 then ((if Sa38.within n 1 16 = false then ((if e = 0 then s.1 else s.2), Sa38.ok (-2)) else match (rowsM l n.toNat).mapM Sa38.streamOf with
      | some s => (some (Sa38.begun s), Sa38.ok 0)
      | none => ((if e = 0 then s.1 else s.2), Sa38.ok (-2))).1, s.2) else (s.1, (if Sa38.within n 1 16 = false then ((if e = 0 then s.1 else s.2), Sa38.ok (-2)) else match (rowsM l n.toNat).mapM Sa38.streamOf with
      | some s => (some (Sa38.begun s), Sa38.ok 0)
      | none => ((if e = 0 then s.1 else s.2), Sa38.ok (-2))).1)) ∧ ((if Sa38.within n 1 16 = false then ((if e = 0 then s.1 else s.2), Sa38.ok (-2)) else match (rowsM l n.toNat).mapM Sa38.streamOf with
      | some s => (some (Sa38.begun s), Sa38.ok 0)
      | none => ((if e = 0 then s.1 else s.2), Sa38.ok (-2))).2.v :: Sa38Neutral.ints (if Sa38.within n 1 16 = false then ((if e = 0 then s.1 else s.2), Sa38.ok (-2)) else match (rowsM l n.toNat).mapM Sa38.streamOf with
      | some s => (some (Sa38.begun s), Sa38.ok 0)
      | none => ((if e = 0 then s.1 else s.2), Sa38.ok (-2))).2.l) = _
    rw [if_neg (c := Sa38.within n 1 16 = false) (by rw [hw]; decide)]
    cases q : (rowsM l n.toNat).mapM Sa38.streamOf with
    | none => exact ⟨R.same e, rfl⟩
    | some t =>
      refine ⟨?_, rfl⟩
      show Rel (putB b e (some (CM.fresh t))) (if e = 0 then (some (Sa38.begun t), s.2) else (s.1, some (Sa38.begun t)))
      rw [← fresh_abs]
      exact R.put e (fresh_good (sound_of (by omega) (by omega) q))
  · rw [if_neg h]
    have hw : Sa38.within n 1 16 = false := by
      cases q : Sa38.within n 1 16 with
      | false => rfl
      | true => exact absurd (within_iff.mp q) h
    have ed : Sa38.does (if e = 0 then s.1 else s.2) (.begin_ (Sa38Neutral.tens l (l.length / 10)) n) = ((if e = 0 then s.1 else s.2), Sa38.ok (-2)) := by
      unfold Sa38.does
      simp only []
      rw [if_pos hw]
    rw [ed]
    exact ⟨R.same e, rfl⟩
theorem call_step {b : Bth} {s : Sa38Neutral.S} (R : Rel b s) {e cars people first : Int} :
    Rel (stepM b e cars people first).1 (Sa38Neutral.step s [[1, e, cars, people, first]]).1 ∧ (Sa38Neutral.step s [[1, e, cars, people, first]]).2 = (stepM b e cars people first).2 := by
  have e1 : Sa38Neutral.step s [[1, e, cars, people, first]] = (let r := Sa38.does (if e = 0 then s.1 else s.2) (.step cars.toNat people.toNat first)
    (if e = 0 then (r.1, s.2) else (s.1, r.1), r.2.v :: Sa38Neutral.ints r.2.l)) := rfl
  rw [e1]
  simp only []
  unfold stepM
  have eg := R.get e
  cases h : pickB b e with
  | none =>
    rw [h] at eg
    have ed : Sa38.does (if e = 0 then s.1 else s.2) (.step cars.toNat people.toNat first) = ((if e = 0 then s.1 else s.2), Sa38.ok (-9)) := by
      rw [eg]
      rfl
    rw [ed]
    exact ⟨R.same e, rfl⟩
  | some m =>
    rw [h] at eg
    have g := R.good h
    simp only []
    by_cases q : -1 ≤ first ∧ first < (m.ss.length : Int)
    · rw [if_pos q]
      have hf : ∀ k, firstO first = some k → k < m.ss.length := fun k hk => by
        unfold firstO at hk
        split at hk
        · cases hk
        · cases hk
          omega
      obtain ⟨g2, e2⟩ := step_is g (cars := cars.toNat) (people := people.toNat) (first := firstO first) hf
      have ed : Sa38.does (if e = 0 then s.1 else s.2) (.step cars.toNat people.toNat first) = (some (m.step cars.toNat people.toNat (firstO first)).abs, ⟨0, (m.step cars.toNat people.toNat (firstO first)).lights⟩) := by
        rw [eg]
        show (if first < -1 ∨ ((m.ss.map SM.c).length : Int) ≤ first then _ else _) = _
        rw [if_neg (by rw [List.length_map]; omega)]
        have e3 : (if first = -1 then none else some first.toNat) = firstO first := rfl
        rw [e3, ← e2, lights_is g2]
      rw [ed]
      exact ⟨R.put e g2, rfl⟩
    · rw [if_neg q]
      have ed : Sa38.does (if e = 0 then s.1 else s.2) (.step cars.toNat people.toNat first) = ((if e = 0 then s.1 else s.2), Sa38.ok (-2)) := by
        rw [eg]
        show (if first < -1 ∨ ((m.ss.map SM.c).length : Int) ≤ first then _ else _) = _
        rw [if_pos (by rw [List.length_map]; omega)]
      rw [ed]
      exact ⟨R.same e, rfl⟩
theorem call_calls {b : Bth} {s : Sa38Neutral.S} (R : Rel b s) {e : Int} :
    Rel b (Sa38Neutral.step s [[2, e]]).1 ∧ (Sa38Neutral.step s [[2, e]]).2 = callsM b e := by
  have e1 : Sa38Neutral.step s [[2, e]] = (let r := Sa38.does (if e = 0 then s.1 else s.2) .calls
    (if e = 0 then (r.1, s.2) else (s.1, r.1), r.2.v :: Sa38Neutral.ints r.2.l)) := rfl
  rw [e1]
  simp only []
  unfold callsM
  have eg := R.get e
  cases h : pickB b e with
  | none =>
    rw [h] at eg
    have ed : Sa38.does (if e = 0 then s.1 else s.2) .calls = ((if e = 0 then s.1 else s.2), Sa38.ok (-9)) := by
      rw [eg]
      rfl
    rw [ed]
    exact ⟨R.same e, rfl⟩
  | some m =>
    rw [h] at eg
    have ed : Sa38.does (if e = 0 then s.1 else s.2) .calls = ((if e = 0 then s.1 else s.2), ⟨0, m.remembered⟩) := by
      rw [eg]
      show (some m.abs, (⟨0, _⟩ : Sa38.Ans)) = _
      rw [remembered_is]
      rfl
    rw [ed]
    exact ⟨R.same e, rfl⟩

/-! ### the list of all calls -/
/-- one record: what stands there, and where the next one stands -/
inductive Rec (ns : List Int) (i : Nat) : List (List Int) → Nat → Prop where
  | beg (e n : Int) (k : Nat) : ns[i]? = some 0 → ns[i + 1]? = some e → ns[i + 2]? = some n → ns[i + 3]? = some (k : Int) → i + 4 + k ≤ ns.length → Rec ns i [[0, e, n], (ns.drop (i + 4)).take k] (i + 4 + k)
  | stp (e cars people first : Int) : ns[i]? = some 1 → ns[i + 1]? = some e → ns[i + 2]? = some cars → ns[i + 3]? = some people → ns[i + 4]? = some first → Rec ns i [[1, e, cars, people, first]] (i + 5)
  | cal (e : Int) : ns[i]? = some 2 → ns[i + 1]? = some e → Rec ns i [[2, e]] (i + 2)
theorem getd (ns : List Int) (i j : Nat) : (ns.drop i)[j]? = ns[i + j]? := by rw [List.getElem?_drop]
theorem len2 : ∀ {r : List Int}, ¬ r.length < 2 → ∃ a b l, r = a :: b :: l
  | [], h => absurd (Nat.zero_lt_succ _) h
  | [_], h => absurd (Nat.lt_succ_self _) h
  | a :: b :: l, _ => ⟨a, b, l, rfl⟩
theorem len4 : ∀ {r : List Int}, ¬ r.length < 4 → ∃ a b c d l, r = a :: b :: c :: d :: l
  | [], h => absurd (Nat.zero_lt_succ _) h
  | [_], h => absurd (by show 1 < 4; decide) h
  | [_, _], h => absurd (by show 2 < 4; decide) h
  | [_, _, _], h => absurd (by show 3 < 4; decide) h
  | a :: b :: c :: d :: l, _ => ⟨a, b, c, d, l, rfl⟩
theorem len1 : ∀ {r : List Int}, ¬ r.length < 1 → ∃ a l, r = a :: l
  | [], h => absurd (Nat.zero_lt_succ _) h
  | a :: l, _ => ⟨a, l, rfl⟩
theorem whole_id (c : List (List Int)) : PySa38.whole c = c := by
  unfold PySa38.whole
  split <;> rfl
theorem call_rec {ns : List Int} {i : Nat} {c : List (List Int)} {t : List Int} (h : PyFlat.call PySa38.shape (ns.drop i) = some (c, t)) : ∃ j, Rec ns i c j ∧ t = ns.drop j := by
  have g := getd ns i
  have dl : ∀ j, (ns.drop i).drop j = ns.drop (i + j) := fun j => by rw [List.drop_drop]
  have ll : (ns.drop i).length = ns.length - i := List.length_drop
  generalize ns.drop i = l at *
  cases l with
  | nil => cases h
  | cons p r =>
    have g0 : ns[i]? = some p := (g 0).symm
    have d1 : ∀ j, r.drop j = ns.drop (i + (j + 1)) := fun j => dl (j + 1)
    have gr : ∀ j, r[j]? = ns[i + (j + 1)]? := fun j => g (j + 1)
    unfold PyFlat.call at h
    simp only [] at h
    unfold PySa38.shape at h
    by_cases h0 : p = 0
    · subst h0
      rw [if_pos rfl] at h
      simp only [] at h
      by_cases hl : r.length < 2
      · rw [if_pos hl] at h
        cases h
      · rw [if_neg hl] at h
        obtain ⟨e, n, r2, rfl⟩ := len2 hl
        simp only [List.drop_succ_cons, List.drop_zero, PyFlat.rows, List.take_succ_cons, List.take_zero] at h
        cases r2 with
        | nil => cases h
        | cons k r3 =>
          unfold PyFlat.row at h
          simp only [] at h
          by_cases hk : 0 ≤ k ∧ k.toNat ≤ r3.length
          · rw [if_pos hk] at h
            simp only [Option.some.injEq, Prod.mk.injEq] at h
            obtain ⟨rfl, rfl⟩ := h
            have e3 : r3 = ns.drop (i + 4) := d1 3
            have ek : ((k.toNat : Nat) : Int) = k := Int.toNat_of_nonneg hk.1
            have l2 : (0 :: e :: n :: k :: r3 : List Int).length = r3.length + 4 := rfl
            have hk2 := hk.2
            refine ⟨i + 4 + k.toNat, ?_, ?_⟩
            · rw [e3]
              refine Rec.beg e n k.toNat g0 (gr 0).symm (gr 1).symm ?_ ?_
              · rw [ek]
                exact (gr 2).symm
              · omega
            · rw [e3, List.drop_drop]
          · rw [if_neg hk] at h
            cases h
    · rw [if_neg h0] at h
      by_cases h1 : p = 1
      · subst h1
        rw [if_pos rfl] at h
        simp only [] at h
        by_cases hl : r.length < 4
        · rw [if_pos hl] at h
          cases h
        · rw [if_neg hl] at h
          obtain ⟨e, a, b, f, r4, rfl⟩ := len4 hl
          · simp only [List.drop_succ_cons, List.drop_zero, PyFlat.rows, List.take_succ_cons, List.take_zero, Option.some.injEq, Prod.mk.injEq] at h
            obtain ⟨rfl, rfl⟩ := h
            exact ⟨i + 5, Rec.stp e a b f g0 (gr 0).symm (gr 1).symm (gr 2).symm (gr 3).symm, d1 4⟩
      · rw [if_neg h1] at h
        by_cases h2 : p = 2
        · subst h2
          rw [if_pos rfl] at h
          simp only [] at h
          by_cases hl : r.length < 1
          · rw [if_pos hl] at h
            cases h
          · rw [if_neg hl] at h
            obtain ⟨e, r1, rfl⟩ := len1 hl
            · simp only [List.drop_succ_cons, List.drop_zero, PyFlat.rows, List.take_succ_cons, List.take_zero, Option.some.injEq, Prod.mk.injEq] at h
              obtain ⟨rfl, rfl⟩ := h
              exact ⟨i + 2, Rec.cal e g0 (gr 0).symm, d1 1⟩
        · rw [if_neg h2] at h
          cases h
/-- what is still to come from a place on: its calls, which are asked; what is due of all is what is told so far and what they tell -/
structure Way (ns : List Int) (i : Nat) (b : Bth) (told : List Int) (left : Nat) : Prop where
  to : ∃ (f : Nat) (cs : List (List (List Int))) (s : Sa38Neutral.S), PyFlat.calls PySa38.shape f (ns.drop i) = some cs ∧ (∀ c ∈ cs, Sa38Neutral.asked1 c = true) ∧ cs.length = left ∧ Rel b s ∧
    PySa38.answers ns = told ++ PyFlat.told (PyFlat.played Sa38Neutral.step s cs)
theorem map_whole (cs : List (List (List Int))) : cs.map PySa38.whole = cs := by
  rw [show PySa38.whole = id from funext whole_id, List.map_id]
theorem way_start {ns : List Int} (h : PySa38.answers_asked ns = true) : ∃ left, left ≤ 400 ∧ Way ns 0 (none, none) [] left := by
  unfold PySa38.answers_asked at h
  cases e : PyFlat.calls PySa38.shape ns.length ns with
  | none =>
    rw [e] at h
    cases h
  | some raw =>
    rw [e] at h
    simp only [Bool.and_eq_true, map_whole] at h
    obtain ⟨⟨⟨⟨_, h2⟩, _⟩, h4⟩, _⟩ := h
    unfold PyFlat.atMost at h2
    unfold Sa38Neutral.asked at h4
    rw [Bool.and_eq_true] at h4
    refine ⟨raw.length, of_decide_eq_true h2, ⟨ns.length, raw, Sa38Neutral.start, by rw [List.drop_zero]; exact e, List.all_eq_true.mp h4.1, rfl, Rel.start, ?_⟩⟩
    unfold PySa38.answers PySa38.calls
    rw [e]
    simp only [map_whole, List.nil_append]
theorem way_end {ns : List Int} {i : Nat} {b : Bth} {told : List Int} {left : Nat} (W : Way ns i b told left) (h : ns.length ≤ i) : PySa38.answers ns = told := by
  obtain ⟨f, cs, s, h1, _, _, _, h5⟩ := W.to
  rw [List.drop_eq_nil_of_le h] at h1
  have e : cs = [] := by
    cases f <;> (unfold PyFlat.calls at h1; exact (Option.some.inj h1).symm)
  rw [h5, e]
  show told ++ [] = told
  rw [List.append_nil]
theorem way_turn {ns : List Int} {i : Nat} {b : Bth} {told : List Int} {left : Nat} (W : Way ns i b told left) (h : i < ns.length) :
    ∃ c j, Rec ns i c j ∧ i < j ∧ 0 < left ∧ Sa38Neutral.asked1 c = true ∧ ∀ b' ans, (∀ s, Rel b s → Rel b' (Sa38Neutral.step s c).1 ∧ (Sa38Neutral.step s c).2 = ans) → Way ns j b' (told ++ ((ans.length : Int) :: ans)) (left - 1) := by
  obtain ⟨f, cs, s, h1, h2, h3, h4, h5⟩ := W.to
  have hd : ns.drop i = ns[i] :: ns.drop (i + 1) := List.drop_eq_getElem_cons h
  cases f with
  | zero =>
    rw [hd] at h1
    cases h1
  | succ f =>
    have h1' : (match PyFlat.call PySa38.shape (ns.drop i) with
      | none => none
      | some (c, t) => match PyFlat.calls PySa38.shape f t with
        | none => none
        | some cs => some (c :: cs)) = some cs := by
      rw [hd] at h1 ⊢
      exact h1
    cases e : PyFlat.call PySa38.shape (ns.drop i) with
    | none =>
      rw [e] at h1'
      cases h1'
    | some ct =>
      obtain ⟨c, t⟩ := ct
      rw [e] at h1'
      simp only [] at h1'
      obtain ⟨j, hj, et⟩ := call_rec e
      cases e2 : PyFlat.calls PySa38.shape f t with
      | none =>
        rw [e2] at h1'
        cases h1'
      | some cs' =>
        rw [e2] at h1'
        have e3 : c :: cs' = cs := Option.some.inj h1'
        subst e3
        have lt : i < j := by cases hj <;> omega
        refine ⟨c, j, hj, lt, by rw [← h3]; exact Nat.succ_pos _, h2 c (List.mem_cons_self ..), fun b' ans hstep => ?_⟩
        obtain ⟨R', ea⟩ := hstep s h4
        refine ⟨f, cs', (Sa38Neutral.step s c).1, by rw [← et]; exact e2, fun x hx => h2 x (List.mem_cons_of_mem _ hx), by rw [← h3]; rfl, R', ?_⟩
        rw [h5]
        show told ++ PyFlat.told ((Sa38Neutral.step s c).2 :: PyFlat.played Sa38Neutral.step (Sa38Neutral.step s c).1 cs') = _
        rw [ea]
        unfold PyFlat.told
        rw [List.flatMap_cons, List.append_assoc]
end Cg
namespace Cg
/-- a call on the two crossings -/
def doM (b : Bth) (c : List (List Int)) : Bth × List Int := match c with
  | [[0, e, n], l] => beginM b e n l
  | [[1, e, cars, people, first]] => stepM b e cars people first
  | [[2, e]] => (b, callsM b e)
  | _ => (b, [])
theorem doM_is {ns : List Int} {i j : Nat} {c : List (List Int)} (h : Rec ns i c j) (ha : Sa38Neutral.asked1 c = true) (b : Bth) : ∀ s, Rel b s → Rel (doM b c).1 (Sa38Neutral.step s c).1 ∧ (Sa38Neutral.step s c).2 = (doM b c).2 := fun s R => by
  cases h with
  | beg e n k h1 h2 h3 h4 h5 => exact call_begin R ha
  | stp e cars people first h1 h2 h3 h4 h5 => exact call_step R
  | cal e h1 h2 => exact call_calls R
theorem doM_len {ns : List Int} {i j : Nat} {c : List (List Int)} (h : Rec ns i c j) (b : Bth) : (doM b c).2.length ≤ 5 := by
  cases h with
  | beg e n k h1 h2 h3 h4 h5 =>
    show (beginM b e n _).2.length ≤ 5
    unfold beginM
    split
    · split
      · show 1 ≤ 5
        decide
      · show 1 ≤ 5
        decide
    · show 1 ≤ 5
      decide
  | stp e cars people first h1 h2 h3 h4 h5 =>
    show (stepM b e cars people first).2.length ≤ 5
    unfold stepM
    split
    · show 1 ≤ 5
      decide
    · split
      · show 5 ≤ 5
        decide
      · show 1 ≤ 5
        decide
  | cal e h1 h2 =>
    show (callsM b e).length ≤ 5
    unfold callsM
    split
    · show 1 ≤ 5
      decide
    · show 3 ≤ 5
      decide
theorem natural_one {e : Int} (h : Sa38Neutral.natural e 1 = true) : e = 0 ∨ e = 1 := by
  unfold Sa38Neutral.natural at h
  rw [Bool.and_eq_true, decide_eq_true_eq, decide_eq_true_eq] at h
  have : (2 : Int) ^ 1 = 2 := rfl
  omega
theorem asked_beg {e n : Int} {l : List Int} (ha : Sa38Neutral.asked1 [[0, e, n], l] = true) : (e = 0 ∨ e = 1) ∧ ((1 ≤ n ∧ n ≤ 16) → (l.length : Int) = 10 * n) := by
  have q : (Sa38Neutral.natural e 1 && (Sa38Neutral.whole32 n && (l.all (fun (z : Int) => Sa38Neutral.whole32 z) && (decide ((l.length : Int) = if 1 ≤ n ∧ n ≤ 16 then 10 * n else 0))))) = true := ha
  simp only [Bool.and_eq_true, decide_eq_true_eq] at q
  refine ⟨natural_one q.1, fun h => ?_⟩
  have := q.2.2.2
  rw [if_pos h] at this
  exact this
theorem natural_nn {z : Int} {n : Nat} (h : Sa38Neutral.natural z n = true) : 0 ≤ z := by
  unfold Sa38Neutral.natural at h
  rw [Bool.and_eq_true, decide_eq_true_eq] at h
  exact h.1
theorem asked_stp {e cars people first : Int} (ha : Sa38Neutral.asked1 [[1, e, cars, people, first]] = true) : (e = 0 ∨ e = 1) ∧ 0 ≤ cars ∧ 0 ≤ people := by
  have q : (Sa38Neutral.natural e 1 && (Sa38Neutral.natural cars 32 && (Sa38Neutral.natural people 32 && (Sa38Neutral.whole32 first)))) = true := ha
  simp only [Bool.and_eq_true] at q
  exact ⟨natural_one q.1, natural_nn q.2.1, natural_nn q.2.2.1⟩
theorem asked_cal {e : Int} (ha : Sa38Neutral.asked1 [[2, e]] = true) : e = 0 ∨ e = 1 := natural_one ha
end Cg

/-! Words for the walk: rules that the layer lacks, what stands in the heap, what a reading evaluates to. -/
namespace Cg
open PySem PySem.Spec PyProof.Rows L2 Evl

/-! ### the text by places -/
def top (i : Nat) : Stmt := PySem.Challenge.pw_crossgreen_s01_answers.main.body.getD i (.Pass ⟨0, 0, 0, 0⟩)

/-! ### defs as packages -/
section
variable (P : Program) (w : World) (K : PySem.W.Frag) (mg : Str → Option Value) (base : Heap)
/-- a def that may be called by its name -/
structure Cal (k : Nat) (x : Str) (sp : Sp) : Prop where
  ex : ∃ (f : Addr) (fd : FuncData) (ps : List Str), FnOk P w K mg base CX0 k f fd ps sp ∧ mg x = some (.ref f) ∧ PySem.W.keepIn K (.ref f) = true ∧ Binds K fd ps []
/-- a method of the class at C -/
structure Met (k : Nat) (C : Addr) (m : Str) (sp : Sp) : Prop where
  ex : ∃ (f : Addr) (fd : FuncData) (ps : List Str), Cls K C ∧ Meth K C m f ∧ FnOk P w K mg base CX0 k f fd ps sp ∧ Binds K fd ps []
/-- a class that is made by its name; sp: its __init__ -/
structure Mak (k : Nat) (x : Str) (C : Addr) (sp : Sp) : Prop where
  ex : ∃ (f : Addr) (fd : FuncData) (ps : List Str), Mk K C f ∧ FnOk P w K mg base CX0 k f fd ps sp ∧ mg x = some (.ref C) ∧ Binds K fd ps []
end
section
variable {X : Cx} {k j : Nat} {C : Addr} {x m : Str} {sp : Sp} {p pos apos : Pos} {e o : Expr} {es : List Expr} {ta : TE} {t : TA}
theorem pe_f (c : Cal X.prog X.w X.K X.mg X.base k x sp) (hr : Room j X.A) (hk : k ≤ j) (hg : Gl X x) (ha : PA X (e :: es) t)
    (hdb : (x == ("__debug__" : Str)) = false := by decide) (he : starEach (e :: es) X.env = (false, eval e X.env) :: starEach es X.env := by rfl) (hpl : (backTo pos (starEach es X.env)).any (·.1) = false := by rfl) :
    PE X (.Call (.Name x p) (e :: es) [] pos) (tCall sp [] E0 t) := by
  obtain ⟨f, fd, ps, F, hm, kp, b⟩ := c.ex
  exact pe_call F (hr.mono hk) hg hm kp b .nil pass0 ha hdb he hpl
theorem pe_mk (c : Mak X.prog X.w X.K X.mg X.base k x C sp) (hr : Room j X.A) (hk : k + 1 ≤ j) (hg : Gl X x) (ha : PA X (e :: es) t)
    (hdb : (x == ("__debug__" : Str)) = false := by decide) (he : starEach (e :: es) X.env = (false, eval e X.env) :: starEach es X.env := by rfl) (hpl : (backTo pos (starEach es X.env)).any (·.1) = false := by rfl) :
    PE X (.Call (.Name x p) (e :: es) [] pos) (tMake C sp [] E0 t) := by
  obtain ⟨f, fd, ps, M, F, hm, b⟩ := c.ex
  exact pe_make M F (hr.mono hk) hg hm b .nil pass0 ha hdb he hpl
theorem pe_mk0 (c : Mak X.prog X.w X.K X.mg X.base k x C sp) (hr : Room j X.A) (hk : k + 1 ≤ j) (hg : Gl X x)
    (hdb : (x == ("__debug__" : Str)) = false := by decide) : PE X (.Call (.Name x p) [] [] pos) (tMake C sp [] E0 tNil) := by
  obtain ⟨f, fd, ps, M, F, hm, b⟩ := c.ex
  exact pe_make0 M F (hr.mono hk) hg hm b .nil pass0 hdb
theorem pe_m {pl : Sem Bool} (c : Met X.prog X.w X.K X.mg X.base k C m sp) (hr : Room j X.A) (hk : k ≤ j) (he : PE X o ta) (ha : PA X (e :: es) t)
    (hst : starEach (e :: es) X.env = (false, eval e X.env) :: starEach es X.env := by rfl) (hpl : (backTo pos (starEach es X.env)).any (·.1) = false := by rfl)
    (ht : eval (.Call (.Attribute o m apos) (e :: es) [] pos) X.env = (do
      let ov ← eval o X.env
      standAt apos.atName
      let (f, first) ← holding [ov] (getMethod ov m pl)
      callWith pos f first (backTo pos (starEach (e :: es) X.env)) (backToKw pos (keywordEach [] X.env))) := by rfl) :
    PE X (.Call (.Attribute o m apos) (e :: es) [] pos) (tMeth C m sp [] E0 ta t) := by
  obtain ⟨f, fd, ps, hc, hm, F, b⟩ := c.ex
  exact pe_meth (pl := pl) he hc hm F (hr.mono hk) b .nil pass0 ha hst hpl ht
theorem pe_m0 {pl : Sem Bool} (c : Met X.prog X.w X.K X.mg X.base k C m sp) (hr : Room j X.A) (hk : k ≤ j) (he : PE X o ta)
    (ht : eval (.Call (.Attribute o m apos) [] [] pos) X.env = (do
      let ov ← eval o X.env
      standAt apos.atName
      let (f, first) ← holding [ov] (getMethod ov m pl)
      callWith pos f first (backTo pos (starEach [] X.env)) (backToKw pos (keywordEach [] X.env))) := by rfl) :
    PE X (.Call (.Attribute o m apos) [] [] pos) (tMeth C m sp [] E0 ta tNil) := by
  obtain ⟨f, fd, ps, hc, hm, F, b⟩ := c.ex
  exact pe_meth0 (pl := pl) he hc hm F (hr.mono hk) b .nil pass0 ht
/-- a name of the module, by its value -/
theorem pe_k {v : V} (h : ∃ u, X.mg x = some u ∧ RelV v u) (hg : Gl X x) (hd : (x == ("__debug__" : Str)) = false := by decide) : PE X (.Name x pos) (tC v) := by
  obtain ⟨u, hm, r⟩ := h
  exact pe_glob hg hm r hd
/-- o.f among several targets -/
def gFld (K : PySem.W.Frag) (ta : TE) (f : Str) : TG := fun v σ H Q => ta σ H fun x H2 => ∃ a C dx fs, x = .ref a ∧ H2 a = some (.ins C dx fs) ∧ Cls K C ∧ NoAttr K C f ∧ fs.length < 1000 ∧ Q σ (upd H2 a (.ins C dx (putF f v fs)))
theorem pg_att {f : Str} (ho : PE X o ta) : PG X (.Attribute o f pos) (gFld X.K ta f) := by
  refine ⟨fun pins s σ H v u Q I r h => ?_⟩
  rw [arm_assign_Attribute]
  refine wpAny_bind (wpAny_holding (thn (ho.run pins s σ H _ I h) fun ov s1 ⟨x, H1, I1, r1, a, C, dx, fs, ex, ea, c, n, l, q1⟩ => ?_))
  subst ex
  obtain rfl : ov = Value.ref a := r1
  refine wpAny_bind (wpAny_standAt (wpAny_bind (wpAny_holding (setattr_ok I1 ea c n l r fun s2 I2 => ?_))))
  exact wpAny_release ⟨σ, _, I2, q1⟩
end
section
variable {P : Program} {w : World} {K : PySem.W.Frag} {mg : Str → Option Value} {base : Heap}
theorem met_of {m qual : Str} {C : Addr} {st : Stmt} {f : Addr} {fd : FuncData} {N ps : List Str} {k : Nat} {sp : Sp} (c : Cls K C) (me : Meth K C m f) (F : Fun K m qual st f fd) (b : Binds K fd ps []) (S : FnScope N ps (defScope st)) (len : ∀ vs H Q E, sp vs H Q E → vs.length = ps.length)
    (hbody : ∀ (cdv : Value) (A : Around) (outer : List Env) (s : Shared) (H : Hp) (vs : List V) (Q : VK) (E : XK), Room k (A.deeper (envOfC qual (defScope st) s.heap.objs.size f cdv)) → sp vs H Q E →
      ∃ t, PSs (cxOf CX0 P w K mg base N qual (defScope st) f cdv A outer s H E).nox (defBody st) t ∧ t { nx := fun _ H' => Q .non H', rt := Q } (start N vs) H) : Met P w K mg base (k + 1) C m sp :=
  ⟨f, fd, ps, c, me, F.ok S len hbody, b⟩
theorem cal_of {x : Str} {st : Stmt} {f : Addr} {fd : FuncData} {N ps : List Str} {k : Nat} {sp : Sp} (hm : mg x = some (.ref f)) (F : Fun K x x st f fd) (b : Binds K fd ps []) (S : FnScope N ps (defScope st)) (len : ∀ vs H Q E, sp vs H Q E → vs.length = ps.length)
    (hbody : ∀ (cdv : Value) (A : Around) (outer : List Env) (s : Shared) (H : Hp) (vs : List V) (Q : VK) (E : XK), Room k (A.deeper (envOfC x (defScope st) s.heap.objs.size f cdv)) → sp vs H Q E →
      ∃ t, PSs (cxOf CX0 P w K mg base N x (defScope st) f cdv A outer s H E).nox (defBody st) t ∧ t { nx := fun _ H' => Q .non H', rt := Q } (start N vs) H) : Cal P w K mg base (k + 1) x sp :=
  ⟨f, fd, ps, F.ok S len hbody, hm, F.kp, b⟩
theorem mak_of {x qual : Str} {C : Addr} {st : Stmt} {f : Addr} {fd : FuncData} {N ps : List Str} {k : Nat} {sp : Sp} (M : Mk K C f) (hm : mg x = some (.ref C)) (F : Fun K "__init__" qual st f fd) (b : Binds K fd ps []) (S : FnScope N ps (defScope st)) (len : ∀ vs H Q E, sp vs H Q E → vs.length = ps.length)
    (hbody : ∀ (cdv : Value) (A : Around) (outer : List Env) (s : Shared) (H : Hp) (vs : List V) (Q : VK) (E : XK), Room k (A.deeper (envOfC qual (defScope st) s.heap.objs.size f cdv)) → sp vs H Q E →
      ∃ t, PSs (cxOf CX0 P w K mg base N qual (defScope st) f cdv A outer s H E).nox (defBody st) t ∧ t { nx := fun _ H' => Q .non H', rt := Q } (start N vs) H) : Mak P w K mg base (k + 1) x C sp :=
  ⟨f, fd, ps, M, F.ok S len hbody, hm, b⟩
end

/-! ### promises: what is only asked, what makes a new list -/
/-- a value is handed back, nothing that was known is changed -/
def spV (R : List V → Hp → V → Prop) : Sp := fun vs H Q _ => ∃ v, R vs H v ∧ ∀ H', Ex H H' → Q v H'
/-- a new list is handed back -/
def spL (R : List V → Hp → List V → Prop) : Sp := fun vs H Q _ => ∃ xs, R vs H xs ∧ ∀ p H', H p = none → Ex H H' → H' p = some (.lst xs) → Q (.ref p) H'
theorem spV_len {R : List V → Hp → V → Prop} {n : Nat} (h : ∀ vs H v, R vs H v → vs.length = n) : ∀ vs H Q E, spV R vs H Q E → vs.length = n := fun vs H _ _ ⟨v, r, _⟩ => h vs H v r
theorem spL_len {R : List V → Hp → List V → Prop} {n : Nat} (h : ∀ vs H v, R vs H v → vs.length = n) : ∀ vs H Q E, spL R vs H Q E → vs.length = n := fun vs H _ _ ⟨v, r, _⟩ => h vs H v r

/-! ### objects -/
def ObjAt (C : Addr) (H : Hp) (a : Addr) (fs : List (Str × V)) : Prop := ∃ dx, H a = some (.ins C dx fs)
theorem ObjAt.mono {C a : Addr} {H H' : Hp} {fs : List (Str × V)} (e : Ex H H') (h : ObjAt C H a fs) : ObjAt C H' a fs := let ⟨dx, q⟩ := h; ⟨dx, e a _ q⟩
/-- all but what is at the addresses of F is as it was; what was known is known -/
structure Fr (F : Addr → Prop) (H H' : Hp) : Prop where
  keep : ∀ b o, H b = some o → ¬ F b → H' b = some o
  dom : ∀ b, H' b = none → H b = none
theorem Fr.of {F : Addr → Prop} {H H' : Hp} (e : Ex H H') : Fr F H H' := ⟨fun b o h _ => e b o h, fun _ h => fresh_back e h⟩
theorem Fr.trans {F : Addr → Prop} {H H1 H2 : Hp} (a : Fr F H H1) (b : Fr F H1 H2) : Fr F H H2 := ⟨fun x o h n => b.keep x o (a.keep x o h n) n, fun x h => a.dom x (b.dom x h)⟩
theorem Fr.mono {F G : Addr → Prop} {H H' : Hp} (h : ∀ b, F b → G b) (a : Fr F H H') : Fr G H H' := ⟨fun b o e n => a.keep b o e fun z => n (h b z), a.dom⟩
theorem Fr.upd {F : Addr → Prop} {H : Hp} {a : Addr} {o : HO} (h : F a) : Fr F H (upd H a o) := ⟨fun b u e n => by
  rw [upd_ne fun z => n (by rw [z]; exact h)]
  exact e, fun b e => by
  by_cases q : b = a
  · rw [q, upd_same] at e
    cases e
  · rw [upd_ne q] at e
    exact e⟩

/-! ### what evaluates to what -/
section
variable {K : PySem.W.Frag} {σ : L2.St} {H H' : Hp} {ta tb tc te tx : TE} {t u : TT} {x y z v : V} {r r' : R2}
theorem ev_fld {C a : Addr} {fs : List (Str × V)} {f : Str} (h : Ev ta σ H (.ref a)) (ho : ObjAt C H a fs) (hc : Cls K C) (hn : NoAttr K C f) (hl : fs.lookup f = some v) : Ev (tFld K ta f) σ H v := fun H1 e Q q =>
  h H1 e _ fun H2 e2 => by
    obtain ⟨dx, ho⟩ := ho
    exact ⟨a, C, dx, fs, v, rfl, e2 _ _ (e _ _ ho), hc, hn, hl, q H2 e2⟩
theorem ev_methV {C a : Addr} {fs : List (Str × V)} {m : Str} {R : List V → Hp → V → Prop} {E : XK} {tr : TA} {vs : List V} (h : Ev ta σ H (.ref a)) (ho : ObjAt C H a fs) (hl : fs.lookup m = none) (ha : EvA tr σ H vs) (hR : ∀ H1, Ex H H1 → R (.ref a :: vs) H1 v) :
    Ev (tMeth C m (spV R) [] E ta tr) σ H v := fun H1 e Q q => h H1 e _ fun H2 e2 => by
    obtain ⟨dx, ho⟩ := ho
    refine ⟨a, dx, fs, rfl, e2 _ _ (e _ _ ho), hl, ?_⟩
    refine ha H2 (e.trans e2) _ fun H3 e3 => ?_
    rw [List.append_nil]
    exact ⟨v, hR H3 ((e.trans e2).trans e3), fun H4 e4 => q H4 ((e2.trans e3).trans e4)⟩
theorem el_methL {C a : Addr} {fs : List (Str × V)} {m : Str} {R : List V → Hp → List V → Prop} {E : XK} {tr : TA} {vs xs : List V} (h : Ev ta σ H (.ref a)) (ho : ObjAt C H a fs) (hl : fs.lookup m = none) (ha : EvA tr σ H vs) (hR : ∀ H1, Ex H H1 → R (.ref a :: vs) H1 xs) :
    EvL (tMeth C m (spL R) [] E ta tr) σ H xs := fun H1 e Q q => h H1 e _ fun H2 e2 => by
    obtain ⟨dx, ho⟩ := ho
    refine ⟨a, dx, fs, rfl, e2 _ _ (e _ _ ho), hl, ?_⟩
    refine ha H2 (e.trans e2) _ fun H3 e3 => ?_
    rw [List.append_nil]
    exact ⟨xs, hR H3 ((e.trans e2).trans e3), fun p H4 hp e4 h4 => q p H4 (fresh_back (e2.trans e3) hp) ((e2.trans e3).trans e4) h4⟩
theorem ev_callV {R : List V → Hp → V → Prop} {E : XK} {tr : TA} {vs : List V} (ha : EvA tr σ H vs) (hR : ∀ H1, Ex H H1 → R vs H1 v) : Ev (tCall (spV R) [] E tr) σ H v := fun H1 e Q q =>
  ha H1 e _ fun H2 e2 => by
    rw [List.append_nil]
    exact ⟨v, hR H2 (e.trans e2), fun H3 e3 => q H3 (e2.trans e3)⟩
theorem el_callL {R : List V → Hp → List V → Prop} {E : XK} {tr : TA} {vs xs : List V} (ha : EvA tr σ H vs) (hR : ∀ H1, Ex H H1 → R vs H1 xs) : EvL (tCall (spL R) [] E tr) σ H xs := fun H1 e Q q =>
  ha H1 e _ fun H2 e2 => by
    rw [List.append_nil]
    exact ⟨xs, hR H2 (e.trans e2), fun p H3 hp e3 h3 => q p H3 (fresh_back e2 hp) (e2.trans e3) h3⟩
/-- one argument that is a new list -/
theorem ev_callV1 {R : List V → Hp → V → Prop} {E : XK} {xs : List V} (ha : EvL ta σ H xs) (hR : ∀ p H1, Ex H H1 → H1 p = some (.lst xs) → R [.ref p] H1 v) : Ev (tCall (spV R) [] E (tCons ta tNil)) σ H v := fun H1 e Q q =>
  ha H1 e _ fun p H2 _ e2 hp => ⟨v, hR p H2 (e.trans e2) hp, fun H3 e3 => q H3 (e2.trans e3)⟩
theorem ev_ceq (e : x = y) : Ev (tC x) σ H y := e ▸ ev_c
/-- numbers that are not below 0 -/
theorem rv_to {z' : V} (h : RV r x y H z) (e : z = z') : RV r x y H z' := e ▸ h
theorem beq_ofNat (a b : Nat) : decide (V.int (a : Int) = V.int (b : Int)) = (a == b) := by
  rw [dec_int]
  by_cases h : a = b
  · rw [h, beq_self_eq_true, beq_self_eq_true]
  · have e1 : ((a : Int) == (b : Int)) = false := beq_eq_false_iff_ne.mpr fun q => h (Int.ofNat.inj q)
    have e2 : (a == b) = false := beq_eq_false_iff_ne.mpr h
    rw [e1, e2]
theorem rv_eqn {a b : Nat} : RV rEq (.int (a : Int)) (.int (b : Int)) H (.bl (a == b)) := rv_to (rv_eq rfl) (congrArg V.bl (beq_ofNat a b))
theorem rv_nen {a b : Nat} : RV rNe (.int (a : Int)) (.int (b : Int)) H (.bl (a != b)) := rv_to (rv_ne rfl) (congrArg (fun c => V.bl (!c)) (beq_ofNat a b))
theorem rv_ltn {a b : Nat} : RV (rI0 fun i j => .bl (decide (i < j))) (.int (a : Int)) (.int (b : Int)) H (.bl (decide (a < b))) := rv_to rv_I0 (congrArg V.bl (decide_eq_decide.mpr Int.ofNat_lt))
theorem rv_len {a b : Nat} : RV (rI0 fun i j => .bl (decide (i ≤ j))) (.int (a : Int)) (.int (b : Int)) H (.bl (decide (a ≤ b))) := rv_to rv_I0 (congrArg V.bl (decide_eq_decide.mpr Int.ofNat_le))
theorem rv_gtn {a b : Nat} : RV (rI0 fun i j => .bl (decide (j < i))) (.int (a : Int)) (.int (b : Int)) H (.bl (decide (b < a))) := rv_to rv_I0 (congrArg V.bl (decide_eq_decide.mpr Int.ofNat_lt))
theorem rv_gen {a b : Nat} : RV (rI0 fun i j => .bl (decide (j ≤ i))) (.int (a : Int)) (.int (b : Int)) H (.bl (decide (b ≤ a))) := rv_to rv_I0 (congrArg V.bl (decide_eq_decide.mpr Int.ofNat_le))
theorem rv_addn {a b : Nat} : RV (rI0 fun i j => .int (i + j)) (.int (a : Int)) (.int (b : Int)) H (.int ((a + b : Nat) : Int)) := rv_to rv_I0 (congrArg V.int (Int.natCast_add a b).symm)
theorem rv_eq0 {a : Nat} : RV rEq (.int (a : Int)) (.int 0) H (.bl (a == 0)) := rv_eqn (b := 0)
theorem rv_eq1 {a : Nat} : RV rEq (.int (a : Int)) (.int 1) H (.bl (a == 1)) := rv_eqn (b := 1)
theorem rv_gt0 {a : Nat} : RV (rI0 fun i j => .bl (decide (j < i))) (.int (a : Int)) (.int 0) H (.bl (decide (0 < a))) := rv_gtn (b := 0)
/-- a number or NONE -/
def nV : Option Nat → V
  | none => .int (-1)
  | some k => .int (k : Int)
theorem rv_noneNe {o : Option Nat} : RV rNe (nV o) (.int (-1)) H (.bl o.isSome) := fun H1 _ _ q => by
  cases o with
  | none => exact ⟨rfl, q H1 (Ex.refl H1)⟩
  | some k =>
    refine ⟨rfl, ?_⟩
    rw [show nV (some k) = V.int (k : Int) from rfl, dec_int, show ((k : Int) == -1) = false from beq_eq_false_iff_ne.mpr (by omega)]
    exact q H1 (Ex.refl H1)
theorem rv_noneEq {o : Option Nat} : RV rEq (nV o) (.int (-1)) H (.bl o.isNone) := fun H1 _ _ q => by
  cases o with
  | none => exact ⟨rfl, q H1 (Ex.refl H1)⟩
  | some k =>
    refine ⟨rfl, ?_⟩
    rw [show nV (some k) = V.int (k : Int) from rfl, dec_int, show ((k : Int) == -1) = false from beq_eq_false_iff_ne.mpr (by omega)]
    exact q H1 (Ex.refl H1)
theorem rv_firstEq {o : Option Nat} {k : Nat} : RV rEq (.int (k : Int)) (nV o) H (.bl (o == some k)) := fun H1 _ _ q => by
  cases o with
  | none =>
    refine ⟨rfl, ?_⟩
    rw [show nV none = V.int (-1) from rfl, dec_int, show ((k : Int) == -1) = false from beq_eq_false_iff_ne.mpr (by omega)]
    exact q H1 (Ex.refl H1)
  | some j =>
    refine ⟨rfl, ?_⟩
    rw [show nV (some j) = V.int (j : Int) from rfl, beq_ofNat]
    have e : (some j == some k) = (k == j) := Bool.beq_comm (a := j) (b := k) ▸ rfl
    rw [← e]
    exact q H1 (Ex.refl H1)
theorem rv_firstNe {o : Option Nat} {k : Nat} : RV rNe (nV o) (.int (k : Int)) H (.bl (o != some k)) := fun H1 _ _ q => by
  cases o with
  | none =>
    refine ⟨rfl, ?_⟩
    rw [show nV none = V.int (-1) from rfl, dec_int, show ((-1 : Int) == (k : Int)) = false from beq_eq_false_iff_ne.mpr (by omega)]
    exact q H1 (Ex.refl H1)
  | some j =>
    refine ⟨rfl, ?_⟩
    rw [show nV (some j) = V.int (j : Int) from rfl, beq_ofNat]
    exact q H1 (Ex.refl H1)
theorem ev_int1 {b : Bool} {ri : List V → Hp → VK → Prop} (hri : ri = fun xs H Q => (∃ i, xs = [V.int i] ∧ Q (.int i) H) ∨ ∃ k, xs = [V.bl k] ∧ Q (.int (if k = true then 1 else 0)) H) (h : Ev ta σ H (.bl b)) :
    Ev (tCB ri (tCons ta tNil)) σ H (.int ((if b = true then 1 else 0 : Nat) : Int)) := fun H1 e Q q => by
  subst hri
  refine h H1 e _ fun H2 e2 => .inr ⟨b, rfl, ?_⟩
  have := q H2 e2
  cases b <;> exact this
theorem ev_any {bs : List Bool} (h : EvL ta σ H (bs.map V.bl)) : Ev (tCB (rAny K) (tCons ta tNil)) σ H (.bl (bs.any id)) := fun H1 e Q q =>
  h H1 e _ fun p H2 _ e2 hp => ⟨p, bs, rfl, sq_of hp, q H2 e2⟩
theorem ev_all {bs : List Bool} (h : EvL ta σ H (bs.map V.bl)) : Ev (tCB (rAll K) (tCons ta tNil)) σ H (.bl (bs.all id)) := fun H1 e Q q =>
  h H1 e _ fun p H2 _ e2 hp => ⟨p, bs, rfl, sq_of hp, q H2 e2⟩
theorem ev_sum {ns : List Int} (h : EvL ta σ H (ns.map V.int)) : Ev (tCB (rSum K) (tCons ta tNil)) σ H (.int ns.sum) := fun H1 e Q q =>
  h H1 e _ fun p H2 _ e2 hp => ⟨p, ns, rfl, sq_of hp, q H2 e2⟩
theorem ev_lenS {p : Addr} {xs : List V} (ha : Ev ta σ H (.ref p)) (h : SqL K H p xs) : Ev (tCB (fun xs H Q => ∃ p ys, xs = [V.ref p] ∧ (SqL K H p ys ∨ SqT K H p ys) ∧ Q (.int (ys.length : Int)) H) (tCons ta tNil)) σ H (.int (xs.length : Int)) := fun H1 e Q q =>
  ha H1 e _ fun H2 e2 => ⟨p, xs, rfl, Or.inl (ex_l (e.trans e2) h), q H2 e2⟩
theorem ev_lenNew {xs : List V} (ha : EvL ta σ H xs) : Ev (tCB (fun xs H Q => ∃ p ys, xs = [V.ref p] ∧ (SqL K H p ys ∨ SqT K H p ys) ∧ Q (.int (ys.length : Int)) H) (tCons ta tNil)) σ H (.int (xs.length : Int)) := fun H1 e Q q =>
  ha H1 e _ fun p H2 _ e2 h2 => ⟨p, xs, rfl, Or.inl (sq_of h2), q H2 e2⟩
/-- a chain of two comparisons -/
theorem ev_chain {b c : Bool} (ha : Ev ta σ H x) (hb : Ev tb σ H y) (h1 : RV r x y H (.bl b)) (hc : b = true → Ev tc σ H z) (h2 : b = true → RV r' y z H (.bl c)) : Ev (tChain r r' ta tb tc) σ H (.bl (b && c)) := fun H1 e Q q =>
  ha H1 e _ fun H2 e2 => hb H2 (e.trans e2) _ fun H3 e3 => h1 H3 ((e.trans e2).trans e3) _ fun H4 e4 => ⟨b, rfl, by
    cases b with
    | false =>
      show Q (.bl false) H4
      exact q H4 ((e2.trans e3).trans e4)
    | true =>
      show tc σ H4 fun w' H5 => r' y w' H5 Q
      exact hc rfl H4 (((e.trans e2).trans e3).trans e4) _ fun H5 e5 => h2 rfl H5 ((((e.trans e2).trans e3).trans e4).trans e5) Q fun H6 e6 => q H6 ((((e2.trans e3).trans e4).trans e5).trans e6)⟩
/-- list(range(n)) -/
theorem el_listRg {n : Nat} (h : Ev ta σ H (.int (n : Int))) (hn : n ≤ 100000) : EvL (tLstRg (tRg1 ta)) σ H ((List.range n).map fun k => .int ((k : Nat) : Int)) := fun H1 e Q q =>
  h H1 e _ fun H2 e2 => ⟨(n : Int), rfl, RgOk.of_le (Int.le_refl 0) (by omega) (by decide) (by omega), fun p hp => by
    have el : rgV 0 (n : Int) = (List.range n).map fun k => V.int ((k : Nat) : Int) := by
      unfold rgV
      rw [show ((n : Int) - 0).toNat = n by omega]
      refine List.map_congr_left fun k _ => ?_
      rw [Int.zero_add]
    rw [el]
    exact q p _ (fresh_back e2 hp) (e2.trans (Ex.new hp)) upd_same⟩
theorem el_is {xs ys : List V} (h : EvL te σ H xs) (e : xs = ys) : EvL te σ H ys := e ▸ h
theorem ea_one (h : Ev te σ H x) : EvA (tCons te tNil) σ H [x] := ea_cons h ea_nil
/-- two new lists put together -/
theorem el_cat {xs ys : List V} (ha : EvL ta σ H xs) (hb : ∀ H1, Ex H H1 → EvL tb σ H1 ys) (hz : xs.length + ys.length ≤ 100000) : EvL (tOp rCat ta tb) σ H (xs ++ ys) := fun H1 e Q q =>
  ha H1 e _ fun p H2 _ e2 hp => hb H2 (e.trans e2) H2 (Ex.refl H2) _ fun p' H3 _ e3 hp' =>
    ⟨p, p', xs, ys, rfl, rfl, e3 p _ hp, hp', sz_of hz, fun l hl => q l _ (fresh_back (e2.trans e3) hl) ((e2.trans e3).trans (Ex.new hl)) upd_same⟩
/-! comprehensions over lists, told by lists -/
theorem take_snoc {α : Type} {l : List α} {i : Nat} {x : α} (h : l[i]? = some x) : l.take (i + 1) = l.take i ++ [x] := by
  rw [List.take_succ, h]
  rfl
theorem given_map {α : Type} (l : List α) (f : α → Bool) (v : α → V) (F : Nat → Bool) (G : Nat → V) (hF : ∀ i x, l[i]? = some x → F i = f x) (hG : ∀ i x, l[i]? = some x → G i = v x) : given l.length F G = (l.filter f).map v := by
  have key : ∀ k, k ≤ l.length → given k F G = ((l.take k).filter f).map v := by
    intro k
    induction k with
    | zero => intro _; rw [List.take_zero]; rfl
    | succ k ih =>
      intro hk
      have hl : l[k]? = some l[k] := List.getElem?_eq_getElem (by omega)
      have e := ih (by omega)
      rw [take_snoc hl, List.filter_append, List.map_append, ← e]
      have hf := hF _ _ hl
      cases q : f l[k] with
      | true =>
        rw [given_yes (hf.trans q), hG _ _ hl, List.filter_cons, if_pos q]
        rfl
      | false =>
        rw [given_no (hf.trans q), List.filter_cons, if_neg (by rw [q]; decide)]
        exact (List.append_nil _).symm
  have := key l.length (Nat.le_refl _)
  rw [List.take_length] at this
  exact this
theorem el_lc {α : Type} {l : List α} {enc : α → V} {tl : TE} {j : Nat} {vs : List Nat} (f : α → Bool) (v : α → V) (h : EvL tl σ H (l.map enc)) (hz : l.length ≤ 40000) (hw : ∀ x, wipe ((wipe σ vs).set j (some x)) vs = wipe σ vs)
    (ht : ∀ x ∈ l, EvT t ((wipe σ vs).set j (some (enc x))) H (f x)) (he : ∀ x ∈ l, f x = true → Ev te ((wipe σ vs).set j (some (enc x))) H (v x)) :
    EvL (tLc (iList K tl) (gName j) t te vs) σ H ((l.filter f).map v) := by
  have hx : ∀ i y, (l.map enc)[i]? = some y → ∃ x ∈ l, l[i]? = some x ∧ y = enc x := fun i y hy => by
    rw [List.getElem?_map] at hy
    cases q : l[i]? with
    | none => rw [q] at hy; cases hy
    | some x => rw [q] at hy; exact ⟨x, List.mem_of_getElem? q, q, (Option.some.inj hy).symm⟩
  have key := el_lcNL (K := K) (t := t) (te := te) (j := j) (vs := vs) (fun i => (l[i]?.map f).getD false) (fun i => (l[i]?.map v).getD .non) h (by rw [List.length_map]; exact hz) hw (fun i y H1 e1 hy => by
      obtain ⟨x, hm, q, rfl⟩ := hx i y hy
      rw [q]
      exact (ht x hm).mono e1) (fun i y H1 e1 hy hf => by
      obtain ⟨x, hm, q, rfl⟩ := hx i y hy
      rw [q] at hf ⊢
      exact (he x hm hf).mono e1)
  rw [List.length_map] at key
  rw [given_map l f v _ _ (fun i x q => by simp only [q, Option.map_some, Option.getD_some]) (fun i x q => by simp only [q, Option.map_some, Option.getD_some])] at key
  exact key
theorem el_lcAt {α : Type} {l : List α} {enc : α → V} {a : Addr} {tl : TE} {j : Nat} {vs : List Nat} (f : α → Bool) (v : α → V) (h : Ev tl σ H (.ref a)) (hs : SqL K H a (l.map enc)) (hz : l.length ≤ 40000) (hw : ∀ x, wipe ((wipe σ vs).set j (some x)) vs = wipe σ vs)
    (ht : ∀ x ∈ l, EvT t ((wipe σ vs).set j (some (enc x))) H (f x)) (he : ∀ x ∈ l, f x = true → Ev te ((wipe σ vs).set j (some (enc x))) H (v x)) :
    EvL (tLc (iList K tl) (gName j) t te vs) σ H ((l.filter f).map v) := by
  have hx : ∀ i y, (l.map enc)[i]? = some y → ∃ x ∈ l, l[i]? = some x ∧ y = enc x := fun i y hy => by
    rw [List.getElem?_map] at hy
    cases q : l[i]? with
    | none => rw [q] at hy; cases hy
    | some x => rw [q] at hy; exact ⟨x, List.mem_of_getElem? q, q, (Option.some.inj hy).symm⟩
  have key := el_lcL (K := K) (t := t) (te := te) (j := j) (vs := vs) (fun i => (l[i]?.map f).getD false) (fun i => (l[i]?.map v).getD .non) h hs (by rw [List.length_map]; exact hz) hw (fun i y H1 e1 hy => by
      obtain ⟨x, hm, q, rfl⟩ := hx i y hy
      rw [q]
      exact (ht x hm).mono e1) (fun i y H1 e1 hy hf => by
      obtain ⟨x, hm, q, rfl⟩ := hx i y hy
      rw [q] at hf ⊢
      exact (he x hm hf).mono e1)
  rw [List.length_map] at key
  rw [given_map l f v _ _ (fun i x q => by simp only [q, Option.map_some, Option.getD_some]) (fun i x q => by simp only [q, Option.map_some, Option.getD_some])] at key
  exact key
/-- over range(n) -/
theorem el_lcR {n : Nat} {tr : TA} {j : Nat} {vs : List Nat} (f : Nat → Bool) (v : Nat → V) (h : EvA tr σ H [.int (n : Int)]) (hn : n ≤ 40000) (hw : ∀ x, wipe ((wipe σ vs).set j (some x)) vs = wipe σ vs)
    (ht : ∀ i, i < n → EvT t ((wipe σ vs).set j (some (.int (i : Int)))) H (f i)) (he : ∀ i, i < n → f i = true → Ev te ((wipe σ vs).set j (some (.int (i : Int)))) H (v i)) :
    EvL (tLc (iRng1 tr) (gName j) t te vs) σ H (((List.range n).filter f).map v) := by
  have key := el_lcR1 (t := t) (te := te) (j := j) (vs := vs) f v h ⟨by omega, by omega⟩ hw (fun i H1 e1 hi => (ht i (by omega)).mono e1) (fun i H1 e1 hi hf => (he i (by omega) hf).mono e1)
  exact key
theorem et_yes : EvT tYes σ H true := fun H1 _ _ q => q H1 (Ex.refl H1)
end
theorem filter_yes {α : Type} (l : List α) : l.filter (fun _ => true) = l := by
  induction l with
  | nil => rfl
  | cons a l ih => rw [List.filter_cons, if_pos rfl, ih]
theorem any_map_id {α : Type} (l : List α) (f : α → Bool) : (l.map f).any id = l.any f := by
  rw [List.any_map]
  rfl
theorem all_map_id {α : Type} (l : List α) (f : α → Bool) : (l.map f).all id = l.all f := by
  rw [List.all_map]
  rfl
end Cg

/-! The objects in the heap: streams, crossings, the two crossings; what the top has written. -/
namespace Cg
open PySem PySem.Spec PyProof.Rows L2 Evl
structure Txt (K : PySem.W.Frag) (mg : Str → Option Value) (CS CC CX : Addr) : Prop where
  cS : Cls K CS
  cC : Cls K CC
  cX : Cls K CX
  nS_ring : NoAttr K CS "ring"
  nS_group : NoAttr K CS "group"
  nS_least : NoAttr K CS "least"
  nS_gap : NoAttr K CS "gap"
  nS_most : NoAttr K CS "most"
  nS_yellow_time : NoAttr K CS "yellow_time"
  nS_red_time : NoAttr K CS "red_time"
  nS_walk_time : NoAttr K CS "walk_time"
  nS_clear_time : NoAttr K CS "clear_time"
  nS_mode : NoAttr K CS "mode"
  nS_colour : NoAttr K CS "colour"
  nS_time : NoAttr K CS "time"
  nS_rest : NoAttr K CS "rest"
  nS_waited : NoAttr K CS "waited"
  nS_let_go : NoAttr K CS "let_go"
  nS_car : NoAttr K CS "car"
  nS_button : NoAttr K CS "button"
  nC_streams : NoAttr K CC "streams"
  nC_group : NoAttr K CC "group"
  nC_lasts : NoAttr K CC "lasts"
  nC_cars : NoAttr K CC "cars"
  nC_first : NoAttr K CC "first"
  nX_both : NoAttr K CX "both"
  k_RED : ∃ u, mg "RED" = some u ∧ RelV (.int ((0 : Nat) : Int)) u
  k_GREEN : ∃ u, mg "GREEN" = some u ∧ RelV (.int ((1 : Nat) : Int)) u
  k_YELLOW : ∃ u, mg "YELLOW" = some u ∧ RelV (.int ((2 : Nat) : Int)) u
  k_CLEARING : ∃ u, mg "CLEARING" = some u ∧ RelV (.int ((3 : Nat) : Int)) u
  k_MOST_RING : ∃ u, mg "MOST_RING" = some u ∧ RelV (.int ((3 : Nat) : Int)) u
  k_MOST_GROUP : ∃ u, mg "MOST_GROUP" = some u ∧ RelV (.int ((7 : Nat) : Int)) u
  k_MOST_MODE : ∃ u, mg "MOST_MODE" = some u ∧ RelV (.int ((7 : Nat) : Int)) u
  k_ALWAYS : ∃ u, mg "ALWAYS" = some u ∧ RelV (.int ((1 : Nat) : Int)) u
  k_TILL_MOST : ∃ u, mg "TILL_MOST" = some u ∧ RelV (.int ((2 : Nat) : Int)) u
  k_CARS_KEPT : ∃ u, mg "CARS_KEPT" = some u ∧ RelV (.int ((4 : Nat) : Int)) u
  k_RINGS : ∃ u, mg "RINGS" = some u ∧ RelV (.int ((4 : Nat) : Int)) u
  k_GROUPS : ∃ u, mg "GROUPS" = some u ∧ RelV (.int ((8 : Nat) : Int)) u
  k_NONE : ∃ u, mg "NONE" = some u ∧ RelV (.int (-1)) u
  k_BEGIN : ∃ u, mg "BEGIN" = some u ∧ RelV (.int ((0 : Nat) : Int)) u
  k_STEP : ∃ u, mg "STEP" = some u ∧ RelV (.int ((1 : Nat) : Int)) u
  k_MOST_STREAMS : ∃ u, mg "MOST_STREAMS" = some u ∧ RelV (.int ((16 : Nat) : Int)) u
  k_NUMBERS : ∃ u, mg "NUMBERS" = some u ∧ RelV (.int ((10 : Nat) : Int)) u
  k_NO_STREAMS : ∃ u, mg "NO_STREAMS" = some u ∧ RelV (.int (-2)) u
  k_NOT_BEGUN : ∃ u, mg "NOT_BEGUN" = some u ∧ RelV (.int (-9)) u
  b_all : mg "all" = none
  b_any : mg "any" = none
  b_enumerate : mg "enumerate" = none
  b_int : mg "int" = none
  b_len : mg "len" = none
  b_list : mg "list" = none
  b_max : mg "max" = none
  b_range : mg "range" = none
  b_sum : mg "sum" = none

/-! ### attributes by their places -/
def at1 : List Str → Str → Option Nat
  | [], _ => none
  | a :: r, k => if (k == a) = true then some 0 else (at1 r k).map (· + 1)
theorem zip_look : ∀ {ks : List Str} {vs : List V} {k : Str} {i : Nat}, at1 ks k = some i → (ks.zip vs).lookup k = vs[i]?
  | [], _, _, _, h => by cases h
  | a :: r, [], k, i, h => by rw [List.zip_nil_right]; rfl
  | a :: r, v :: vs, k, i, h => by
    unfold at1 at h
    by_cases e : (k == a) = true
    · rw [if_pos e] at h
      cases h
      simp only [List.zip_cons_cons, List.lookup, e]
      rfl
    · rw [if_neg e] at h
      have e' : (k == a) = false := by simpa using e
      cases q : at1 r k with
      | none => rw [q] at h; cases h
      | some j =>
        rw [q] at h
        cases h
        simp only [List.zip_cons_cons, List.lookup, e']
        exact zip_look q
theorem zip_none : ∀ {ks : List Str} {vs : List V} {k : Str}, at1 ks k = none → (ks.zip vs).lookup k = none
  | [], _, _, h => by rw [List.zip_nil_left]; rfl
  | a :: r, [], k, h => by rw [List.zip_nil_right]; rfl
  | a :: r, v :: vs, k, h => by
    unfold at1 at h
    by_cases e : (k == a) = true
    · rw [if_pos e] at h
      cases h
    · rw [if_neg e] at h
      have e' : (k == a) = false := by simpa using e
      cases q : at1 r k with
      | none =>
        simp only [List.zip_cons_cons, List.lookup, e']
        exact zip_none q
      | some j => rw [q] at h; cases h
theorem zip_put : ∀ {ks : List Str} {vs : List V} {k : Str} {i : Nat} {v : V}, at1 ks k = some i → i < vs.length → putF k v (ks.zip vs) = ks.zip (vs.set i v)
  | [], _, _, _, _, h, _ => by cases h
  | a :: r, [], k, i, v, h, hi => absurd hi (Nat.not_lt_zero _)
  | a :: r, u :: vs, k, i, v, h, hi => by
    unfold at1 at h
    by_cases e : (k == a) = true
    · rw [if_pos e] at h
      cases h
      have ea : k = a := eq_of_beq e
      subst ea
      show (if k = k then (k, v) :: r.zip vs else (k, u) :: putF k v (r.zip vs)) = _
      rw [if_pos rfl]
      rfl
    · rw [if_neg e] at h
      cases q : at1 r k with
      | none => rw [q] at h; cases h
      | some j =>
        rw [q] at h
        cases h
        have e1 : putF k v ((a, u) :: r.zip vs) = (a, u) :: putF k v (r.zip vs) := if_neg fun z => e (by rw [z]; exact beq_self_eq_true k)
        rw [List.zip_cons_cons, e1, zip_put q (Nat.lt_of_succ_lt_succ hi)]
        rfl
theorem zip_new : ∀ {ks : List Str} {vs : List V} {k : Str} {v : V}, at1 ks k = none → ks.length = vs.length → putF k v (ks.zip vs) = (ks ++ [k]).zip (vs ++ [v])
  | [], [], k, v, _, _ => rfl
  | [], _ :: _, _, _, _, h => by cases h
  | _ :: _, [], _, _, _, h => by cases h
  | a :: r, u :: vs, k, v, h, hl => by
    unfold at1 at h
    by_cases e : (k == a) = true
    · rw [if_pos e] at h
      cases h
    · rw [if_neg e] at h
      cases q : at1 r k with
      | some j => rw [q] at h; cases h
      | none =>
        have e1 : putF k v ((a, u) :: r.zip vs) = (a, u) :: putF k v (r.zip vs) := if_neg fun z => e (by rw [z]; exact beq_self_eq_true k)
        rw [List.zip_cons_cons, e1, zip_new q (Nat.succ.inj hl)]
        rfl
/-! ### streams -/
section
variable {P : Program} {w : World} {K : PySem.W.Frag} {mg : Str → Option Value} {base : Heap} {CS CC CX a : Addr} {s : SM} {σ : L2.St} {H H' : Hp} {ta tb te : TE} {t : TT} {x y z v : V} {r : R2}
def sKeys : List Str := ["ring", "group", "least", "gap", "most", "yellow_time", "red_time", "walk_time", "clear_time", "mode", "colour", "time", "rest", "waited", "let_go", "car", "button"]
def sVals (s : SM) : List V := [.int (s.c.ring : Int), .int (s.c.group : Int), .int (s.c.least : Int), .int (s.c.gap : Int), .int (s.c.most : Int), .int (s.c.yellow : Int), .int (s.c.red : Int), .int (s.c.walk : Int), .int (s.c.clear : Int), .int (s.c.mode : Int), .int (s.colour : Int), .int (s.time : Int), .int (s.rest : Int), .int (s.waited : Int), .bl s.letgo, .bl s.car, .bl s.button]
def sF (s : SM) : List (Str × V) := sKeys.zip (sVals s)
def StAt (CS : Addr) (H : Hp) (a : Addr) (s : SM) : Prop := ObjAt CS H a (sF s)
theorem ev_s_ring (T : Txt K mg CS CC CX) (h : Ev ta σ H (.ref a)) (hs : StAt CS H a s) : Ev (tFld K ta "ring") σ H (.int (s.c.ring : Int)) := ev_fld h hs T.cS T.nS_ring ((zip_look (i := 0) (by decide +kernel)).trans rfl)
theorem ev_s_group (T : Txt K mg CS CC CX) (h : Ev ta σ H (.ref a)) (hs : StAt CS H a s) : Ev (tFld K ta "group") σ H (.int (s.c.group : Int)) := ev_fld h hs T.cS T.nS_group ((zip_look (i := 1) (by decide +kernel)).trans rfl)
theorem ev_s_least (T : Txt K mg CS CC CX) (h : Ev ta σ H (.ref a)) (hs : StAt CS H a s) : Ev (tFld K ta "least") σ H (.int (s.c.least : Int)) := ev_fld h hs T.cS T.nS_least ((zip_look (i := 2) (by decide +kernel)).trans rfl)
theorem ev_s_gap (T : Txt K mg CS CC CX) (h : Ev ta σ H (.ref a)) (hs : StAt CS H a s) : Ev (tFld K ta "gap") σ H (.int (s.c.gap : Int)) := ev_fld h hs T.cS T.nS_gap ((zip_look (i := 3) (by decide +kernel)).trans rfl)
theorem ev_s_most (T : Txt K mg CS CC CX) (h : Ev ta σ H (.ref a)) (hs : StAt CS H a s) : Ev (tFld K ta "most") σ H (.int (s.c.most : Int)) := ev_fld h hs T.cS T.nS_most ((zip_look (i := 4) (by decide +kernel)).trans rfl)
theorem ev_s_yellow_time (T : Txt K mg CS CC CX) (h : Ev ta σ H (.ref a)) (hs : StAt CS H a s) : Ev (tFld K ta "yellow_time") σ H (.int (s.c.yellow : Int)) := ev_fld h hs T.cS T.nS_yellow_time ((zip_look (i := 5) (by decide +kernel)).trans rfl)
theorem ev_s_red_time (T : Txt K mg CS CC CX) (h : Ev ta σ H (.ref a)) (hs : StAt CS H a s) : Ev (tFld K ta "red_time") σ H (.int (s.c.red : Int)) := ev_fld h hs T.cS T.nS_red_time ((zip_look (i := 6) (by decide +kernel)).trans rfl)
theorem ev_s_walk_time (T : Txt K mg CS CC CX) (h : Ev ta σ H (.ref a)) (hs : StAt CS H a s) : Ev (tFld K ta "walk_time") σ H (.int (s.c.walk : Int)) := ev_fld h hs T.cS T.nS_walk_time ((zip_look (i := 7) (by decide +kernel)).trans rfl)
theorem ev_s_clear_time (T : Txt K mg CS CC CX) (h : Ev ta σ H (.ref a)) (hs : StAt CS H a s) : Ev (tFld K ta "clear_time") σ H (.int (s.c.clear : Int)) := ev_fld h hs T.cS T.nS_clear_time ((zip_look (i := 8) (by decide +kernel)).trans rfl)
theorem ev_s_mode (T : Txt K mg CS CC CX) (h : Ev ta σ H (.ref a)) (hs : StAt CS H a s) : Ev (tFld K ta "mode") σ H (.int (s.c.mode : Int)) := ev_fld h hs T.cS T.nS_mode ((zip_look (i := 9) (by decide +kernel)).trans rfl)
theorem ev_s_colour (T : Txt K mg CS CC CX) (h : Ev ta σ H (.ref a)) (hs : StAt CS H a s) : Ev (tFld K ta "colour") σ H (.int (s.colour : Int)) := ev_fld h hs T.cS T.nS_colour ((zip_look (i := 10) (by decide +kernel)).trans rfl)
theorem ev_s_time (T : Txt K mg CS CC CX) (h : Ev ta σ H (.ref a)) (hs : StAt CS H a s) : Ev (tFld K ta "time") σ H (.int (s.time : Int)) := ev_fld h hs T.cS T.nS_time ((zip_look (i := 11) (by decide +kernel)).trans rfl)
theorem ev_s_rest (T : Txt K mg CS CC CX) (h : Ev ta σ H (.ref a)) (hs : StAt CS H a s) : Ev (tFld K ta "rest") σ H (.int (s.rest : Int)) := ev_fld h hs T.cS T.nS_rest ((zip_look (i := 12) (by decide +kernel)).trans rfl)
theorem ev_s_waited (T : Txt K mg CS CC CX) (h : Ev ta σ H (.ref a)) (hs : StAt CS H a s) : Ev (tFld K ta "waited") σ H (.int (s.waited : Int)) := ev_fld h hs T.cS T.nS_waited ((zip_look (i := 13) (by decide +kernel)).trans rfl)
theorem ev_s_let_go (T : Txt K mg CS CC CX) (h : Ev ta σ H (.ref a)) (hs : StAt CS H a s) : Ev (tFld K ta "let_go") σ H (.bl s.letgo) := ev_fld h hs T.cS T.nS_let_go ((zip_look (i := 14) (by decide +kernel)).trans rfl)
theorem ev_s_car (T : Txt K mg CS CC CX) (h : Ev ta σ H (.ref a)) (hs : StAt CS H a s) : Ev (tFld K ta "car") σ H (.bl s.car) := ev_fld h hs T.cS T.nS_car ((zip_look (i := 15) (by decide +kernel)).trans rfl)
theorem ev_s_button (T : Txt K mg CS CC CX) (h : Ev ta σ H (.ref a)) (hs : StAt CS H a s) : Ev (tFld K ta "button") σ H (.bl s.button) := ev_fld h hs T.cS T.nS_button ((zip_look (i := 16) (by decide +kernel)).trans rfl)

theorem StAt.mono (e : Ex H H') (h : StAt CS H a s) : StAt CS H' a s := ObjAt.mono e h
theorem s_no {m : Str} (h : at1 sKeys m = none) : (sF s).lookup m = none := zip_none h
theorem sF_len (s : SM) : (sF s).length = 17 := rfl
/-- an attribute stored anew -/
theorem s_put {f : Str} {i : Nat} {v : V} {D : Ends} {tv : TE} {s' : SM} (hs : StAt CS H a s) (hc : Cls K CS) (hn : NoAttr K CS f) (hi : at1 sKeys f = some i) (hv : Ev tv σ H v) (ha : Ev ta σ H (.ref a)) (hi' : i < 17) (e : (sVals s).set i v = sVals s')
    (q : ∀ H', StAt CS H' a s' → Fr (· = a) H H' → D.nx σ H') : sFld K ta tv f D σ H := by
  obtain ⟨dx, hs⟩ := hs
  refine hv H (Ex.refl H) _ fun H1 e1 => ?_
  refine ha H1 e1 _ fun H2 e2 => ?_
  refine ⟨a, CS, dx, _, rfl, e2 _ _ (e1 _ _ hs), hc, hn, (by rw [sF_len]; decide), ?_⟩
  refine q _ ⟨dx, ?_⟩ ((Fr.of (e1.trans e2)).trans (Fr.upd rfl))
  rw [upd_same]
  show some (HO.ins CS dx (putF f v (sKeys.zip (sVals s)))) = some (HO.ins CS dx (sKeys.zip (sVals s')))
  rw [zip_put hi (show i < (sVals s).length from hi'), e]
theorem put_s_colour (T : Txt K mg CS CC CX) (n : Nat) {D : Ends} {tv : TE} (hs : StAt CS H a s) (hv : Ev tv σ H (.int (n : Int))) (ha : Ev ta σ H (.ref a)) (q : ∀ H', StAt CS H' a { s with colour := n } → Fr (· = a) H H' → D.nx σ H') : sFld K ta tv "colour" D σ H := s_put hs T.cS T.nS_colour (i := 10) (by decide +kernel) hv ha (by decide) rfl q
theorem put_s_time (T : Txt K mg CS CC CX) (n : Nat) {D : Ends} {tv : TE} (hs : StAt CS H a s) (hv : Ev tv σ H (.int (n : Int))) (ha : Ev ta σ H (.ref a)) (q : ∀ H', StAt CS H' a { s with time := n } → Fr (· = a) H H' → D.nx σ H') : sFld K ta tv "time" D σ H := s_put hs T.cS T.nS_time (i := 11) (by decide +kernel) hv ha (by decide) rfl q
theorem put_s_rest (T : Txt K mg CS CC CX) (n : Nat) {D : Ends} {tv : TE} (hs : StAt CS H a s) (hv : Ev tv σ H (.int (n : Int))) (ha : Ev ta σ H (.ref a)) (q : ∀ H', StAt CS H' a { s with rest := n } → Fr (· = a) H H' → D.nx σ H') : sFld K ta tv "rest" D σ H := s_put hs T.cS T.nS_rest (i := 12) (by decide +kernel) hv ha (by decide) rfl q
theorem put_s_waited (T : Txt K mg CS CC CX) (n : Nat) {D : Ends} {tv : TE} (hs : StAt CS H a s) (hv : Ev tv σ H (.int (n : Int))) (ha : Ev ta σ H (.ref a)) (q : ∀ H', StAt CS H' a { s with waited := n } → Fr (· = a) H H' → D.nx σ H') : sFld K ta tv "waited" D σ H := s_put hs T.cS T.nS_waited (i := 13) (by decide +kernel) hv ha (by decide) rfl q
theorem put_s_let_go (T : Txt K mg CS CC CX) (n : Bool) {D : Ends} {tv : TE} (hs : StAt CS H a s) (hv : Ev tv σ H (.bl n)) (ha : Ev ta σ H (.ref a)) (q : ∀ H', StAt CS H' a { s with letgo := n } → Fr (· = a) H H' → D.nx σ H') : sFld K ta tv "let_go" D σ H := s_put hs T.cS T.nS_let_go (i := 14) (by decide +kernel) hv ha (by decide) rfl q
theorem put_s_car (T : Txt K mg CS CC CX) (n : Bool) {D : Ends} {tv : TE} (hs : StAt CS H a s) (hv : Ev tv σ H (.bl n)) (ha : Ev ta σ H (.ref a)) (q : ∀ H', StAt CS H' a { s with car := n } → Fr (· = a) H H' → D.nx σ H') : sFld K ta tv "car" D σ H := s_put hs T.cS T.nS_car (i := 15) (by decide +kernel) hv ha (by decide) rfl q
theorem put_s_button (T : Txt K mg CS CC CX) (n : Bool) {D : Ends} {tv : TE} (hs : StAt CS H a s) (hv : Ev tv σ H (.bl n)) (ha : Ev ta σ H (.ref a)) (q : ∀ H', StAt CS H' a { s with button := n } → Fr (· = a) H H' → D.nx σ H') : sFld K ta tv "button" D σ H := s_put hs T.cS T.nS_button (i := 16) (by decide +kernel) hv ha (by decide) rfl q

theorem s_aug {f : Str} {i : Nat} {x v y : V} {D : Ends} {tv : TE} {s' : SM} {rd : V → V → Hp → VK → Prop} (hs : StAt CS H a s) (hc : Cls K CS) (hn : NoAttr K CS f) (hi : at1 sKeys f = some i) (hx : (sVals s)[i]? = some x) (hv : Ev tv σ H y) (hr : ∀ H1, ∀ Q : VK, Q v H1 → rd x y H1 Q) (ha : Ev ta σ H (.ref a)) (hi' : i < 17) (e : (sVals s).set i v = sVals s')
    (q : ∀ H', StAt CS H' a s' → Fr (· = a) H H' → D.nx σ H') : sFldAug K ta tv rd f D σ H := by
  obtain ⟨dx, hs⟩ := hs
  refine ha H (Ex.refl H) _ fun H1 e1 => ?_
  refine ⟨a, CS, dx, _, x, rfl, e1 _ _ hs, hc, hn, (zip_look hi).trans hx, ?_⟩
  refine hv H1 e1 _ fun H2 e2 => ?_
  refine hr H2 _ ⟨dx, _, e2 _ _ (e1 _ _ hs), (by rw [sF_len]; decide), ?_⟩
  refine q _ ⟨dx, ?_⟩ ((Fr.of (e1.trans e2)).trans (Fr.upd rfl))
  rw [upd_same]
  show some (HO.ins CS dx (putF f v (sKeys.zip (sVals s)))) = some (HO.ins CS dx (sKeys.zip (sVals s')))
  rw [zip_put hi (show i < (sVals s).length from hi'), e]
end
end Cg

/-! Streams: what is only asked of them. -/
namespace Cg
open PySem PySem.Spec PyProof.Rows L2 Evl
/-! ### bits -/
theorem land_bit (n i : Nat) : (0 < n &&& 2 ^ i) ↔ n.testBit i = true := by
  constructor
  · intro h
    obtain ⟨j, hj⟩ := Nat.exists_testBit_of_ne_zero (x := n &&& 2 ^ i) (by omega)
    rw [Nat.testBit_and, Nat.testBit_two_pow, Bool.and_eq_true, decide_eq_true_eq] at hj
    rw [hj.2]
    exact hj.1
  · intro h
    refine Nat.pos_of_ne_zero fun z => ?_
    have q : (n &&& 2 ^ i).testBit i = true := by rw [Nat.testBit_and, h, Nat.testBit_two_pow_self] <;> rfl
    rw [z, Nat.zero_testBit] at q
    cases q
theorem land_nat (a b : Nat) : Builtin.bitAnd (a : Int) (b : Int) = ((a &&& b : Nat) : Int) := by
  rw [bitAnd_pp (Int.natCast_nonneg a) (Int.natCast_nonneg b), Int.toNat_natCast, Int.toNat_natCast]
theorem mode_bit (n i : Nat) : decide ((0 : Int) < Builtin.bitAnd (n : Int) ((2 ^ i : Nat) : Int)) = n.testBit i := by
  rw [land_nat]
  cases h : n.testBit i with
  | true => exact decide_eq_true (by have := (land_bit n i).mpr h; omega)
  | false =>
    refine decide_eq_false fun q => ?_
    have z := (land_bit n i).mp (Int.ofNat_lt.mp q)
    rw [h] at z
    cases z
theorem mode_two (n : Nat) : decide ((0 : Int) < Builtin.bitAnd (n : Int) (Builtin.bitOr ((1 : Nat) : Int) ((2 : Nat) : Int))) = (n.testBit 0 || n.testBit 1) := by
  have e3 : Builtin.bitOr ((1 : Nat) : Int) ((2 : Nat) : Int) = ((3 : Nat) : Int) := by decide +kernel
  rw [e3, land_nat, show (3 : Nat) = 2 ^ 2 - 1 from rfl, Nat.and_two_pow_sub_one_eq_mod]
  have h0 : n.testBit 0 = decide (n % 2 = 1) := Nat.testBit_zero n
  have h1 : n.testBit 1 = decide (n / 2 % 2 = 1) := by rw [Nat.testBit_succ, Nat.testBit_zero]
  rw [h0, h1]
  by_cases q : n % 2 = 1
  · rw [decide_eq_true q, decide_eq_true (by omega)]
    rfl
  · rw [decide_eq_false q]
    by_cases z : n / 2 % 2 = 1
    · rw [decide_eq_true z, decide_eq_true (by omega)]
      rfl
    · rw [decide_eq_false z, decide_eq_false (by omega)]
      rfl
/-! ### words for one expression after another -/
local macro_rules | `(tactic| walk_at "rv") => `(tactic| first
  | with_reducible exact rv_eqn | with_reducible exact rv_nen | with_reducible exact rv_ltn | with_reducible exact rv_len | with_reducible exact rv_gtn | with_reducible exact rv_gen | with_reducible exact rv_addn
  | with_reducible exact rv_eq0 | with_reducible exact rv_eq1 | with_reducible exact rv_gt0 | with_reducible exact rv_noneEq | with_reducible exact rv_noneNe | with_reducible exact rv_firstEq | with_reducible exact rv_firstNe | exact rv_I0)
local macro_rules | `(tactic| walk_at "fld") => `(tactic| first
  | with_reducible apply ev_s_colour (by assumption) | with_reducible apply ev_s_time (by assumption) | with_reducible apply ev_s_let_go (by assumption) | with_reducible apply ev_s_mode (by assumption) | with_reducible apply ev_s_ring (by assumption) | with_reducible apply ev_s_group (by assumption)
  | with_reducible apply ev_s_walk_time (by assumption) | with_reducible apply ev_s_clear_time (by assumption) | with_reducible apply ev_s_rest (by assumption) | with_reducible apply ev_s_waited (by assumption) | with_reducible apply ev_s_car (by assumption) | with_reducible apply ev_s_button (by assumption)
  | with_reducible apply ev_s_least (by assumption) | with_reducible apply ev_s_gap (by assumption) | with_reducible apply ev_s_most (by assumption) | with_reducible apply ev_s_yellow_time (by assumption) | with_reducible apply ev_s_red_time (by assumption))
local macro_rules | `(tactic| walk_at "ev") => `(tactic| first
  | with_reducible exact ev_c
  | ((with_reducible apply ev_ceq); exact rfl)
  | ((with_reducible apply ev_var); exact rfl)
  | ((with_reducible apply ev_andV); walk_at "ev"; (intro _; walk_at "ev"))
  | ((with_reducible apply ev_orV); walk_at "ev"; (intro _; walk_at "ev"))
  | ((with_reducible apply ev_notV); walk_at "ev")
  | walk_at "evm"
  | ((with_reducible apply ev_op); walk_at "ev"; walk_at "ev"; walk_at "rv")
  | ((with_reducible apply ev_chain); walk_at "ev"; walk_at "ev"; walk_at "rv"; (intro _; walk_at "ev"); (intro _; walk_at "rv"))
  | (walk_at "fld"; walk_at "ev"; assumption))
local macro_rules | `(tactic| walk_at "et") => `(tactic| first
  | with_reducible exact et_yes
  | ((with_reducible apply et_and); walk_at "et"; (intro _; walk_at "et"))
  | ((with_reducible apply et_or); walk_at "et"; (intro _; walk_at "et"))
  | ((with_reducible apply et_not); walk_at "et")
  | ((with_reducible apply et_test); walk_at "ev")
  | ((with_reducible apply et_B); walk_at "ev"))
section
variable {P : Program} {w : World} {K : PySem.W.Frag} {mg : Str → Option Value} {base : Heap} {CS CC CX a : Addr} {s : SM} {σ : L2.St} {H H' : Hp} {ta tb te : TE} {E : XK}
/-- what a stream is asked -/
def rS (CS : Addr) (g : SM → V) : List V → Hp → V → Prop := fun vs H v => ∃ a s, vs = [.ref a] ∧ StAt CS H a s ∧ v = g s
theorem len_rS {g : SM → V} : ∀ vs H Q E, spV (rS CS g) vs H Q E → vs.length = 1 := spV_len fun vs H v ⟨_, _, e, _⟩ => by rw [e]; rfl
theorem ev_rS {g : SM → V} {m : Str} (hm : at1 sKeys m = none) (h : Ev ta σ H (.ref a)) (hs : StAt CS H a s) : Ev (tMeth CS m (spV (rS CS g)) [] E ta tNil) σ H (g s) :=
  ev_methV h hs (s_no hm) ea_nil fun H1 e1 => ⟨a, s, rfl, hs.mono e1, rfl⟩
theorem ev_till (T : Txt K mg CS CC CX) (h : Ev ta σ H (.ref a)) (hs : StAt CS H a s) : Ev (tOp (rI0 fun i j => .bl (decide (j < i))) (tOp (rI0 fun i j => .int (Builtin.bitAnd i j)) (tFld K ta "mode") (tC (.int ((2 : Nat) : Int)))) (tC (.int 0))) σ H (.bl s.c.tillMost) :=
  ev_is (ev_op (ev_op (ev_s_mode T h hs) ev_c rv_I0) ev_c rv_I0) (congrArg V.bl (mode_bit s.c.mode 1))
theorem ev_keeps (T : Txt K mg CS CC CX) (h : Ev ta σ H (.ref a)) (hs : StAt CS H a s) : Ev (tOp (rI0 fun i j => .bl (decide (j < i))) (tOp (rI0 fun i j => .int (Builtin.bitAnd i j)) (tFld K ta "mode") (tC (.int ((4 : Nat) : Int)))) (tC (.int 0))) σ H (.bl s.c.remembers) :=
  ev_is (ev_op (ev_op (ev_s_mode T h hs) ev_c rv_I0) ev_c rv_I0) (congrArg V.bl (mode_bit s.c.mode 2))
theorem ev_always (T : Txt K mg CS CC CX) (h : Ev ta σ H (.ref a)) (hs : StAt CS H a s) : Ev (tOp (rI0 fun i j => .bl (decide (j < i))) (tOp (rI0 fun i j => .int (Builtin.bitAnd i j)) (tFld K ta "mode") (tOp (rI0 fun i j => .int (Builtin.bitOr i j)) (tC (.int ((1 : Nat) : Int))) (tC (.int ((2 : Nat) : Int))))) (tC (.int 0))) σ H (.bl s.c.always) :=
  ev_is (ev_op (ev_op (ev_s_mode T h hs) (ev_op ev_c ev_c rv_I0) rv_I0) ev_c rv_I0) (congrArg V.bl (mode_two s.c.mode))
abbrev sp_S_has_walkers (CS : Addr) : Sp := spV (rS CS fun s => .bl s.walkers)
abbrev sp_S_has_clearers (CS : Addr) : Sp := spV (rS CS fun s => .bl s.clearers)
abbrev sp_S_is_always_called (CS : Addr) : Sp := spV (rS CS fun s => .bl s.c.always)
abbrev sp_S_is_till_most (CS : Addr) : Sp := spV (rS CS fun s => .bl s.c.tillMost)
abbrev sp_S_are_people_over (CS : Addr) : Sp := spV (rS CS fun s => .bl s.peopleOver)
abbrev sp_S_is_due (CS : Addr) : Sp := spV (rS CS fun s => .bl s.due)
theorem len_S_has_walkers : ∀ vs H Q E, sp_S_has_walkers CS vs H Q E → vs.length = 1 := len_rS
theorem len_S_has_clearers : ∀ vs H Q E, sp_S_has_clearers CS vs H Q E → vs.length = 1 := len_rS
theorem len_S_is_always_called : ∀ vs H Q E, sp_S_is_always_called CS vs H Q E → vs.length = 1 := len_rS
theorem len_S_is_till_most : ∀ vs H Q E, sp_S_is_till_most CS vs H Q E → vs.length = 1 := len_rS
theorem len_S_are_people_over : ∀ vs H Q E, sp_S_are_people_over CS vs H Q E → vs.length = 1 := len_rS
theorem len_S_is_due : ∀ vs H Q E, sp_S_is_due CS vs H Q E → vs.length = 1 := len_rS
theorem em_has_walkers (h : Ev ta σ H (.ref a)) (hs : StAt CS H a s) : Ev (tMeth CS "has_walkers" (sp_S_has_walkers CS) [] E ta tNil) σ H (.bl s.walkers) := ev_rS (by decide +kernel) h hs
theorem em_has_clearers (h : Ev ta σ H (.ref a)) (hs : StAt CS H a s) : Ev (tMeth CS "has_clearers" (sp_S_has_clearers CS) [] E ta tNil) σ H (.bl s.clearers) := ev_rS (by decide +kernel) h hs
theorem em_is_always_called (h : Ev ta σ H (.ref a)) (hs : StAt CS H a s) : Ev (tMeth CS "is_always_called" (sp_S_is_always_called CS) [] E ta tNil) σ H (.bl s.c.always) := ev_rS (by decide +kernel) h hs
theorem em_is_till_most (h : Ev ta σ H (.ref a)) (hs : StAt CS H a s) : Ev (tMeth CS "is_till_most" (sp_S_is_till_most CS) [] E ta tNil) σ H (.bl s.c.tillMost) := ev_rS (by decide +kernel) h hs
theorem em_are_people_over (h : Ev ta σ H (.ref a)) (hs : StAt CS H a s) : Ev (tMeth CS "are_people_over" (sp_S_are_people_over CS) [] E ta tNil) σ H (.bl s.peopleOver) := ev_rS (by decide +kernel) h hs
theorem em_is_due (h : Ev ta σ H (.ref a)) (hs : StAt CS H a s) : Ev (tMeth CS "is_due" (sp_S_is_due CS) [] E ta tNil) σ H (.bl s.due) := ev_rS (by decide +kernel) h hs
local macro_rules | `(tactic| walk_at "evm") => `(tactic| first
  | ((with_reducible apply ev_till (by assumption)); walk_at "ev"; assumption)
  | ((with_reducible apply ev_keeps (by assumption)); walk_at "ev"; assumption)
  | ((with_reducible apply ev_always (by assumption)); walk_at "ev"; assumption)
  | ((with_reducible apply em_has_walkers); walk_at "ev"; assumption)
  | ((with_reducible apply em_is_till_most); walk_at "ev"; assumption))
abbrev s_S_has_walkers : Stmt := inClass (top 15) 3
theorem sc_S_has_walkers : FnScope ["self"] ["self"] (defScope s_S_has_walkers) := ⟨rfl, rfl, rfl, by decide +kernel, rfl, by decide +kernel, by decide +kernel⟩
theorem ok_S_has_walkers {f : Addr} {fd : FuncData} (F : Fun K "has_walkers" "Stream.has_walkers" s_S_has_walkers f fd) (me : Meth K CS "has_walkers" f) (T : Txt K mg CS CC CX) : Met P w K mg base 1 CS "has_walkers" (sp_S_has_walkers CS) := by
  have b : Binds K fd ["self"] [] := F.binds (ps := ["self"]) fun _ _ _ _ _ _ us hl => match us, hl with | [_], _ => rfl
  refine met_of T.cS me F b sc_S_has_walkers len_S_has_walkers (fun cdv A outer s H vs Q E hr h => ?_)
  obtain ⟨v, ⟨a, s, rfl, hs, rfl⟩, q⟩ := h
  refine ⟨_, (pss_one (ps_ret (pe_and (pe_cmpR op_eq (pe_fld (pv 0) rfl) (pe_k T.k_GREEN (by rfl)) (nomark _)) (pe_and (pe_fld (pv 0) rfl) (pe_one (pe_cmpR op_lt (pe_fld (pv 0) rfl) (pe_fld (pv 0) rfl) (nomark _))))))), ?_⟩
  dsimp only [cxOf, Cx.nox, Cx.wish]
  refine s_ret (ev_is (by walk_at "ev") ?_) q
  rfl
abbrev s_S_is_always_called : Stmt := inClass (top 15) 1
theorem sc_S_is_always_called : FnScope ["self"] ["self"] (defScope s_S_is_always_called) := ⟨rfl, rfl, rfl, by decide +kernel, rfl, by decide +kernel, by decide +kernel⟩
theorem ok_S_is_always_called {f : Addr} {fd : FuncData} (F : Fun K "is_always_called" "Stream.is_always_called" s_S_is_always_called f fd) (me : Meth K CS "is_always_called" f) (T : Txt K mg CS CC CX) : Met P w K mg base 1 CS "is_always_called" (sp_S_is_always_called CS) := by
  have b : Binds K fd ["self"] [] := F.binds (ps := ["self"]) fun _ _ _ _ _ _ us hl => match us, hl with | [_], _ => rfl
  refine met_of T.cS me F b sc_S_is_always_called len_S_is_always_called (fun cdv A outer s H vs Q E hr h => ?_)
  obtain ⟨v, ⟨a, s, rfl, hs, rfl⟩, q⟩ := h
  refine ⟨_, (pss_one (ps_ret (pe_cmpR op_gt (pe_op op_and (pe_fld (pv 0) rfl) (pe_op op_or (pe_k T.k_ALWAYS (by rfl)) (pe_k T.k_TILL_MOST (by rfl)))) pe_int (nomark _)))), ?_⟩
  dsimp only [cxOf, Cx.nox, Cx.wish]
  exact s_ret (by walk_at "ev") q
abbrev s_S_is_till_most : Stmt := inClass (top 15) 2
theorem sc_S_is_till_most : FnScope ["self"] ["self"] (defScope s_S_is_till_most) := ⟨rfl, rfl, rfl, by decide +kernel, rfl, by decide +kernel, by decide +kernel⟩
theorem ok_S_is_till_most {f : Addr} {fd : FuncData} (F : Fun K "is_till_most" "Stream.is_till_most" s_S_is_till_most f fd) (me : Meth K CS "is_till_most" f) (T : Txt K mg CS CC CX) : Met P w K mg base 1 CS "is_till_most" (sp_S_is_till_most CS) := by
  have b : Binds K fd ["self"] [] := F.binds (ps := ["self"]) fun _ _ _ _ _ _ us hl => match us, hl with | [_], _ => rfl
  refine met_of T.cS me F b sc_S_is_till_most len_S_is_till_most (fun cdv A outer s H vs Q E hr h => ?_)
  obtain ⟨v, ⟨a, s, rfl, hs, rfl⟩, q⟩ := h
  refine ⟨_, (pss_one (ps_ret (pe_cmpR op_gt (pe_op op_and (pe_fld (pv 0) rfl) (pe_k T.k_TILL_MOST (by rfl))) pe_int (nomark _)))), ?_⟩
  dsimp only [cxOf, Cx.nox, Cx.wish]
  exact s_ret (by walk_at "ev") q
abbrev s_S_has_clearers : Stmt := inClass (top 15) 4
theorem sc_S_has_clearers : FnScope ["self"] ["self"] (defScope s_S_has_clearers) := ⟨rfl, rfl, rfl, by decide +kernel, rfl, by decide +kernel, by decide +kernel⟩
theorem ok_S_has_clearers {f : Addr} {fd : FuncData} (F : Fun K "has_clearers" "Stream.has_clearers" s_S_has_clearers f fd) (me : Meth K CS "has_clearers" f) (T : Txt K mg CS CC CX) : Met P w K mg base 1 CS "has_clearers" (sp_S_has_clearers CS) := by
  have b : Binds K fd ["self"] [] := F.binds (ps := ["self"]) fun _ _ _ _ _ _ us hl => match us, hl with | [_], _ => rfl
  refine met_of T.cS me F b sc_S_has_clearers len_S_has_clearers (fun cdv A outer s H vs Q E hr h => ?_)
  obtain ⟨v, ⟨a, s, rfl, hs, rfl⟩, q⟩ := h
  refine ⟨_, (pss_cons (ps_if (PW.pt (pw_or (pt_cmpR op_ne (pe_fld (pv 0) rfl) (pe_k T.k_GREEN (by rfl)) (nomark _)) (pw_or1 (pt_not (pt_val (pe_fld (pv 0) rfl)))))) (pss_one (ps_ret pe_bl)) pss_nil)
      (pss_one (ps_ret (pe_chain op_le op_lt (pe_fld (pv 0) rfl) (pe_fld (pv 0) rfl) (pe_op op_add (pe_fld (pv 0) rfl) (pe_fld (pv 0) rfl)))))), ?_⟩
  dsimp only [cxOf, Cx.nox, Cx.wish]
  have e0 : s.clearers = if (s.colour != 1 || !s.letgo) = true then false else (decide (s.c.walk ≤ s.time) && decide (s.time < s.c.walk + s.c.clear)) := by
    unfold SM.clearers
    cases h1 : s.letgo <;> by_cases h2 : s.colour = 1 <;> simp [h2]
  refine q_when (b := s.colour != 1 || !s.letgo) (et_or (et_test (by walk_at "ev")) fun _ => et_not (et_B (by walk_at "ev"))) (fun hb H1 e1 => ?_) (fun hb H1 e1 => ?_)
  · rw [if_pos hb] at e0
    exact s_ret (ev_is ev_c (congrArg V.bl e0.symm)) fun H2 e2 => q H2 (e1.trans e2)
  · rw [if_neg (by rw [hb]; decide)] at e0
    have hs1 := hs.mono e1
    exact s_ret (ev_is (by walk_at "ev") (congrArg V.bl e0.symm)) fun H2 e2 => q H2 (e1.trans e2)
abbrev s_S_are_people_over : Stmt := inClass (top 15) 9
theorem sc_S_are_people_over : FnScope ["self"] ["self"] (defScope s_S_are_people_over) := ⟨rfl, rfl, rfl, by decide +kernel, rfl, by decide +kernel, by decide +kernel⟩
theorem ok_S_are_people_over {f : Addr} {fd : FuncData} (F : Fun K "are_people_over" "Stream.are_people_over" s_S_are_people_over f fd) (me : Meth K CS "are_people_over" f) (T : Txt K mg CS CC CX) : Met P w K mg base 1 CS "are_people_over" (sp_S_are_people_over CS) := by
  have b : Binds K fd ["self"] [] := F.binds (ps := ["self"]) fun _ _ _ _ _ _ us hl => match us, hl with | [_], _ => rfl
  refine met_of T.cS me F b sc_S_are_people_over len_S_are_people_over (fun cdv A outer s H vs Q E hr h => ?_)
  obtain ⟨v, ⟨a, s, rfl, hs, rfl⟩, q⟩ := h
  refine ⟨_, (pss_one (ps_ret (pe_or (pe_not (pe_fld (pv 0) rfl)) (pe_one (pe_cmpR op_ge (pe_fld (pv 0) rfl) (pe_op op_add (pe_fld (pv 0) rfl) (pe_fld (pv 0) rfl)) (nomark _)))))), ?_⟩
  dsimp only [cxOf, Cx.nox, Cx.wish]
  refine s_ret (ev_is (by walk_at "ev") ?_) q
  rfl
abbrev s_S_is_due : Stmt := inClass (top 15) 10
theorem sc_S_is_due : FnScope ["self"] ["self"] (defScope s_S_is_due) := ⟨rfl, rfl, rfl, by decide +kernel, rfl, by decide +kernel, by decide +kernel⟩
theorem ok_S_is_due {f : Addr} {fd : FuncData} (F : Fun K "is_due" "Stream.is_due" s_S_is_due f fd) (me : Meth K CS "is_due" f) (T : Txt K mg CS CC CX) (g_S_is_till_most : Met P w K mg base 1 CS "is_till_most" (sp_S_is_till_most CS)) : Met P w K mg base 2 CS "is_due" (sp_S_is_due CS) := by
  have b : Binds K fd ["self"] [] := F.binds (ps := ["self"]) fun _ _ _ _ _ _ us hl => match us, hl with | [_], _ => rfl
  refine met_of T.cS me F b sc_S_is_due len_S_is_due (fun cdv A outer s H vs Q E hr h => ?_)
  obtain ⟨v, ⟨a, s, rfl, hs, rfl⟩, q⟩ := h
  refine ⟨_, (pss_cons (ps_if (pt_cmpR op_lt (pe_fld (pv 0) rfl) (pe_fld (pv 0) rfl) (nomark _)) (pss_one (ps_ret pe_bl)) pss_nil)
      (pss_one (ps_ret (pe_or (pe_and (pe_cmpR op_eq (pe_fld (pv 0) rfl) pe_int (nomark _)) (pe_one (pe_not (pe_m0 g_S_is_till_most hr (by decide) (pv 0))))) (pe_one (pe_cmpR op_ge (pe_fld (pv 0) rfl) (pe_fld (pv 0) rfl) (nomark _))))))), ?_⟩
  dsimp only [cxOf, Cx.nox, Cx.wish]
  refine q_when (b := decide (s.time < s.c.least)) (et_test (by walk_at "ev")) (fun hb H1 e1 => ?_) (fun hb H1 e1 => ?_)
  · have e0 : s.due = false := if_pos (of_decide_eq_true hb)
    exact s_ret (ev_is ev_c (congrArg V.bl e0.symm)) fun H2 e2 => q H2 (e1.trans e2)
  · have hs1 := hs.mono e1
    have e0 : s.due = ((s.rest == 0 && !s.c.tillMost) || decide (s.c.most ≤ s.waited)) := if_neg (of_decide_eq_false hb)
    exact s_ret (ev_is (by walk_at "ev") (congrArg V.bl e0.symm)) fun H2 e2 => q H2 (e1.trans e2)
end
end Cg

/-! Streams: what is done with them; bits. -/
namespace Cg
open PySem PySem.Spec PyProof.Rows L2 Evl
local macro_rules | `(tactic| walk_at "rv") => `(tactic| first
  | with_reducible exact rv_eqn | with_reducible exact rv_nen | with_reducible exact rv_ltn | with_reducible exact rv_len | with_reducible exact rv_gtn | with_reducible exact rv_gen | with_reducible exact rv_addn
  | with_reducible exact rv_eq0 | with_reducible exact rv_eq1 | with_reducible exact rv_gt0 | with_reducible exact rv_noneEq | with_reducible exact rv_noneNe | with_reducible exact rv_firstEq | with_reducible exact rv_firstNe | exact rv_I0)
local macro_rules | `(tactic| walk_at "fld") => `(tactic| first
  | with_reducible apply ev_s_colour (by assumption) | with_reducible apply ev_s_time (by assumption) | with_reducible apply ev_s_let_go (by assumption) | with_reducible apply ev_s_mode (by assumption) | with_reducible apply ev_s_ring (by assumption) | with_reducible apply ev_s_group (by assumption)
  | with_reducible apply ev_s_walk_time (by assumption) | with_reducible apply ev_s_clear_time (by assumption) | with_reducible apply ev_s_rest (by assumption) | with_reducible apply ev_s_waited (by assumption) | with_reducible apply ev_s_car (by assumption) | with_reducible apply ev_s_button (by assumption)
  | with_reducible apply ev_s_least (by assumption) | with_reducible apply ev_s_gap (by assumption) | with_reducible apply ev_s_most (by assumption) | with_reducible apply ev_s_yellow_time (by assumption) | with_reducible apply ev_s_red_time (by assumption))
local macro_rules | `(tactic| walk_at "ev") => `(tactic| first
  | with_reducible exact ev_c
  | ((with_reducible apply ev_ceq); exact rfl)
  | ((with_reducible apply ev_var); exact rfl)
  | ((with_reducible apply ev_andV); walk_at "ev"; (intro _; walk_at "ev"))
  | ((with_reducible apply ev_orV); walk_at "ev"; (intro _; walk_at "ev"))
  | ((with_reducible apply ev_notV); walk_at "ev")
  | walk_at "evm"
  | ((with_reducible apply ev_op); walk_at "ev"; walk_at "ev"; walk_at "rv")
  | ((with_reducible apply ev_chain); walk_at "ev"; walk_at "ev"; walk_at "rv"; (intro _; walk_at "ev"); (intro _; walk_at "rv"))
  | (walk_at "fld"; walk_at "ev"; assumption))
local macro_rules | `(tactic| walk_at "et") => `(tactic| first
  | with_reducible exact et_yes
  | ((with_reducible apply et_and); walk_at "et"; (intro _; walk_at "et"))
  | ((with_reducible apply et_or); walk_at "et"; (intro _; walk_at "et"))
  | ((with_reducible apply et_not); walk_at "et")
  | ((with_reducible apply et_test); walk_at "ev")
  | ((with_reducible apply et_B); walk_at "ev"))
section
variable {P : Program} {w : World} {K : PySem.W.Frag} {mg : Str → Option Value} {base : Heap} {CS CC CX a : Addr} {s : SM} {σ : L2.St} {H H' : Hp} {ta tb te : TE} {E : XK}
local macro_rules | `(tactic| walk_at "evm") => `(tactic| first
  | ((with_reducible apply ev_till (by assumption)); walk_at "ev"; assumption)
  | ((with_reducible apply ev_keeps (by assumption)); walk_at "ev"; assumption)
  | ((with_reducible apply em_has_walkers); walk_at "ev"; assumption)
  | ((with_reducible apply em_is_till_most); walk_at "ev"; assumption))
/-- what is done with a stream -/
def spSm (CS : Addr) (g : SM → SM) : Sp := fun vs H Q _ => ∃ a s, vs = [.ref a] ∧ StAt CS H a s ∧ ∀ H', StAt CS H' a (g s) → Fr (· = a) H H' → Q .non H'
def spSm2 (CS : Addr) (g : SM → Bool → Bool → SM) : Sp := fun vs H Q _ => ∃ a s b c, vs = [.ref a, .bl b, .bl c] ∧ StAt CS H a s ∧ ∀ H', StAt CS H' a (g s b c) → Fr (· = a) H H' → Q .non H'
theorem len_spSm {g : SM → SM} : ∀ vs H Q E, spSm CS g vs H Q E → vs.length = 1 := fun vs H Q E ⟨_, _, e, _⟩ => by rw [e]; rfl
theorem len_spSm2 {g : SM → Bool → Bool → SM} : ∀ vs H Q E, spSm2 CS g vs H Q E → vs.length = 3 := fun vs H Q E ⟨_, _, _, _, e, _⟩ => by rw [e]; rfl
abbrev sp_S_end_walk (CS : Addr) : Sp := spSm CS SM.endWalk
abbrev sp_S_end_old_colours (CS : Addr) : Sp := spSm CS SM.fade
abbrev sp_S_turn_yellow (CS : Addr) : Sp := spSm CS SM.toYellow
abbrev sp_S_turn_green (CS : Addr) : Sp := spSm CS SM.toGreen
abbrev sp_S_remember (CS : Addr) : Sp := spSm2 CS SM.remember
abbrev sp_S_run_clocks (CS : Addr) : Sp := spSm2 CS SM.tick
theorem len_S_end_walk : ∀ vs H Q E, sp_S_end_walk CS vs H Q E → vs.length = 1 := len_spSm
theorem len_S_end_old_colours : ∀ vs H Q E, sp_S_end_old_colours CS vs H Q E → vs.length = 1 := len_spSm
theorem len_S_turn_yellow : ∀ vs H Q E, sp_S_turn_yellow CS vs H Q E → vs.length = 1 := len_spSm
theorem len_S_turn_green : ∀ vs H Q E, sp_S_turn_green CS vs H Q E → vs.length = 1 := len_spSm
theorem len_S_remember : ∀ vs H Q E, sp_S_remember CS vs H Q E → vs.length = 3 := len_spSm2
theorem len_S_run_clocks : ∀ vs H Q E, sp_S_run_clocks CS vs H Q E → vs.length = 3 := len_spSm2
abbrev s_S_end_walk : Stmt := inClass (top 15) 7
theorem sc_S_end_walk : FnScope ["self"] ["self"] (defScope s_S_end_walk) := ⟨rfl, rfl, rfl, by decide +kernel, rfl, by decide +kernel, by decide +kernel⟩
theorem ok_S_end_walk {f : Addr} {fd : FuncData} (F : Fun K "end_walk" "Stream.end_walk" s_S_end_walk f fd) (me : Meth K CS "end_walk" f) (T : Txt K mg CS CC CX) (g_S_has_walkers : Met P w K mg base 1 CS "has_walkers" (sp_S_has_walkers CS)) : Met P w K mg base 2 CS "end_walk" (sp_S_end_walk CS) := by
  have b : Binds K fd ["self"] [] := F.binds (ps := ["self"]) fun _ _ _ _ _ _ us hl => match us, hl with | [_], _ => rfl
  refine met_of T.cS me F b sc_S_end_walk len_S_end_walk (fun cdv A outer s H vs Q E hr h => ?_)
  obtain ⟨a, s, rfl, hs, q⟩ := h
  refine ⟨_, (pss_one (ps_if (pt_val (pe_m0 g_S_has_walkers hr (by decide) (pv 0))) (pss_one (ps_fld (pv 0) (pe_fld (pv 0) rfl) rfl)) pss_nil)), ?_⟩
  dsimp only [cxOf, Cx.nox, Cx.wish]
  refine s_when (b := s.walkers) (by walk_at "et") (fun hb H1 e1 => ?_) (fun hb H1 e1 => ?_)
  · have hs1 := hs.mono e1
    have e0 : s.endWalk = { s with time := s.c.walk } := if_pos hb
    refine put_s_time T (s.c.walk) hs1 (ev_is (by walk_at "ev") (by rfl)) (by walk_at "ev") fun H2 h2 fr => q H2 ?_ ((Fr.of e1).trans fr)
    rw [e0]
    exact h2
  · have e0 : s.endWalk = s := if_neg (by rw [hb]; decide)
    refine q H1 ?_ (Fr.of e1)
    rw [e0]
    exact hs.mono e1
abbrev s_S_turn_yellow : Stmt := inClass (top 15) 11
theorem sc_S_turn_yellow : FnScope ["self"] ["self"] (defScope s_S_turn_yellow) := ⟨rfl, rfl, rfl, by decide +kernel, rfl, by decide +kernel, by decide +kernel⟩
theorem ok_S_turn_yellow {f : Addr} {fd : FuncData} (F : Fun K "turn_yellow" "Stream.turn_yellow" s_S_turn_yellow f fd) (me : Meth K CS "turn_yellow" f) (T : Txt K mg CS CC CX) : Met P w K mg base 1 CS "turn_yellow" (sp_S_turn_yellow CS) := by
  have b : Binds K fd ["self"] [] := F.binds (ps := ["self"]) fun _ _ _ _ _ _ us hl => match us, hl with | [_], _ => rfl
  refine met_of T.cS me F b sc_S_turn_yellow len_S_turn_yellow (fun cdv A outer s H vs Q E hr h => ?_)
  obtain ⟨a, s, rfl, hs, q⟩ := h
  refine ⟨_, (pss_cons (ps_fld (pv 0) (pe_k T.k_YELLOW (by rfl)) rfl)
      (pss_one (ps_fld (pv 0) pe_int rfl))), ?_⟩
  dsimp only [cxOf, Cx.nox, Cx.wish]
  refine put_s_colour T (2) hs (ev_is (by walk_at "ev") (by rfl)) (by walk_at "ev") fun H2 h2 fr => ?_
  dsimp only
  refine put_s_time T (0) h2 (ev_is (by walk_at "ev") (by rfl)) (by walk_at "ev") fun H3 h3 fr3 => ?_
  exact q H3 h3 (fr.trans fr3)
abbrev s_S_turn_green : Stmt := inClass (top 15) 12
theorem sc_S_turn_green : FnScope ["self"] ["self"] (defScope s_S_turn_green) := ⟨rfl, rfl, rfl, by decide +kernel, rfl, by decide +kernel, by decide +kernel⟩
theorem ok_S_turn_green {f : Addr} {fd : FuncData} (F : Fun K "turn_green" "Stream.turn_green" s_S_turn_green f fd) (me : Meth K CS "turn_green" f) (T : Txt K mg CS CC CX) (g_S_is_till_most : Met P w K mg base 1 CS "is_till_most" (sp_S_is_till_most CS)) : Met P w K mg base 2 CS "turn_green" (sp_S_turn_green CS) := by
  have b : Binds K fd ["self"] [] := F.binds (ps := ["self"]) fun _ _ _ _ _ _ us hl => match us, hl with | [_], _ => rfl
  refine met_of T.cS me F b sc_S_turn_green len_S_turn_green (fun cdv A outer s H vs Q E hr h => ?_)
  obtain ⟨a, s, rfl, hs, q⟩ := h
  refine ⟨_, (pss_cons (ps_fld (pv 0) (pe_k T.k_GREEN (by rfl)) rfl)
      (pss_cons (ps_fld (pv 0) pe_int rfl)
      (pss_cons (ps_fld (pv 0) (pe_fld (pv 0) rfl) rfl)
      (pss_cons (ps_fld (pv 0) pe_int rfl)
      (pss_cons (ps_fld (pv 0) pe_bl rfl)
      (pss_cons (ps_fld (pv 0) (pe_or (pe_fld (pv 0) rfl) (pe_one (pe_and (pe_m0 g_S_is_till_most hr (by decide) (pv 0)) (pe_one (pe_cmpR op_gt (pe_fld (pv 0) rfl) pe_int (nomark _)))))) rfl)
      (pss_one (ps_fld (pv 0) pe_bl rfl)))))))), ?_⟩
  dsimp only [cxOf, Cx.nox, Cx.wish]
  refine put_s_colour T (1) hs (ev_is (by walk_at "ev") (by rfl)) (by walk_at "ev") fun H1 h1 f1 => ?_
  dsimp only
  refine put_s_time T (0) h1 (ev_is (by walk_at "ev") (by rfl)) (by walk_at "ev") fun H2 h2 f2 => ?_
  dsimp only
  refine put_s_rest T (s.c.gap) h2 (ev_is (by walk_at "ev") (by rfl)) (by walk_at "ev") fun H3 h3 f3 => ?_
  dsimp only
  refine put_s_waited T (0) h3 (ev_is (by walk_at "ev") (by rfl)) (by walk_at "ev") fun H4 h4 f4 => ?_
  dsimp only
  refine put_s_car T (false) h4 (ev_is (by walk_at "ev") (by rfl)) (by walk_at "ev") fun H5 h5 f5 => ?_
  dsimp only
  refine put_s_let_go T (s.button || (s.c.tillMost && decide (0 < s.c.walk))) h5 (ev_is (by walk_at "ev") (by rfl)) (by walk_at "ev") fun H6 h6 f6 => ?_
  dsimp only
  refine put_s_button T (false) h6 (ev_is (by walk_at "ev") (by rfl)) (by walk_at "ev") fun H7 h7 f7 => ?_
  exact q H7 h7 ((((((f1.trans f2).trans f3).trans f4).trans f5).trans f6).trans f7)
abbrev s_S_end_old_colours : Stmt := inClass (top 15) 8
theorem sc_S_end_old_colours : FnScope ["self"] ["self"] (defScope s_S_end_old_colours) := ⟨rfl, rfl, rfl, by decide +kernel, rfl, by decide +kernel, by decide +kernel⟩
theorem ok_S_end_old_colours {f : Addr} {fd : FuncData} (F : Fun K "end_old_colours" "Stream.end_old_colours" s_S_end_old_colours f fd) (me : Meth K CS "end_old_colours" f) (T : Txt K mg CS CC CX) : Met P w K mg base 1 CS "end_old_colours" (sp_S_end_old_colours CS) := by
  have b : Binds K fd ["self"] [] := F.binds (ps := ["self"]) fun _ _ _ _ _ _ us hl => match us, hl with | [_], _ => rfl
  refine met_of T.cS me F b sc_S_end_old_colours len_S_end_old_colours (fun cdv A outer s H vs Q E hr h => ?_)
  obtain ⟨a, s, rfl, hs, q⟩ := h
  refine ⟨_, (Evl.pss_cut (ps_if (PW.pt (pw_and (pt_cmpR op_eq (pe_fld (pv 0) rfl) (pe_k T.k_YELLOW (by rfl)) (nomark _)) (pw_and1 (pt_cmpR op_ge (pe_fld (pv 0) rfl) (pe_fld (pv 0) rfl) (nomark _))))) (pss_cons (ps_fld (pv 0) (pe_k T.k_CLEARING (by rfl)) rfl)
        (pss_one (ps_fld (pv 0) pe_int rfl))) pss_nil)
      (pss_one (ps_if (PW.pt (pw_and (pt_cmpR op_eq (pe_fld (pv 0) rfl) (pe_k T.k_CLEARING (by rfl)) (nomark _)) (pw_and1 (pt_cmpR op_ge (pe_fld (pv 0) rfl) (pe_fld (pv 0) rfl) (nomark _))))) (pss_one (ps_fld (pv 0) (pe_k T.k_RED (by rfl)) rfl)) pss_nil))), ?_⟩
  dsimp only [cxOf, Cx.nox, Cx.wish]
  refine q_cut (M := fun σ' H' => σ' = start ["self"] [.ref a] ∧ StAt CS H' a s.fade1 ∧ Fr (· = a) H H') ?_ ?_
  · refine s_when (b := s.colour == 2 && decide (s.c.yellow ≤ s.time)) (by walk_at "et") (fun hb H1 e1 => ?_) (fun hb H1 e1 => ?_)
    · have hs1 := hs.mono e1
      have e0 : s.fade1 = { s with colour := 3, time := 0 } := if_pos (by simpa using hb)
      refine put_s_colour T (3) hs1 (ev_is (by walk_at "ev") (by rfl)) (by walk_at "ev") fun H2 h2 f2 => ?_
      dsimp only
      refine put_s_time T (0) h2 (ev_is (by walk_at "ev") (by rfl)) (by walk_at "ev") fun H3 h3 f3 => ⟨rfl, ?_, ((Fr.of e1).trans f2).trans f3⟩
      rw [e0]
      exact h3
    · have e0 : s.fade1 = s := if_neg fun z => by
        have : (s.colour == 2 && decide (s.c.yellow ≤ s.time)) = true := by simpa using z
        rw [hb] at this
        cases this
      refine ⟨rfl, ?_, Fr.of e1⟩
      rw [e0]
      exact hs.mono e1
  · rintro σ' H1 ⟨rfl, h1, f1⟩
    show tIfS _ _ _ _ _ _
    unfold SM.fade at q
    generalize s.fade1 = s1 at h1 q
    refine s_when (b := s1.colour == 3 && decide (s1.c.red ≤ s1.time)) (by walk_at "et") (fun hb H2 e2 => ?_) (fun hb H2 e2 => ?_)
    · have h2 := h1.mono e2
      have e0 : s1.fade2 = { s1 with colour := 0 } := if_pos (by simpa using hb)
      refine put_s_colour T (0) h2 (ev_is (by walk_at "ev") (by rfl)) (by walk_at "ev") fun H3 h3 f3 => q H3 ?_ ((f1.trans (Fr.of e2)).trans f3)
      rw [e0]
      exact h3
    · have e0 : s1.fade2 = s1 := if_neg fun z => by
        have : (s1.colour == 3 && decide (s1.c.red ≤ s1.time)) = true := by simpa using z
        rw [hb] at this
        cases this
      refine q H2 ?_ (f1.trans (Fr.of e2))
      rw [e0]
      exact h1.mono e2
abbrev s_S_remember : Stmt := inClass (top 15) 5
theorem sc_S_remember : FnScope ["self", "car", "person"] ["self", "car", "person"] (defScope s_S_remember) := ⟨rfl, rfl, rfl, by decide +kernel, rfl, by decide +kernel, by decide +kernel⟩
theorem ok_S_remember {f : Addr} {fd : FuncData} (F : Fun K "remember" "Stream.remember" s_S_remember f fd) (me : Meth K CS "remember" f) (T : Txt K mg CS CC CX) (g_S_has_walkers : Met P w K mg base 1 CS "has_walkers" (sp_S_has_walkers CS)) : Met P w K mg base 2 CS "remember" (sp_S_remember CS) := by
  have b : Binds K fd ["self", "car", "person"] [] := F.binds (ps := ["self", "car", "person"]) fun _ _ _ _ _ _ us hl => match us, hl with | [_, _, _], _ => rfl
  refine met_of T.cS me F b sc_S_remember len_S_remember (fun cdv A outer s H vs Q E hr h => ?_)
  obtain ⟨a, s, car, person, rfl, hs, q⟩ := h
  refine ⟨_, (Evl.pss_cut (ps_if (PW.pt (pw_and (pt_val (pv 2)) (pw_and (pt_cmpR op_gt (pe_fld (pv 0) rfl) pe_int (nomark _)) (pw_and1 (pt_not (pt_val (pe_m0 g_S_has_walkers hr (by decide) (pv 0)))))))) (pss_one (ps_fld (pv 0) pe_bl rfl)) pss_nil)
      (pss_one (ps_if (PW.pt (pw_and (pt_val (pv 1)) (pw_and (pt_cmpR op_gt (pe_op op_and (pe_fld (pv 0) rfl) (pe_k T.k_CARS_KEPT (by rfl))) pe_int (nomark _)) (pw_and1 (pt_cmpR op_ne (pe_fld (pv 0) rfl) (pe_k T.k_GREEN (by rfl)) (nomark _)))))) (pss_one (ps_fld (pv 0) pe_bl rfl)) pss_nil))), ?_⟩
  dsimp only [cxOf, Cx.nox, Cx.wish]
  refine q_cut (M := fun σ' H' => σ' = start ["self", "car", "person"] [.ref a, .bl car, .bl person] ∧ StAt CS H' a { s with button := s.button || (person && (decide (0 < s.c.walk) && !s.walkers)) } ∧ Fr (· = a) H H') ?_ ?_
  · refine s_when (b := person && (decide (0 < s.c.walk) && !s.walkers)) (by walk_at "et") (fun hb H1 e1 => ?_) (fun hb H1 e1 => ?_)
    · have hs1 := hs.mono e1
      refine put_s_button T (true) hs1 (ev_is (by walk_at "ev") (by rfl)) (by walk_at "ev") fun H2 h2 f2 => ⟨rfl, ?_, (Fr.of e1).trans f2⟩
      rw [hb, Bool.or_true]
      exact h2
    · refine ⟨rfl, ?_, Fr.of e1⟩
      rw [hb, Bool.or_false]
      exact hs.mono e1
  · rintro σ' H1 ⟨rfl, h1, f1⟩
    obtain ⟨s1, e1⟩ : ∃ s1 : SM, s1 = { s with button := s.button || (person && (decide (0 < s.c.walk) && !s.walkers)) } := ⟨_, rfl⟩
    rw [← e1] at h1
    have er : s.remember car person = { s1 with car := s1.car || (car && (s1.c.remembers && s1.colour != 1)) } := by rw [e1] <;> rfl
    rw [er] at q
    refine s_when (b := car && (s1.c.remembers && s1.colour != 1)) (by walk_at "et") (fun hb H2 e2 => ?_) (fun hb H2 e2 => ?_)
    · have h2 := h1.mono e2
      refine put_s_car T true h2 (ev_is (by walk_at "ev") (by rfl)) (by walk_at "ev") fun H3 h3 f3 => q H3 ?_ ((f1.trans (Fr.of e2)).trans f3)
      rw [hb, Bool.or_true]
      exact h3
    · refine q H2 ?_ (f1.trans (Fr.of e2))
      rw [hb, Bool.or_false]
      exact h1.mono e2
abbrev s_S_run_clocks : Stmt := inClass (top 15) 6
theorem sc_S_run_clocks : FnScope ["self", "car", "pressed"] ["self", "car", "pressed"] (defScope s_S_run_clocks) := ⟨rfl, rfl, rfl, by decide +kernel, rfl, by decide +kernel, by decide +kernel⟩
theorem ok_S_run_clocks {f : Addr} {fd : FuncData} (F : Fun K "run_clocks" "Stream.run_clocks" s_S_run_clocks f fd) (me : Meth K CS "run_clocks" f) (T : Txt K mg CS CC CX) : Met P w K mg base 1 CS "run_clocks" (sp_S_run_clocks CS) := by
  have b : Binds K fd ["self", "car", "pressed"] [] := F.binds (ps := ["self", "car", "pressed"]) fun _ _ _ _ _ _ us hl => match us, hl with | [_, _, _], _ => rfl
  refine met_of T.cS me F b sc_S_run_clocks len_S_run_clocks (fun cdv A outer s H vs Q E hr h => ?_)
  obtain ⟨a, s, car, pr, rfl, hs, q⟩ := h
  refine ⟨_, (Evl.pss_cut (ps_if (pt_cmpR op_ne (pe_fld (pv 0) rfl) (pe_k T.k_RED (by rfl)) (nomark _)) (pss_one (ps_fldaug (pv 0) pe_int in_add)) pss_nil)
      (pss_one (ps_if (pt_cmpR op_eq (pe_fld (pv 0) rfl) (pe_k T.k_GREEN (by rfl)) (nomark _)) (Evl.pss_cut (ps_if (pt_val (pv 1)) (pss_one (ps_fld (pv 0) (pe_fld (pv 0) rfl) rfl)) (pss_one (ps_fld (pv 0) (pe_callB (call_max2 rfl) (by rfl) T.b_max (by decide +kernel) (pa_cons pe_int (pa_cons (pe_op op_sub (pe_fld (pv 0) rfl) pe_int) pa_nil))) rfl)))
        (pss_one (ps_fldaug (pv 0) (pe_callTy call_int1 (by rfl) T.b_int (by decide +kernel) (pa_cons (pv 2) pa_nil)) in_add))) pss_nil))), ?_⟩
  dsimp only [cxOf, Cx.nox, Cx.wish]
  refine q_cut (M := fun σ' H' => σ' = start ["self", "car", "pressed"] [.ref a, .bl car, .bl pr] ∧ StAt CS H' a { s with time := if s.colour = 0 then s.time else s.time + 1 } ∧ Fr (· = a) H H') ?_ ?_
  · refine s_when (b := s.colour != 0) (by walk_at "et") (fun hb H1 e1 => ?_) (fun hb H1 e1 => ?_)
    · have hs1 := hs.mono e1
      refine s_aug (s' := { s with time := s.time + 1 }) hs1 T.cS T.nS_time (i := 11) (by decide +kernel) rfl ev_c (fun H2 Q hQ => ⟨(s.time : Int), 1, rfl, rfl, hQ⟩) (by walk_at "ev") (by decide) rfl fun H2 h2 f2 => ⟨rfl, ?_, (Fr.of e1).trans f2⟩
      rw [if_neg (by simpa using hb)]
      exact h2
    · refine ⟨rfl, ?_, Fr.of e1⟩
      rw [if_pos (by simpa using hb)]
      exact hs.mono e1
  · rintro σ' H1 ⟨rfl, h1, f1⟩
    refine s_when (b := s.colour == 1) (by walk_at "et") (fun hb H2 e2 => ?_) (fun hb H2 e2 => ?_)
    · have hc : s.colour = 1 := by simpa using hb
      have h2 := h1.mono e2
      refine q_cut (M := fun σ' H' => σ' = start ["self", "car", "pressed"] [.ref a, .bl car, .bl pr] ∧ StAt CS H' a { s with time := if s.colour = 0 then s.time else s.time + 1, rest := if car = true then s.c.gap else s.rest - 1 } ∧ Fr (· = a) H H') ?_ ?_
      · refine s_if (b := car) (by walk_at "et") (fun hcar H3 e3 => ?_) (fun hcar H3 e3 => ?_)
        · have h3 := h2.mono e3
          refine put_s_rest T (s.c.gap) h3 (ev_is (by walk_at "ev") (by rfl)) (by walk_at "ev") fun H4 h4 f4 => ⟨rfl, ?_, ((f1.trans (Fr.of e2)).trans (Fr.of e3)).trans f4⟩
          rw [if_pos hcar]
          exact h4
        · have h3 := h2.mono e3
          have em : Ev (tCB (fun xs H Q => ∃ i j, xs = [V.int i, V.int j] ∧ Q (.int (if j > i then j else i)) H) (tCons (tC (.int 0)) (tCons (tOp (rI0 fun i j => .int (i - j)) (tFld K (tVar 0) "rest") (tC (.int 1))) tNil))) (start ["self", "car", "pressed"] [.ref a, .bl car, .bl pr]) H3 (.int ((s.rest - 1 : Nat) : Int)) := by
            refine ev_is (ev_max2 (i := 0) (j := (s.rest : Int) - 1) ev_c (ev_op (ev_s_rest T (ev_var rfl) h3) ev_c rv_I0)) (congrArg V.int ?_)
            by_cases hz : (s.rest : Int) - 1 > 0
            · rw [if_pos hz]
              omega
            · rw [if_neg hz]
              omega
          refine put_s_rest T (s.rest - 1) h3 em (by walk_at "ev") fun H4 h4 f4 => ⟨rfl, ?_, ((f1.trans (Fr.of e2)).trans (Fr.of e3)).trans f4⟩
          rw [if_neg (c := car = true) (by rw [hcar]; decide)]
          exact h4
      · rintro σ' H3 ⟨rfl, h3, f3⟩
        refine s_aug (y := .int ((if pr = true then 1 else 0 : Nat) : Int)) (v := .int ((if pr = true then s.waited + 1 else s.waited : Nat) : Int)) (s' := { s with time := if s.colour = 0 then s.time else s.time + 1, rest := if car = true then s.c.gap else s.rest - 1, waited := if pr = true then s.waited + 1 else s.waited }) h3 T.cS T.nS_waited (i := 13) (by decide +kernel) rfl (ev_int1 rfl (by walk_at "ev")) (fun H2 Q hQ => ⟨(s.waited : Int), _, rfl, rfl, ?_⟩) (by walk_at "ev") (by decide) rfl fun H4 h4 f4 => q H4 ?_ (f3.trans f4)
        · have ew : (s.waited : Int) + ((if pr = true then 1 else 0 : Nat) : Int) = ((if pr = true then s.waited + 1 else s.waited : Nat) : Int) := by cases pr <;> simp
          rw [ew]
          exact hQ
        · unfold SM.tick
          rw [if_pos hc, if_pos hc]
          exact h4
    · refine q H2 ?_ (f1.trans (Fr.of e2))
      have hc : ¬ s.colour = 1 := by simpa using hb
      unfold SM.tick
      rw [if_neg hc, if_neg hc]
      exact h1.mono e2
end
end Cg

/-! Loops that look for something; loops over enumerate. -/
namespace Cg
open PySem PySem.Spec PyProof.Rows L2 Evl
theorem find_first {α : Type} {P : α → Bool} : ∀ {l : List α} {i : Nat} {x : α}, (∀ y ∈ l.take i, P y = false) → l[i]? = some x → P x = true → l.find? P = some x
  | [], _, _, _, h, _ => by simp at h
  | a :: l, 0, x, _, h, hp => by
    cases h
    rw [List.find?_cons, hp]
  | a :: l, i + 1, x, hn, h, hp => by
    have ha : P a = false := hn a (List.mem_cons_self ..)
    rw [List.find?_cons, ha]
    exact find_first (l := l) (i := i) (fun y hy => hn y (List.mem_cons_of_mem _ hy)) h hp
theorem find_none {α : Type} {P : α → Bool} {l : List α} (h : ∀ y ∈ l, P y = false) : l.find? P = none := List.find?_eq_none.mpr fun x hx => by rw [h x hx]; decide
theorem mem_take_snoc {α : Type} {P : α → Bool} {l : List α} {i : Nat} {x : α} (h : ∀ y ∈ l.take i, P y = false) (hi : l[i]? = some x) (hx : P x = false) : ∀ y ∈ l.take (i + 1), P y = false := fun y hy => by
  rw [take_snoc hi] at hy
  rcases List.mem_append.mp hy with q | q
  · exact h y q
  · rw [List.mem_singleton.mp q]
    exact hx
section
variable {K : PySem.W.Frag} {σ : L2.St} {H : Hp} {tl : TE} {tu tz : TS} {D : Ends}
/-- for x in a new list: .. return .. ; what follows -/
theorem q_find {α : Type} (l : List α) (enc : α → V) (P : α → Bool) (W : L2.St → Prop) {j : Nat} (h : EvL tl σ H (l.map enc)) (w0 : W σ)
    (hit : Hp → α → Prop) (hhit : ∀ x H1, Ex H H1 → l.find? P = some x → hit H1 x)
    (turn : ∀ x σ' H' (N : L2.St → Hp → Prop), x ∈ l → W σ' → Ex H H' → (P x = true → ∀ H1, Ex H' H1 → hit H1 x) → (P x = false → ∀ σ2 H1, W σ2 → Ex H' H1 → N σ2 H1) →
      tu { D with nx := N, ct := N, bk := tz D } (σ'.set j (some (enc x))) H')
    (hd : ∀ σ' H', W σ' → Ex H H' → l.find? P = none → tz D σ' H') : tSeq (tFor (iList K tl) (gName j) tu) tz D σ H := by
  refine q_forNLn h (fun p i σ' H' => W σ' ∧ Ex H H' ∧ H' p = some (.lst (l.map enc)) ∧ ∀ y ∈ l.take i, P y = false) (fun p H1 hp e1 h1 => ⟨w0, e1, h1, fun y hy => by rw [List.take_zero] at hy; cases hy⟩) (fun p i σ' H' _ q => sq_of q.2.2.1) ?_ ?_
  · rintro p i y σ' H' hy ⟨w, e, hp, hn⟩
    obtain ⟨x, hx, rfl⟩ : ∃ x, l[i]? = some x ∧ y = enc x := by
      rw [List.getElem?_map] at hy
      cases q : l[i]? with
      | none => rw [q] at hy; cases hy
      | some x => rw [q] at hy; exact ⟨x, rfl, (Option.some.inj hy).symm⟩
    refine turn x σ' H' _ (List.mem_of_getElem? hx) w e (fun hP H1 e1 => ?_) (fun hP σ2 H1 w2 e1 => ?_)
    · exact hhit x H1 (e.trans e1) (find_first hn hx hP)
    · exact ⟨w2, e.trans e1, e1 p _ hp, mem_take_snoc hn hx hP⟩
  · rintro p σ' H' ⟨w, e, hp, hn⟩
    rw [List.length_map, List.take_length] at hn
    exact hd σ' H' w e (find_none hn)
/-- the same over range(lo, hi) -/
theorem q_findR (lo n : Nat) (P : Nat → Bool) (W : L2.St → Prop) {ta : TA} {j : Nat} (h : EvA ta σ H [.int (lo : Int), .int (n : Int)]) (hn : n ≤ 1000) (hlo : lo ≤ 1000) (w0 : W σ)
    (hit : Hp → Nat → Prop) (hhit : ∀ x H1, Ex H H1 → ((List.range (n - lo)).map fun d => lo + d).find? P = some x → hit H1 x)
    (turn : ∀ x σ' H' (N : L2.St → Hp → Prop), lo ≤ x → x < n → W σ' → Ex H H' → (P x = true → ∀ H1, Ex H' H1 → hit H1 x) → (P x = false → ∀ σ2 H1, W σ2 → Ex H' H1 → N σ2 H1) →
      tu { D with nx := N, ct := N, bk := tz D } (σ'.set j (some (.int (x : Int)))) H')
    (hd : ∀ σ' H', W σ' → Ex H H' → ((List.range (n - lo)).map fun d => lo + d).find? P = none → tz D σ' H') : tSeq (tFor (iRng2 ta) (gName j) tu) tz D σ H := by
  have hcnt : ((n : Int) - (lo : Int)).toNat = n - lo := by omega
  refine q_forR2 h ⟨by omega, by omega, by omega, by omega⟩ (fun i σ' H' => W σ' ∧ Ex H H' ∧ ∀ y ∈ ((List.range (n - lo)).map fun d => lo + d).take i, P y = false) (fun H1 e1 => ⟨w0, e1, fun y hy => by rw [List.take_zero] at hy; cases hy⟩) ?_ ?_
  · rintro i σ' H' hi ⟨w, e, hnn⟩
    have hx : ((List.range (n - lo)).map fun d => lo + d)[i]? = some (lo + i) := by
      rw [List.getElem?_map, List.getElem?_range (by omega)]
      rfl
    have ei : (lo : Int) + (i : Int) = ((lo + i : Nat) : Int) := by omega
    rw [ei]
    refine turn (lo + i) σ' H' _ (by omega) (by omega) w e (fun hP H1 e1 => ?_) (fun hP σ2 H1 w2 e1 => ?_)
    · exact hhit _ H1 (e.trans e1) (find_first hnn hx hP)
    · exact ⟨w2, e.trans e1, mem_take_snoc hnn hx hP⟩
  · rintro σ' H' ⟨w, e, hnn⟩
    rw [hcnt, List.take_of_length_le (by rw [List.length_map, List.length_range]; exact Nat.le_refl _)] at hnn
    exact hd σ' H' w e (find_none hnn)
/-- for k, x in enumerate(a list that stands): each turn's pair is new -/
theorem s_enum {a : Addr} {xs : List V} {tr : TA} {i1 i2 : Nat} (h : EvA tr σ H [.ref a]) (hx : SqL K H a xs) (Pv : Nat → L2.St → Hp → Prop) (h0 : ∀ H1, Ex H H1 → Pv 0 σ H1) (hl : ∀ i σ' H', i ≤ xs.length → Pv i σ' H' → SqL K H' a xs)
    (hs : ∀ i x σ' H' H1, xs[i]? = some x → Pv i σ' H' → Ex H' H1 → tu { D with nx := Pv (i + 1), ct := Pv (i + 1), bk := D.nx } ((σ'.set i1 (some (.int (i : Int)))).set i2 (some x)) H1) (hd : ∀ σ' H', Pv xs.length σ' H' → D.nx σ' H') :
    tFor (iEnum K tr) (gTup K 2 (gCons (gName i1) (gCons (gName i2) gNil))) tu D σ H :=
  h H (Ex.refl H) _ fun H1 e => ⟨a, xs, rfl, ex_l e hx, for_it walk_enum Pv (h0 H1 e) hl (fun i x σ' H' H2 hi p y => by
    obtain ⟨T, u, v, rfl, hT, rfl, hu, hv⟩ := y
    cases hu
    have e1 : Ex H' (upd H' T (.tup [.int ((i : Nat) : Int), v])) := Ex.new hT
    exact ⟨T, [.int ((i : Nat) : Int), v], rfl, st_of upd_same, rfl, _, _, rfl, _, _, rfl, rfl, hs i v σ' H' _ hv p e1⟩) hd⟩
theorem q_enum {a : Addr} {xs : List V} {tr : TA} {i1 i2 : Nat} (h : EvA tr σ H [.ref a]) (hx : SqL K H a xs) (Pv : Nat → L2.St → Hp → Prop) (h0 : ∀ H1, Ex H H1 → Pv 0 σ H1) (hl : ∀ i σ' H', i ≤ xs.length → Pv i σ' H' → SqL K H' a xs)
    (hs : ∀ i x σ' H' H1, xs[i]? = some x → Pv i σ' H' → Ex H' H1 → tu { D with nx := Pv (i + 1), ct := Pv (i + 1), bk := tz D } ((σ'.set i1 (some (.int (i : Int)))).set i2 (some x)) H1) (hd : ∀ σ' H', Pv xs.length σ' H' → tz D σ' H') :
    tSeq (tFor (iEnum K tr) (gTup K 2 (gCons (gName i1) (gCons (gName i2) gNil))) tu) tz D σ H := s_enum (D := { D with nx := tz D }) h hx Pv h0 hl hs hd
/-- [e for k, x in enumerate(a new list) if x] -/
theorem ev_andF {ta tb : TE} (h : Ev ta σ H (.bl false)) : Ev (tAndV ta tb) σ H (.bl false) := ev_andV (b := false) h fun z => by cases z
end
end Cg

/-! A crossing in the heap. -/
namespace Cg
open PySem PySem.Spec PyProof.Rows L2 Evl
/-- where a crossing's parts stand: itself, the list of its streams, the list of the last ones, the streams -/
structure Ad where
  p : Addr
  la : Addr
  ls : Addr
  as : List Addr
def Ad.adr (A : Ad) (k : Nat) : Addr := A.as.getD k 0
def cKeys : List Str := ["streams", "group", "lasts", "cars", "first"]
def cVals (A : Ad) (m : CM) : List V := [.ref A.la, .int (m.group : Int), .ref A.ls, .int (m.cars : Int), nV m.first]
def cF (A : Ad) (m : CM) : List (Str × V) := cKeys.zip (cVals A m)
structure CrAt (CS CC : Addr) (H : Hp) (A : Ad) (m : CM) : Prop where
  obj : ObjAt CC H A.p (cF A m)
  lst : H A.la = some (.lst (A.as.map V.ref))
  las : H A.ls = some (.lst (m.lasts.map nV))
  nd : A.as.Nodup
  len : A.as.length = m.ss.length
  at_ : ∀ (k : Nat) (a : Addr) (s : SM), A.as[k]? = some a → m.ss[k]? = some s → StAt CS H a s
  ok : m.Ok
  ne : A.la ≠ A.ls
section
variable {P : Program} {w : World} {K : PySem.W.Frag} {mg : Str → Option Value} {base : Heap} {CS CC CX a : Addr} {A : Ad} {m : CM} {k j r : Nat} {σ : L2.St} {H H' : Hp} {ta tb te ti : TE} {E : XK}
theorem CrAt.mono (e : Ex H H') (h : CrAt CS CC H A m) : CrAt CS CC H' A m := ⟨h.obj.mono e, e _ _ h.lst, e _ _ h.las, h.nd, h.len, fun k a s h1 h2 => (h.at_ k a s h1 h2).mono e, h.ok, h.ne⟩
theorem CrAt.adr (h : CrAt CS CC H A m) (hk : k < m.ss.length) : A.as[k]? = some (A.adr k) := by
  have := h.len
  unfold Ad.adr
  rw [List.getD_eq_getElem?_getD, List.getElem?_eq_getElem (by omega)]
  rfl
theorem CrAt.st (h : CrAt CS CC H A m) (hk : k < m.ss.length) : StAt CS H (A.adr k) (m.sat k) := h.at_ k _ _ (h.adr hk) (sat_lt hk)
theorem c_no {mm : Str} (h : at1 cKeys mm = none) : (cF A m).lookup mm = none := zip_none h
theorem cF_len : (cF A m).length = 5 := rfl
theorem ev_c_streams (T : Txt K mg CS CC CX) (h : Ev ta σ H (.ref A.p)) (hC : CrAt CS CC H A m) : Ev (tFld K ta "streams") σ H (.ref A.la) := ev_fld h hC.obj T.cC T.nC_streams ((zip_look (i := 0) (by decide +kernel)).trans rfl)
theorem ev_c_group (T : Txt K mg CS CC CX) (h : Ev ta σ H (.ref A.p)) (hC : CrAt CS CC H A m) : Ev (tFld K ta "group") σ H (.int (m.group : Int)) := ev_fld h hC.obj T.cC T.nC_group ((zip_look (i := 1) (by decide +kernel)).trans rfl)
theorem ev_c_lasts (T : Txt K mg CS CC CX) (h : Ev ta σ H (.ref A.p)) (hC : CrAt CS CC H A m) : Ev (tFld K ta "lasts") σ H (.ref A.ls) := ev_fld h hC.obj T.cC T.nC_lasts ((zip_look (i := 2) (by decide +kernel)).trans rfl)
theorem ev_c_cars (T : Txt K mg CS CC CX) (h : Ev ta σ H (.ref A.p)) (hC : CrAt CS CC H A m) : Ev (tFld K ta "cars") σ H (.int (m.cars : Int)) := ev_fld h hC.obj T.cC T.nC_cars ((zip_look (i := 3) (by decide +kernel)).trans rfl)
theorem ev_c_first (T : Txt K mg CS CC CX) (h : Ev ta σ H (.ref A.p)) (hC : CrAt CS CC H A m) : Ev (tFld K ta "first") σ H (nV m.first) := ev_fld h hC.obj T.cC T.nC_first ((zip_look (i := 4) (by decide +kernel)).trans rfl)
/-- self.streams[k] -/
theorem ev_c_stream (T : Txt K mg CS CC CX) (h : Ev ta σ H (.ref A.p)) (hi : Ev ti σ H (.int (k : Int))) (hC : CrAt CS CC H A m) (hk : k < m.ss.length) : Ev (tOp (rIxL K) (tFld K ta "streams") ti) σ H (.ref (A.adr k)) :=
  ev_op (ev_c_streams T h hC) hi (rv_ixL (sq_of hC.lst) (atI_nat (by rw [List.getElem?_map, hC.adr hk] <;> rfl)))
/-- self.lasts[r] -/
theorem ev_c_last (T : Txt K mg CS CC CX) (h : Ev ta σ H (.ref A.p)) (hi : Ev ti σ H (.int (r : Int))) (hC : CrAt CS CC H A m) (hr : r < 4) : Ev (tOp (rIxL K) (tFld K ta "lasts") ti) σ H (nV (m.lastOf r)) :=
  ev_op (ev_c_lasts T h hC) hi (rv_ixL (sq_of hC.las) (atI_nat (by
    have := hC.ok.lasts
    unfold CM.lastOf
    rw [List.getElem?_map, List.getD_eq_getElem?_getD, List.getElem?_eq_getElem (by omega)]
    rfl)))
/-! ### what a crossing is asked -/
def rC0 (CS CC : Addr) (g : CM → V) : List V → Hp → V → Prop := fun vs H v => ∃ A m, vs = [.ref A.p] ∧ CrAt CS CC H A m ∧ v = g m
def rC1 (CS CC : Addr) (p : CM → Nat → Prop) (g : CM → Nat → V) : List V → Hp → V → Prop := fun vs H v => ∃ A m k, vs = [.ref A.p, .int ((k : Nat) : Int)] ∧ CrAt CS CC H A m ∧ p m k ∧ v = g m k
def rC2 (CS CC : Addr) (p : CM → Nat → Nat → Prop) (g : CM → Nat → Nat → V) : List V → Hp → V → Prop := fun vs H v => ∃ A m j k, vs = [.ref A.p, .int ((j : Nat) : Int), .int ((k : Nat) : Int)] ∧ CrAt CS CC H A m ∧ p m j k ∧ v = g m j k
def rCL (CS CC : Addr) (g : CM → List V) : List V → Hp → List V → Prop := fun vs H xs => ∃ A m, vs = [.ref A.p] ∧ CrAt CS CC H A m ∧ xs = g m
theorem len_rC0 {g : CM → V} : ∀ vs H Q E, spV (rC0 CS CC g) vs H Q E → vs.length = 1 := spV_len fun vs H v ⟨_, _, e, _⟩ => by rw [e]; rfl
theorem len_rC1 {p : CM → Nat → Prop} {g : CM → Nat → V} : ∀ vs H Q E, spV (rC1 CS CC p g) vs H Q E → vs.length = 2 := spV_len fun vs H v ⟨_, _, _, e, _⟩ => by rw [e]; rfl
theorem len_rC2 {p : CM → Nat → Nat → Prop} {g : CM → Nat → Nat → V} : ∀ vs H Q E, spV (rC2 CS CC p g) vs H Q E → vs.length = 3 := spV_len fun vs H v ⟨_, _, _, _, e, _⟩ => by rw [e]; rfl
theorem len_rCL {g : CM → List V} : ∀ vs H Q E, spL (rCL CS CC g) vs H Q E → vs.length = 1 := spL_len fun vs H v ⟨_, _, e, _⟩ => by rw [e]; rfl
theorem ev_rC0 {g : CM → V} {mm : Str} (hm : at1 cKeys mm = none) (h : Ev ta σ H (.ref A.p)) (hC : CrAt CS CC H A m) : Ev (tMeth CC mm (spV (rC0 CS CC g)) [] E ta tNil) σ H (g m) :=
  ev_methV h hC.obj (c_no hm) ea_nil fun H1 e1 => ⟨A, m, rfl, hC.mono e1, rfl⟩
theorem ev_rC1 {p : CM → Nat → Prop} {g : CM → Nat → V} {mm : Str} (hm : at1 cKeys mm = none) (h : Ev ta σ H (.ref A.p)) (hi : Ev ti σ H (.int (k : Int))) (hC : CrAt CS CC H A m) (hp : p m k) : Ev (tMeth CC mm (spV (rC1 CS CC p g)) [] E ta (tCons ti tNil)) σ H (g m k) :=
  ev_methV h hC.obj (c_no hm) (ea_one hi) fun H1 e1 => ⟨A, m, k, rfl, hC.mono e1, hp, rfl⟩
theorem ev_rC2 {p : CM → Nat → Nat → Prop} {g : CM → Nat → Nat → V} {tj : TE} {mm : Str} (hm : at1 cKeys mm = none) (h : Ev ta σ H (.ref A.p)) (hj : Ev tj σ H (.int (j : Int))) (hi : Ev ti σ H (.int (k : Int))) (hC : CrAt CS CC H A m) (hp : p m j k) : Ev (tMeth CC mm (spV (rC2 CS CC p g)) [] E ta (tCons tj (tCons ti tNil))) σ H (g m j k) :=
  ev_methV h hC.obj (c_no hm) (ea_cons hj (ea_one hi)) fun H1 e1 => ⟨A, m, j, k, rfl, hC.mono e1, hp, rfl⟩
theorem el_rCL {g : CM → List V} {mm : Str} (hm : at1 cKeys mm = none) (h : Ev ta σ H (.ref A.p)) (hC : CrAt CS CC H A m) : EvL (tMeth CC mm (spL (rCL CS CC g)) [] E ta tNil) σ H (g m) :=
  el_methL h hC.obj (c_no hm) ea_nil fun H1 e1 => ⟨A, m, rfl, hC.mono e1, rfl⟩
def isNum (m : CM) (k : Nat) : Prop := k < m.ss.length
def areNum (m : CM) (j k : Nat) : Prop := j < m.ss.length ∧ k < m.ss.length
def isRing (_ : CM) (r : Nat) : Prop := r < 4
def encN (k : Nat) : V := .int (k : Int)
abbrev sp_C_numbers (CS CC : Addr) : Sp := spL (rCL CS CC fun m => m.nums.map encN)
abbrev sp_C_greens (CS CC : Addr) : Sp := spL (rCL CS CC fun m => m.greens.map encN)
abbrev sp_C_are_crossing (CS CC : Addr) : Sp := spV (rC2 CS CC areNum fun m j k => .bl (m.crosses j k))
abbrev sp_C_is_beside (CS CC : Addr) : Sp := spV (rC2 CS CC areNum fun m j k => .bl (m.beside j k))
abbrev sp_C_is_barred (CS CC : Addr) : Sp := spV (rC1 CS CC isNum fun m k => .bl (m.barred k))
abbrev sp_C_is_called (CS CC : Addr) : Sp := spV (rC1 CS CC isNum fun m k => .bl (m.called k))
abbrev sp_C_in_colour (CS CC : Addr) : Sp := spV (rC1 CS CC isRing fun m r => nV (m.inColour r))
abbrev sp_C_is_all_red (CS CC : Addr) : Sp := spV (rC0 CS CC fun m => .bl m.allRed)
abbrev sp_C_is_stuck (CS CC : Addr) : Sp := spV (rC1 CS CC isNum fun m k => .bl (m.stuck k))
abbrev sp_C_is_pressed (CS CC : Addr) : Sp := spV (rC0 CS CC fun m => .bl m.pressed)
abbrev sp_C_is_ready (CS CC : Addr) : Sp := spV (rC1 CS CC isNum fun m k => .bl (m.ready k))
abbrev sp_C_heir (CS CC : Addr) : Sp := spV (rC1 CS CC isNum fun m k => nV (m.heir k))
abbrev sp_C_is_over (CS CC : Addr) : Sp := spV (rC1 CS CC isRing fun m r => .bl (m.over r))
abbrev sp_C_first_called (CS CC : Addr) : Sp := spV (rC2 CS CC (fun _ _ _ => True) fun m r g => nV (m.firstCalled r g))
abbrev sp_C_next_group (CS CC : Addr) : Sp := spV (rC0 CS CC fun m => .int (m.nextGroup : Int))
theorem len_C_numbers : ∀ vs H Q E, sp_C_numbers CS CC vs H Q E → vs.length = 1 := len_rCL
theorem len_C_greens : ∀ vs H Q E, sp_C_greens CS CC vs H Q E → vs.length = 1 := len_rCL
theorem len_C_are_crossing : ∀ vs H Q E, sp_C_are_crossing CS CC vs H Q E → vs.length = 3 := len_rC2
theorem len_C_is_beside : ∀ vs H Q E, sp_C_is_beside CS CC vs H Q E → vs.length = 3 := len_rC2
theorem len_C_is_barred : ∀ vs H Q E, sp_C_is_barred CS CC vs H Q E → vs.length = 2 := len_rC1
theorem len_C_is_called : ∀ vs H Q E, sp_C_is_called CS CC vs H Q E → vs.length = 2 := len_rC1
theorem len_C_in_colour : ∀ vs H Q E, sp_C_in_colour CS CC vs H Q E → vs.length = 2 := len_rC1
theorem len_C_is_all_red : ∀ vs H Q E, sp_C_is_all_red CS CC vs H Q E → vs.length = 1 := len_rC0
theorem len_C_is_stuck : ∀ vs H Q E, sp_C_is_stuck CS CC vs H Q E → vs.length = 2 := len_rC1
theorem len_C_is_pressed : ∀ vs H Q E, sp_C_is_pressed CS CC vs H Q E → vs.length = 1 := len_rC0
theorem len_C_is_ready : ∀ vs H Q E, sp_C_is_ready CS CC vs H Q E → vs.length = 2 := len_rC1
theorem len_C_heir : ∀ vs H Q E, sp_C_heir CS CC vs H Q E → vs.length = 2 := len_rC1
theorem len_C_is_over : ∀ vs H Q E, sp_C_is_over CS CC vs H Q E → vs.length = 2 := len_rC1
theorem len_C_first_called : ∀ vs H Q E, sp_C_first_called CS CC vs H Q E → vs.length = 3 := len_rC2
theorem len_C_next_group : ∀ vs H Q E, sp_C_next_group CS CC vs H Q E → vs.length = 1 := len_rC0
theorem el_C_numbers (h : Ev ta σ H (.ref A.p)) (hC : CrAt CS CC H A m) : EvL (tMeth CC "numbers" (sp_C_numbers CS CC) [] E ta tNil) σ H (m.nums.map encN) := el_rCL (by decide +kernel) h hC
theorem el_C_greens (h : Ev ta σ H (.ref A.p)) (hC : CrAt CS CC H A m) : EvL (tMeth CC "greens" (sp_C_greens CS CC) [] E ta tNil) σ H (m.greens.map encN) := el_rCL (by decide +kernel) h hC
theorem em_C_are_crossing (h : Ev ta σ H (.ref A.p)) (hj : Ev tb σ H (.int (j : Int))) (hi : Ev ti σ H (.int (k : Int))) (hC : CrAt CS CC H A m) (h1 : j < m.ss.length) (h2 : k < m.ss.length) : Ev (tMeth CC "are_crossing" (sp_C_are_crossing CS CC) [] E ta (tCons tb (tCons ti tNil))) σ H (.bl (m.crosses j k)) := ev_rC2 (by decide +kernel) h hj hi hC ⟨h1, h2⟩
theorem em_C_is_beside (h : Ev ta σ H (.ref A.p)) (hj : Ev tb σ H (.int (j : Int))) (hi : Ev ti σ H (.int (k : Int))) (hC : CrAt CS CC H A m) (h1 : j < m.ss.length) (h2 : k < m.ss.length) : Ev (tMeth CC "is_beside" (sp_C_is_beside CS CC) [] E ta (tCons tb (tCons ti tNil))) σ H (.bl (m.beside j k)) := ev_rC2 (by decide +kernel) h hj hi hC ⟨h1, h2⟩
theorem em_C_is_barred (h : Ev ta σ H (.ref A.p)) (hi : Ev ti σ H (.int (k : Int))) (hC : CrAt CS CC H A m) (hk : k < m.ss.length) : Ev (tMeth CC "is_barred" (sp_C_is_barred CS CC) [] E ta (tCons ti tNil)) σ H (.bl (m.barred k)) := ev_rC1 (by decide +kernel) h hi hC hk
theorem em_C_is_called (h : Ev ta σ H (.ref A.p)) (hi : Ev ti σ H (.int (k : Int))) (hC : CrAt CS CC H A m) (hk : k < m.ss.length) : Ev (tMeth CC "is_called" (sp_C_is_called CS CC) [] E ta (tCons ti tNil)) σ H (.bl (m.called k)) := ev_rC1 (by decide +kernel) h hi hC hk
theorem em_C_in_colour (h : Ev ta σ H (.ref A.p)) (hi : Ev ti σ H (.int (r : Int))) (hC : CrAt CS CC H A m) (hr : r < 4) : Ev (tMeth CC "in_colour" (sp_C_in_colour CS CC) [] E ta (tCons ti tNil)) σ H (nV (m.inColour r)) := ev_rC1 (by decide +kernel) h hi hC hr
theorem em_C_is_all_red (h : Ev ta σ H (.ref A.p)) (hC : CrAt CS CC H A m) : Ev (tMeth CC "is_all_red" (sp_C_is_all_red CS CC) [] E ta tNil) σ H (.bl m.allRed) := ev_rC0 (by decide +kernel) h hC
theorem em_C_is_stuck (h : Ev ta σ H (.ref A.p)) (hi : Ev ti σ H (.int (k : Int))) (hC : CrAt CS CC H A m) (hk : k < m.ss.length) : Ev (tMeth CC "is_stuck" (sp_C_is_stuck CS CC) [] E ta (tCons ti tNil)) σ H (.bl (m.stuck k)) := ev_rC1 (by decide +kernel) h hi hC hk
theorem em_C_is_pressed (h : Ev ta σ H (.ref A.p)) (hC : CrAt CS CC H A m) : Ev (tMeth CC "is_pressed" (sp_C_is_pressed CS CC) [] E ta tNil) σ H (.bl m.pressed) := ev_rC0 (by decide +kernel) h hC
theorem em_C_is_ready (h : Ev ta σ H (.ref A.p)) (hi : Ev ti σ H (.int (k : Int))) (hC : CrAt CS CC H A m) (hk : k < m.ss.length) : Ev (tMeth CC "is_ready" (sp_C_is_ready CS CC) [] E ta (tCons ti tNil)) σ H (.bl (m.ready k)) := ev_rC1 (by decide +kernel) h hi hC hk
theorem em_C_heir (h : Ev ta σ H (.ref A.p)) (hi : Ev ti σ H (.int (k : Int))) (hC : CrAt CS CC H A m) (hk : k < m.ss.length) : Ev (tMeth CC "heir" (sp_C_heir CS CC) [] E ta (tCons ti tNil)) σ H (nV (m.heir k)) := ev_rC1 (by decide +kernel) h hi hC hk
theorem em_C_is_over (h : Ev ta σ H (.ref A.p)) (hi : Ev ti σ H (.int (r : Int))) (hC : CrAt CS CC H A m) (hr : r < 4) : Ev (tMeth CC "is_over" (sp_C_is_over CS CC) [] E ta (tCons ti tNil)) σ H (.bl (m.over r)) := ev_rC1 (by decide +kernel) h hi hC hr
theorem em_C_first_called (h : Ev ta σ H (.ref A.p)) (hj : Ev tb σ H (.int (j : Int))) (hi : Ev ti σ H (.int (k : Int))) (hC : CrAt CS CC H A m) : Ev (tMeth CC "first_called" (sp_C_first_called CS CC) [] E ta (tCons tb (tCons ti tNil))) σ H (nV (m.firstCalled j k)) := ev_rC2 (by decide +kernel) h hj hi hC trivial
theorem em_C_next_group (h : Ev ta σ H (.ref A.p)) (hC : CrAt CS CC H A m) : Ev (tMeth CC "next_group" (sp_C_next_group CS CC) [] E ta tNil) σ H (.int (m.nextGroup : Int)) := ev_rC0 (by decide +kernel) h hC
/-! the same, the crossing first -/
theorem fl_C_numbers (hC : CrAt CS CC H A m) (h : Ev ta σ H (.ref A.p)) : EvL (tMeth CC "numbers" (sp_C_numbers CS CC) [] E ta tNil) σ H (m.nums.map encN) := el_C_numbers h hC
theorem fl_C_greens (hC : CrAt CS CC H A m) (h : Ev ta σ H (.ref A.p)) : EvL (tMeth CC "greens" (sp_C_greens CS CC) [] E ta tNil) σ H (m.greens.map encN) := el_C_greens h hC
theorem fv_c_streams (hC : CrAt CS CC H A m) (T : Txt K mg CS CC CX) (h : Ev ta σ H (.ref A.p)) : Ev (tFld K ta "streams") σ H (.ref A.la) := ev_c_streams T h hC
theorem fv_c_group (hC : CrAt CS CC H A m) (T : Txt K mg CS CC CX) (h : Ev ta σ H (.ref A.p)) : Ev (tFld K ta "group") σ H (.int (m.group : Int)) := ev_c_group T h hC
theorem fv_c_lasts (hC : CrAt CS CC H A m) (T : Txt K mg CS CC CX) (h : Ev ta σ H (.ref A.p)) : Ev (tFld K ta "lasts") σ H (.ref A.ls) := ev_c_lasts T h hC
theorem fv_c_cars (hC : CrAt CS CC H A m) (T : Txt K mg CS CC CX) (h : Ev ta σ H (.ref A.p)) : Ev (tFld K ta "cars") σ H (.int (m.cars : Int)) := ev_c_cars T h hC
theorem fv_c_first (hC : CrAt CS CC H A m) (T : Txt K mg CS CC CX) (h : Ev ta σ H (.ref A.p)) : Ev (tFld K ta "first") σ H (nV m.first) := ev_c_first T h hC
theorem fv_c_stream (hC : CrAt CS CC H A m) (T : Txt K mg CS CC CX) (h : Ev ta σ H (.ref A.p)) (hi : Ev ti σ H (.int (k : Int))) (hk : k < m.ss.length) : Ev (tOp (rIxL K) (tFld K ta "streams") ti) σ H (.ref (A.adr k)) := ev_c_stream T h hi hC hk
theorem fv_c_last (hC : CrAt CS CC H A m) (T : Txt K mg CS CC CX) (h : Ev ta σ H (.ref A.p)) (hi : Ev ti σ H (.int (r : Int))) (hr : r < 4) : Ev (tOp (rIxL K) (tFld K ta "lasts") ti) σ H (nV (m.lastOf r)) := ev_c_last T h hi hC hr
theorem fm_C_are_crossing (hC : CrAt CS CC H A m) (h : Ev ta σ H (.ref A.p)) (hj : Ev tb σ H (.int (j : Int))) (hi : Ev ti σ H (.int (k : Int))) (h1 : j < m.ss.length) (h2 : k < m.ss.length) : Ev (tMeth CC "are_crossing" (sp_C_are_crossing CS CC) [] E ta (tCons tb (tCons ti tNil))) σ H (.bl (m.crosses j k)) := em_C_are_crossing h hj hi hC h1 h2
theorem fm_C_is_beside (hC : CrAt CS CC H A m) (h : Ev ta σ H (.ref A.p)) (hj : Ev tb σ H (.int (j : Int))) (hi : Ev ti σ H (.int (k : Int))) (h1 : j < m.ss.length) (h2 : k < m.ss.length) : Ev (tMeth CC "is_beside" (sp_C_is_beside CS CC) [] E ta (tCons tb (tCons ti tNil))) σ H (.bl (m.beside j k)) := em_C_is_beside h hj hi hC h1 h2
theorem fm_C_is_barred (hC : CrAt CS CC H A m) (h : Ev ta σ H (.ref A.p)) (hi : Ev ti σ H (.int (k : Int))) (hk : k < m.ss.length) : Ev (tMeth CC "is_barred" (sp_C_is_barred CS CC) [] E ta (tCons ti tNil)) σ H (.bl (m.barred k)) := em_C_is_barred h hi hC hk
theorem fm_C_is_called (hC : CrAt CS CC H A m) (h : Ev ta σ H (.ref A.p)) (hi : Ev ti σ H (.int (k : Int))) (hk : k < m.ss.length) : Ev (tMeth CC "is_called" (sp_C_is_called CS CC) [] E ta (tCons ti tNil)) σ H (.bl (m.called k)) := em_C_is_called h hi hC hk
theorem fm_C_in_colour (hC : CrAt CS CC H A m) (h : Ev ta σ H (.ref A.p)) (hi : Ev ti σ H (.int (r : Int))) (hr : r < 4) : Ev (tMeth CC "in_colour" (sp_C_in_colour CS CC) [] E ta (tCons ti tNil)) σ H (nV (m.inColour r)) := em_C_in_colour h hi hC hr
theorem fm_C_is_all_red (hC : CrAt CS CC H A m) (h : Ev ta σ H (.ref A.p)) : Ev (tMeth CC "is_all_red" (sp_C_is_all_red CS CC) [] E ta tNil) σ H (.bl m.allRed) := em_C_is_all_red h hC
theorem fm_C_is_stuck (hC : CrAt CS CC H A m) (h : Ev ta σ H (.ref A.p)) (hi : Ev ti σ H (.int (k : Int))) (hk : k < m.ss.length) : Ev (tMeth CC "is_stuck" (sp_C_is_stuck CS CC) [] E ta (tCons ti tNil)) σ H (.bl (m.stuck k)) := em_C_is_stuck h hi hC hk
theorem fm_C_is_pressed (hC : CrAt CS CC H A m) (h : Ev ta σ H (.ref A.p)) : Ev (tMeth CC "is_pressed" (sp_C_is_pressed CS CC) [] E ta tNil) σ H (.bl m.pressed) := em_C_is_pressed h hC
theorem fm_C_is_ready (hC : CrAt CS CC H A m) (h : Ev ta σ H (.ref A.p)) (hi : Ev ti σ H (.int (k : Int))) (hk : k < m.ss.length) : Ev (tMeth CC "is_ready" (sp_C_is_ready CS CC) [] E ta (tCons ti tNil)) σ H (.bl (m.ready k)) := em_C_is_ready h hi hC hk
theorem fm_C_heir (hC : CrAt CS CC H A m) (h : Ev ta σ H (.ref A.p)) (hi : Ev ti σ H (.int (k : Int))) (hk : k < m.ss.length) : Ev (tMeth CC "heir" (sp_C_heir CS CC) [] E ta (tCons ti tNil)) σ H (nV (m.heir k)) := em_C_heir h hi hC hk
theorem fm_C_is_over (hC : CrAt CS CC H A m) (h : Ev ta σ H (.ref A.p)) (hi : Ev ti σ H (.int (r : Int))) (hr : r < 4) : Ev (tMeth CC "is_over" (sp_C_is_over CS CC) [] E ta (tCons ti tNil)) σ H (.bl (m.over r)) := em_C_is_over h hi hC hr
theorem fm_C_first_called (hC : CrAt CS CC H A m) (h : Ev ta σ H (.ref A.p)) (hj : Ev tb σ H (.int (j : Int))) (hi : Ev ti σ H (.int (k : Int))) : Ev (tMeth CC "first_called" (sp_C_first_called CS CC) [] E ta (tCons tb (tCons ti tNil))) σ H (nV (m.firstCalled j k)) := em_C_first_called h hj hi hC
theorem fm_C_next_group (hC : CrAt CS CC H A m) (h : Ev ta σ H (.ref A.p)) : Ev (tMeth CC "next_group" (sp_C_next_group CS CC) [] E ta tNil) σ H (.int (m.nextGroup : Int)) := em_C_next_group h hC
end
end Cg

/-! Bits. -/
namespace Cg
open PySem PySem.Spec PyProof.Rows L2 Evl
local macro_rules | `(tactic| walk_at "rv") => `(tactic| first
  | with_reducible exact rv_eqn | with_reducible exact rv_nen | with_reducible exact rv_ltn | with_reducible exact rv_len | with_reducible exact rv_gtn | with_reducible exact rv_gen | with_reducible exact rv_addn
  | with_reducible exact rv_eq0 | with_reducible exact rv_eq1 | with_reducible exact rv_gt0 | with_reducible exact rv_noneEq | with_reducible exact rv_noneNe | with_reducible exact rv_firstEq | with_reducible exact rv_firstNe | exact rv_I0)
local macro_rules | `(tactic| walk_at "fld") => `(tactic| first
  | with_reducible apply ev_s_colour (by assumption) | with_reducible apply ev_s_time (by assumption) | with_reducible apply ev_s_let_go (by assumption) | with_reducible apply ev_s_mode (by assumption) | with_reducible apply ev_s_ring (by assumption) | with_reducible apply ev_s_group (by assumption)
  | with_reducible apply ev_s_walk_time (by assumption) | with_reducible apply ev_s_clear_time (by assumption) | with_reducible apply ev_s_rest (by assumption) | with_reducible apply ev_s_waited (by assumption) | with_reducible apply ev_s_car (by assumption) | with_reducible apply ev_s_button (by assumption)
  | with_reducible apply ev_s_least (by assumption) | with_reducible apply ev_s_gap (by assumption) | with_reducible apply ev_s_most (by assumption) | with_reducible apply ev_s_yellow_time (by assumption) | with_reducible apply ev_s_red_time (by assumption))
local macro_rules | `(tactic| walk_at "ev") => `(tactic| first
  | with_reducible exact ev_c
  | ((with_reducible apply ev_ceq); exact rfl)
  | ((with_reducible apply ev_var); exact rfl)
  | ((with_reducible apply ev_andV); walk_at "ev"; (intro _; walk_at "ev"))
  | ((with_reducible apply ev_orV); walk_at "ev"; (intro _; walk_at "ev"))
  | ((with_reducible apply ev_notV); walk_at "ev")
  | walk_at "evm"
  | ((with_reducible apply ev_op); walk_at "ev"; walk_at "ev"; walk_at "rv")
  | ((with_reducible apply ev_chain); walk_at "ev"; walk_at "ev"; walk_at "rv"; (intro _; walk_at "ev"); (intro _; walk_at "rv"))
  | (walk_at "fld"; walk_at "ev"; assumption))
local macro_rules | `(tactic| walk_at "et") => `(tactic| first
  | with_reducible exact et_yes
  | ((with_reducible apply et_and); walk_at "et"; (intro _; walk_at "et"))
  | ((with_reducible apply et_or); walk_at "et"; (intro _; walk_at "et"))
  | ((with_reducible apply et_not); walk_at "et")
  | ((with_reducible apply et_test); walk_at "ev")
  | ((with_reducible apply et_B); walk_at "ev"))
section
variable {P : Program} {w : World} {K : PySem.W.Frag} {mg : Str → Option Value} {base : Heap} {CS CC CX a : Addr} {σ : L2.St} {H H' : Hp} {ta tb te : TE} {E : XK} {n k : Nat}
def rBit : List V → Hp → V → Prop := fun vs H v => ∃ n k : Nat, vs = [.int (n : Int), .int (k : Int)] ∧ v = .bl (n.testBit k)
abbrev sp_f_has_bit : Sp := spV rBit
theorem len_f_has_bit : ∀ vs H Q E, sp_f_has_bit vs H Q E → vs.length = 2 := spV_len fun vs H v ⟨_, _, e, _⟩ => by rw [e]; rfl
theorem em_f_has_bit (ha : Ev ta σ H (.int (n : Int))) (hb : Ev tb σ H (.int (k : Int))) : Ev (tCall sp_f_has_bit [] E (tCons ta (tCons tb tNil))) σ H (.bl (n.testBit k)) := ev_callV (ea_cons ha (ea_one hb)) fun H1 _ => ⟨n, k, rfl, rfl⟩
theorem bit_is (n k : Nat) : decide (V.int (Builtin.bitAnd ((n : Int) / 2 ^ ((k : Int)).toNat) 1) = V.int 1) = n.testBit k := by
  rw [bitAnd_m1, Int.toNat_natCast, dec_int, Nat.testBit_eq_decide_div_mod_eq]
  have e : (n : Int) / 2 ^ k % 2 = ((n / 2 ^ k % 2 : Nat) : Int) := by simp
  rw [e]
  by_cases h : n / 2 ^ k % 2 = 1
  · rw [h, decide_eq_true rfl]
    rfl
  · rw [decide_eq_false h]
    exact beq_eq_false_iff_ne.mpr fun q => h (Int.ofNat.inj q)
abbrev s_f_has_bit : Stmt := top 1
theorem sc_f_has_bit : FnScope ["number", "k"] ["number", "k"] (defScope s_f_has_bit) := ⟨rfl, rfl, rfl, by decide +kernel, rfl, by decide +kernel, by decide +kernel⟩
theorem ok_f_has_bit {f : Addr} {fd : FuncData} (F : Fun K "has_bit" "has_bit" s_f_has_bit f fd) (hm : mg "has_bit" = some (.ref f)) (T : Txt K mg CS CC CX) : Cal P w K mg base 1 "has_bit" (sp_f_has_bit) := by
  have b : Binds K fd ["number", "k"] [] := F.binds (ps := ["number", "k"]) fun _ _ _ _ _ _ us hl => match us, hl with | [_, _], _ => rfl
  refine cal_of hm F b sc_f_has_bit len_f_has_bit (fun cdv A outer s H vs Q E hr h => ?_)
  obtain ⟨v, ⟨n, k, rfl, rfl⟩, q⟩ := h
  refine ⟨_, (pss_one (ps_ret (pe_cmpR op_eq (pe_op op_and (pe_op op_shr (pv 0) (pv 1)) pe_int) pe_int (nomark _)))), ?_⟩
  try dsimp only [cxOf, Cx.nox, Cx.wish]
  refine s_ret (ev_is (ev_op (ev_op (ev_op (ev_var rfl) (ev_var rfl) (rv_I (Int.natCast_nonneg k))) ev_c rv_I0) ev_c (rv_eq rfl)) ?_) q
  exact congrArg V.bl (bit_is n k)
end
end Cg

/-! Crossings: what is only asked of them. -/
namespace Cg
open PySem PySem.Spec PyProof.Rows L2 Evl
local macro_rules | `(tactic| walk_at "rv") => `(tactic| first
  | with_reducible exact rv_eqn | with_reducible exact rv_nen | with_reducible exact rv_ltn | with_reducible exact rv_len | with_reducible exact rv_gtn | with_reducible exact rv_gen | with_reducible exact rv_addn
  | with_reducible exact rv_eq0 | with_reducible exact rv_eq1 | with_reducible exact rv_gt0 | with_reducible exact rv_noneEq | with_reducible exact rv_noneNe | with_reducible exact rv_firstEq | with_reducible exact rv_firstNe | exact rv_I0)
local macro_rules | `(tactic| walk_at "fld") => `(tactic| first
  | with_reducible apply ev_s_colour (by assumption) | with_reducible apply ev_s_time (by assumption) | with_reducible apply ev_s_let_go (by assumption) | with_reducible apply ev_s_mode (by assumption) | with_reducible apply ev_s_ring (by assumption) | with_reducible apply ev_s_group (by assumption)
  | with_reducible apply ev_s_walk_time (by assumption) | with_reducible apply ev_s_clear_time (by assumption) | with_reducible apply ev_s_rest (by assumption) | with_reducible apply ev_s_waited (by assumption) | with_reducible apply ev_s_car (by assumption) | with_reducible apply ev_s_button (by assumption)
  | with_reducible apply ev_s_least (by assumption) | with_reducible apply ev_s_gap (by assumption) | with_reducible apply ev_s_most (by assumption) | with_reducible apply ev_s_yellow_time (by assumption) | with_reducible apply ev_s_red_time (by assumption))
local macro_rules | `(tactic| walk_at "ev") => `(tactic| first
  | with_reducible exact ev_c
  | ((with_reducible apply ev_ceq); exact rfl)
  | ((with_reducible apply ev_var); exact rfl)
  | ((with_reducible apply ev_andV); walk_at "ev"; (intro _; walk_at "ev"))
  | ((with_reducible apply ev_orV); walk_at "ev"; (intro _; walk_at "ev"))
  | ((with_reducible apply ev_notV); walk_at "ev")
  | walk_at "evm"
  | ((with_reducible apply ev_op); walk_at "ev"; walk_at "ev"; walk_at "rv")
  | ((with_reducible apply ev_chain); walk_at "ev"; walk_at "ev"; walk_at "rv"; (intro _; walk_at "ev"); (intro _; walk_at "rv"))
  | (walk_at "fld"; walk_at "ev"; assumption))
local macro_rules | `(tactic| walk_at "et") => `(tactic| first
  | with_reducible exact et_yes
  | ((with_reducible apply et_and); walk_at "et"; (intro _; walk_at "et"))
  | ((with_reducible apply et_or); walk_at "et"; (intro _; walk_at "et"))
  | ((with_reducible apply et_not); walk_at "et")
  | ((with_reducible apply et_test); walk_at "ev")
  | ((with_reducible apply et_B); walk_at "ev"))
local macro_rules | `(tactic| walk_at "evm") => `(tactic| first
  | ((with_reducible apply fv_c_stream); assumption; assumption; walk_at "ev"; walk_at "ev"; assumption)
  | ((with_reducible apply fv_c_last); assumption; assumption; walk_at "ev"; walk_at "ev"; assumption)
  | ((with_reducible apply fv_c_first); assumption; assumption; walk_at "ev")
  | ((with_reducible apply fv_c_cars); assumption; assumption; walk_at "ev")
  | ((with_reducible apply fv_c_streams); assumption; assumption; walk_at "ev")
  | ((with_reducible apply fv_c_lasts); assumption; assumption; walk_at "ev")
  | ((with_reducible apply fv_c_group); assumption; assumption; walk_at "ev")
  | ((with_reducible apply em_f_has_bit); walk_at "ev"; walk_at "ev")
  | ((with_reducible apply em_is_always_called); walk_at "ev"; assumption)
  | ((with_reducible apply em_are_people_over); walk_at "ev"; assumption)
  | ((with_reducible apply em_is_due); walk_at "ev"; assumption)
  | ((with_reducible apply em_has_walkers); walk_at "ev"; assumption)
  | ((with_reducible apply em_has_clearers); walk_at "ev"; assumption)
  | ((with_reducible apply fm_C_is_called); assumption; walk_at "ev"; walk_at "ev"; assumption)
  | ((with_reducible apply fm_C_is_barred); assumption; walk_at "ev"; walk_at "ev"; assumption)
  | ((with_reducible apply fm_C_is_stuck); assumption; walk_at "ev"; walk_at "ev"; assumption)
  | ((with_reducible apply fm_C_is_ready); assumption; walk_at "ev"; walk_at "ev"; assumption)
  | ((with_reducible apply fm_C_is_over); assumption; walk_at "ev"; walk_at "ev"; assumption)
  | ((with_reducible apply fm_C_heir); assumption; walk_at "ev"; walk_at "ev"; assumption)
  | ((with_reducible apply fm_C_in_colour); assumption; walk_at "ev"; walk_at "ev"; assumption)
  | ((with_reducible apply fm_C_are_crossing); assumption; walk_at "ev"; walk_at "ev"; walk_at "ev"; assumption; assumption)
  | ((with_reducible apply fm_C_is_beside); assumption; walk_at "ev"; walk_at "ev"; walk_at "ev"; assumption; assumption)
  | ((with_reducible apply fm_C_first_called); assumption; walk_at "ev"; walk_at "ev"; walk_at "ev")
  | ((with_reducible apply fm_C_is_all_red); assumption; walk_at "ev")
  | ((with_reducible apply fm_C_is_pressed); assumption; walk_at "ev")
  | ((with_reducible apply fm_C_next_group); assumption; walk_at "ev"))
section
variable {P : Program} {w : World} {K : PySem.W.Frag} {mg : Str → Option Value} {base : Heap} {CS CC CX a : Addr} {A : Ad} {m : CM} {k j r : Nat} {σ : L2.St} {H H' : Hp} {ta tb te ti : TE} {E : XK}
abbrev s_C_numbers : Stmt := inClass (top 20) 1
theorem sc_C_numbers : FnScope ["self"] ["self"] (defScope s_C_numbers) := ⟨rfl, rfl, rfl, by decide +kernel, rfl, by decide +kernel, by decide +kernel⟩
theorem ok_C_numbers {f : Addr} {fd : FuncData} (F : Fun K "numbers" "Crossing.numbers" s_C_numbers f fd) (me : Meth K CC "numbers" f) (T : Txt K mg CS CC CX) : Met P w K mg base 1 CC "numbers" (sp_C_numbers CS CC) := by
  have b : Binds K fd ["self"] [] := F.binds (ps := ["self"]) fun _ _ _ _ _ _ us hl => match us, hl with | [_], _ => rfl
  refine met_of T.cC me F b sc_C_numbers len_C_numbers (fun cdv A outer s H vs Q E hr h => ?_)
  obtain ⟨xs, ⟨A, m, rfl, hC, rfl⟩, q⟩ := h
  try dsimp only at q
  refine ⟨_, (pss_one (ps_ret (pe_listRg rfl (by rfl) T.b_list (prg_1 (by rfl) T.b_range (pe_callB call_len_seq (by rfl) T.b_len PySem.boot_len (pa_cons (pe_fld (pv 0) rfl) pa_nil)))))), ?_⟩
  dsimp only [cxOf, Cx.nox, Cx.wish]
  refine s_retL (el_is (el_listRg (n := m.ss.length) (ev_is (ev_lenS (by walk_at "ev") (sq_of hC.lst)) ?_) ?_) rfl) q
  · rw [List.length_map, hC.len]
  · have := hC.ok.len
    omega
abbrev s_C_are_crossing : Stmt := inClass (top 20) 2
theorem sc_C_are_crossing : FnScope ["self", "one", "other", "mine", "yours"] ["self", "one", "other"] (defScope s_C_are_crossing) := ⟨rfl, rfl, rfl, by decide +kernel, rfl, by decide +kernel, by decide +kernel⟩
theorem ok_C_are_crossing {f : Addr} {fd : FuncData} (F : Fun K "are_crossing" "Crossing.are_crossing" s_C_are_crossing f fd) (me : Meth K CC "are_crossing" f) (T : Txt K mg CS CC CX) : Met P w K mg base 1 CC "are_crossing" (sp_C_are_crossing CS CC) := by
  have b : Binds K fd ["self", "one", "other"] [] := F.binds (ps := ["self", "one", "other"]) fun _ _ _ _ _ _ us hl => match us, hl with | [_, _, _], _ => rfl
  refine met_of T.cC me F b sc_C_are_crossing len_C_are_crossing (fun cdv A outer s H vs Q E hr h => ?_)
  obtain ⟨v, ⟨A, m, j, k, rfl, hC, ⟨hj, hk⟩, rfl⟩, q⟩ := h
  try dsimp only at q
  refine ⟨_, (pss_cons (ps_set (i := 3) sc_C_are_crossing.nd rfl (Or.inl rfl) (pe_ix ix_list (pe_fld (pv 0) rfl) (pv 1) (fun _ _ => rfl)))
      (pss_cons (ps_set (i := 4) sc_C_are_crossing.nd rfl (Or.inl rfl) (pe_ix ix_list (pe_fld (pv 0) rfl) (pv 2) (fun _ _ => rfl)))
      (pss_one (ps_ret (pe_and (pe_cmpR op_ne (pv 1) (pv 2) (nomark _)) (pe_one (pe_or (pe_cmpR op_eq (pe_fld (pv 3) rfl) (pe_fld (pv 4) rfl) (nomark _)) (pe_one (pe_cmpR op_ne (pe_fld (pv 3) rfl) (pe_fld (pv 4) rfl) (nomark _)))))))))), ?_⟩
  dsimp only [cxOf, Cx.nox, Cx.wish]
  refine q_asg (by walk_at "ev") fun H1 e1 => ?_
  have hC1 := hC.mono e1
  refine q_asg (by walk_at "ev") fun H2 e2 => ?_
  have hC2 := hC1.mono e2
  have s1 := hC2.st hj
  have s2 := hC2.st hk
  exact s_ret (ev_is (by walk_at "ev") (by rfl)) fun H3 e3 => q H3 ((e1.trans e2).trans e3)
abbrev s_C_is_beside : Stmt := inClass (top 20) 13
theorem sc_C_is_beside : FnScope ["self", "k", "other", "mine", "yours"] ["self", "k", "other"] (defScope s_C_is_beside) := ⟨rfl, rfl, rfl, by decide +kernel, rfl, by decide +kernel, by decide +kernel⟩
theorem ok_C_is_beside {f : Addr} {fd : FuncData} (F : Fun K "is_beside" "Crossing.is_beside" s_C_is_beside f fd) (me : Meth K CC "is_beside" f) (T : Txt K mg CS CC CX) : Met P w K mg base 1 CC "is_beside" (sp_C_is_beside CS CC) := by
  have b : Binds K fd ["self", "k", "other"] [] := F.binds (ps := ["self", "k", "other"]) fun _ _ _ _ _ _ us hl => match us, hl with | [_, _, _], _ => rfl
  refine met_of T.cC me F b sc_C_is_beside len_C_is_beside (fun cdv A outer s H vs Q E hr h => ?_)
  obtain ⟨v, ⟨A, m, j, k, rfl, hC, ⟨hj, hk⟩, rfl⟩, q⟩ := h
  try dsimp only at q
  refine ⟨_, (pss_cons (ps_set (i := 3) sc_C_is_beside.nd rfl (Or.inl rfl) (pe_ix ix_list (pe_fld (pv 0) rfl) (pv 1) (fun _ _ => rfl)))
      (pss_cons (ps_set (i := 4) sc_C_is_beside.nd rfl (Or.inl rfl) (pe_ix ix_list (pe_fld (pv 0) rfl) (pv 2) (fun _ _ => rfl)))
      (pss_one (ps_ret (pe_and (pe_cmpR op_eq (pe_fld (pv 3) rfl) (pe_fld (pv 4) rfl) (nomark _)) (pe_one (pe_cmpR op_eq (pe_fld (pv 3) rfl) (pe_fld (pv 4) rfl) (nomark _)))))))), ?_⟩
  dsimp only [cxOf, Cx.nox, Cx.wish]
  refine q_asg (by walk_at "ev") fun H1 e1 => ?_
  have hC1 := hC.mono e1
  refine q_asg (by walk_at "ev") fun H2 e2 => ?_
  have hC2 := hC1.mono e2
  have s1 := hC2.st hj
  have s2 := hC2.st hk
  exact s_ret (ev_is (by walk_at "ev") (by rfl)) fun H3 e3 => q H3 ((e1.trans e2).trans e3)
abbrev s_C_is_barred : Stmt := inClass (top 20) 3
theorem sc_C_is_barred : FnScope ["self", "k"] ["self", "k"] (defScope s_C_is_barred) := ⟨rfl, rfl, rfl, by decide +kernel, rfl, by decide +kernel, by decide +kernel⟩
theorem ok_C_is_barred {f : Addr} {fd : FuncData} (F : Fun K "is_barred" "Crossing.is_barred" s_C_is_barred f fd) (me : Meth K CC "is_barred" f) (T : Txt K mg CS CC CX) (g_C_are_crossing : Met P w K mg base 1 CC "are_crossing" (sp_C_are_crossing CS CC)) : Met P w K mg base 2 CC "is_barred" (sp_C_is_barred CS CC) := by
  have b : Binds K fd ["self", "k"] [] := F.binds (ps := ["self", "k"]) fun _ _ _ _ _ _ us hl => match us, hl with | [_, _], _ => rfl
  refine met_of T.cC me F b sc_C_is_barred len_C_is_barred (fun cdv A outer s H vs Q E hr h => ?_)
  obtain ⟨v, ⟨A, m, k, rfl, hC, hk, rfl⟩, q⟩ := h
  try dsimp only at q
  have hk : k < m.ss.length := hk
  refine ⟨_, (pss_one (ps_ret (pe_and (pe_cmpR op_ne (pe_fld (pv 0) rfl) (pe_k T.k_NONE (by rfl)) (nomark _)) (pe_one (pe_m g_C_are_crossing hr (by decide) (pv 0) (pa_cons (pe_fld (pv 0) rfl) (pa_cons (pv 1) pa_nil))))))), ?_⟩
  dsimp only [cxOf, Cx.nox, Cx.wish]
  refine s_ret (ev_is (ev_andV (a := m.first.isSome) (b := m.barred k) (by walk_at "ev") fun hs => ?_) (congrArg V.bl ?_)) q
  · obtain ⟨f, hf⟩ := Option.isSome_iff_exists.mp hs
    have hfl := hC.ok.first f hf
    have e1 : Ev (tFld K (tVar 0) "first") (start ["self", "k"] [.ref A.p, .int (k : Int)]) H (.int (f : Int)) := ev_is (ev_c_first T (ev_var rfl) hC) (by rw [hf] <;> rfl)
    refine ev_is (em_C_are_crossing (ev_var rfl) e1 (ev_var rfl) hC hfl hk) ?_
    unfold CM.barred
    rw [hf] <;> rfl
  · unfold CM.barred
    cases m.first <;> rfl
abbrev s_C_is_called : Stmt := inClass (top 20) 4
theorem sc_C_is_called : FnScope ["self", "k", "stream"] ["self", "k"] (defScope s_C_is_called) := ⟨rfl, rfl, rfl, by decide +kernel, rfl, by decide +kernel, by decide +kernel⟩
theorem ok_C_is_called {f : Addr} {fd : FuncData} (F : Fun K "is_called" "Crossing.is_called" s_C_is_called f fd) (me : Meth K CC "is_called" f) (T : Txt K mg CS CC CX) (g_S_is_always_called : Met P w K mg base 1 CS "is_always_called" (sp_S_is_always_called CS)) (g_f_has_bit : Cal P w K mg base 1 "has_bit" (sp_f_has_bit)) : Met P w K mg base 2 CC "is_called" (sp_C_is_called CS CC) := by
  have b : Binds K fd ["self", "k"] [] := F.binds (ps := ["self", "k"]) fun _ _ _ _ _ _ us hl => match us, hl with | [_, _], _ => rfl
  refine met_of T.cC me F b sc_C_is_called len_C_is_called (fun cdv A outer s H vs Q E hr h => ?_)
  obtain ⟨v, ⟨A, m, k, rfl, hC, hk, rfl⟩, q⟩ := h
  try dsimp only at q
  have hk : k < m.ss.length := hk
  refine ⟨_, (pss_cons (ps_set (i := 2) sc_C_is_called.nd rfl (Or.inl rfl) (pe_ix ix_list (pe_fld (pv 0) rfl) (pv 1) (fun _ _ => rfl)))
      (pss_cons (ps_if (PW.pt (pw_or (pt_val (pe_m0 g_S_is_always_called hr (by decide) (pv 2))) (pw_or (pt_val (pe_fld (pv 2) rfl)) (pw_or (pt_val (pe_fld (pv 2) rfl)) (pw_or1 (pt_cmpR op_eq (pv 1) (pe_fld (pv 0) rfl) (nomark _))))))) (pss_one (ps_ret pe_bl)) pss_nil)
      (pss_one (ps_ret (pe_and (pe_f g_f_has_bit hr (by decide) (by rfl) (pa_cons (pe_fld (pv 0) rfl) (pa_cons (pv 1) pa_nil))) (pe_one (pe_cmpR op_ne (pe_fld (pv 2) rfl) (pe_k T.k_GREEN (by rfl)) (nomark _)))))))), ?_⟩
  dsimp only [cxOf, Cx.nox, Cx.wish]
  refine q_asg (by walk_at "ev") fun H1 e1 => ?_
  have hC1 := hC.mono e1
  have s1 := hC1.st hk
  refine q_when (b := (m.sat k).c.always || ((m.sat k).car || ((m.sat k).button || m.first == some k))) (by walk_at "et") (fun hb H2 e2 => ?_) (fun hb H2 e2 => ?_)
  · refine s_ret (ev_is ev_c (congrArg V.bl ?_)) fun H3 e3 => q H3 ((e1.trans e2).trans e3)
    unfold CM.called
    rw [hb] <;> rfl
  · have hC2 := hC1.mono e2
    have s2 := hC2.st hk
    refine s_ret (ev_is (by walk_at "ev") (congrArg V.bl ?_)) fun H3 e3 => q H3 ((e1.trans e2).trans e3)
    unfold CM.called
    rw [hb] <;> rfl
abbrev s_C_greens : Stmt := inClass (top 20) 5
theorem sc_C_greens : FnScope ["self", "k"] ["self"] (defScope s_C_greens) := ⟨rfl, rfl, rfl, by decide +kernel, rfl, by decide +kernel, by decide +kernel⟩
theorem ok_C_greens {f : Addr} {fd : FuncData} (F : Fun K "greens" "Crossing.greens" s_C_greens f fd) (me : Meth K CC "greens" f) (T : Txt K mg CS CC CX) (g_C_numbers : Met P w K mg base 1 CC "numbers" (sp_C_numbers CS CC)) : Met P w K mg base 2 CC "greens" (sp_C_greens CS CC) := by
  have b : Binds K fd ["self"] [] := F.binds (ps := ["self"]) fun _ _ _ _ _ _ us hl => match us, hl with | [_], _ => rfl
  refine met_of T.cC me F b sc_C_greens len_C_greens (fun cdv A outer s H vs Q E hr h => ?_)
  obtain ⟨xs, ⟨A, m, rfl, hC, rfl⟩, q⟩ := h
  try dsimp only at q
  refine ⟨_, (pss_one (ps_ret (pe_lc (own := [("k", 1)]) (g := gName 1) (tt := tTest (tOp rEq (tFld K (tOp (rIxL K) (tFld K (tVar 0) "streams") (tVar 1)) "colour") (tC (.int ((1 : Nat) : Int))))) rfl sc_C_greens.nd (pi_list (pe_m0 g_C_numbers hr (by decide) (pv 0))) (blkOk_by (own := [("k", 1)]) (N := ["self", "k"]) (sc := defScope s_C_greens) (by decide +kernel)) (fun _ _ _ _ _ => pg_name (i := 1) sc_C_greens.nd rfl (Or.inl rfl)) (fun _ _ _ _ _ => pts_one (pt_cmpR op_eq (pe_fld (pe_ix ix_list (pe_fld (pv 0) rfl) (pv 1) (fun _ _ => rfl)) rfl) (pe_k T.k_GREEN (by rfl)) (nomark _))) (fun _ _ _ _ _ => (pv 1))))), ?_⟩
  dsimp only [cxOf, Cx.nox, Cx.wish]
  refine s_retL (el_is (el_lc (l := m.nums) (enc := encN) (fun k => (m.sat k).colour == 1) encN (el_C_numbers (by walk_at "ev") hC) ?_ (fun _ => rfl) (fun k hk => ?_) (fun k hk _ => ?_)) rfl) q
  · unfold CM.nums
    rw [List.length_range]
    have := hC.ok.len
    omega
  · have hk := mem_nums.mp hk
    have s1 := hC.st hk
    unfold encN
    walk_at "et"
  · exact ev_var rfl
abbrev s_C_in_colour : Stmt := inClass (top 20) 6
theorem sc_C_in_colour : FnScope ["self", "ring", "k"] ["self", "ring"] (defScope s_C_in_colour) := ⟨rfl, rfl, rfl, by decide +kernel, rfl, by decide +kernel, by decide +kernel⟩
theorem ok_C_in_colour {f : Addr} {fd : FuncData} (F : Fun K "in_colour" "Crossing.in_colour" s_C_in_colour f fd) (me : Meth K CC "in_colour" f) (T : Txt K mg CS CC CX) (g_C_numbers : Met P w K mg base 1 CC "numbers" (sp_C_numbers CS CC)) : Met P w K mg base 2 CC "in_colour" (sp_C_in_colour CS CC) := by
  have b : Binds K fd ["self", "ring"] [] := F.binds (ps := ["self", "ring"]) fun _ _ _ _ _ _ us hl => match us, hl with | [_, _], _ => rfl
  refine met_of T.cC me F b sc_C_in_colour len_C_in_colour (fun cdv A outer s H vs Q E hr h => ?_)
  obtain ⟨v, ⟨A, m, r, rfl, hC, hring, rfl⟩, q⟩ := h
  try dsimp only at q
  have hring : r < 4 := hring
  refine ⟨_, (pss_cons (ps_for PassesOwn.never rfl (pi_list (pe_m0 g_C_numbers hr (by decide) (pv 0))) (pg_name (i := 2) sc_C_in_colour.nd rfl (Or.inl rfl)) (pss_one (ps_if (PW.pt (pw_and (pt_cmpR op_eq (pe_fld (pe_ix ix_list (pe_fld (pv 0) rfl) (pv 2) (fun _ _ => rfl)) rfl) (pv 1) (nomark _)) (pw_and1 (pt_cmpR op_ne (pe_fld (pe_ix ix_list (pe_fld (pv 0) rfl) (pv 2) (fun _ _ => rfl)) rfl) (pe_k T.k_RED (by rfl)) (nomark _))))) (pss_one (ps_ret (pv 2))) pss_nil)))
      (pss_one (ps_ret (pe_k T.k_NONE (by rfl))))), ?_⟩
  dsimp only [cxOf, Cx.nox, Cx.wish]
  refine q_find m.nums encN (fun k => (m.sat k).c.ring == r && (m.sat k).colour != 0) (fun σ' => ∃ x, σ' = [some (.ref A.p), some (.int (r : Int)), x]) (el_C_numbers (by walk_at "ev") hC) ⟨none, rfl⟩ (fun H1 x => Q (.int (x : Int)) H1)
    (fun x H1 e1 hf => ?_) (fun k σ' H' N hk w e hT hF => ?_) (fun σ' H' w e hn => ?_)
  · have e0 : m.inColour r = some x := hf
    have := q H1 e1
    rw [e0] at this
    exact this
  · obtain ⟨x, rfl⟩ := w
    have hk := mem_nums.mp hk
    have hC1 := hC.mono e
    have s1 := hC1.st hk
    unfold encN
    refine s_when (b := (m.sat k).c.ring == r && (m.sat k).colour != 0) (by walk_at "et") (fun hb H1 e1 => ?_) (fun hb H1 e1 => ?_)
    · exact s_ret (ev_var rfl) fun H2 e2 => hT hb H2 (e1.trans e2)
    · exact hF hb _ H1 ⟨_, rfl⟩ e1
  · have e0 : m.inColour r = none := hn
    refine s_ret ev_c fun H1 e1 => ?_
    have := q H1 (e.trans e1)
    rw [e0] at this
    exact this
abbrev s_C_is_all_red : Stmt := inClass (top 20) 7
theorem sc_C_is_all_red : FnScope ["self", "ring"] ["self"] (defScope s_C_is_all_red) := ⟨rfl, rfl, rfl, by decide +kernel, rfl, by decide +kernel, by decide +kernel⟩
theorem ok_C_is_all_red {f : Addr} {fd : FuncData} (F : Fun K "is_all_red" "Crossing.is_all_red" s_C_is_all_red f fd) (me : Meth K CC "is_all_red" f) (T : Txt K mg CS CC CX) (g_C_in_colour : Met P w K mg base 2 CC "in_colour" (sp_C_in_colour CS CC)) : Met P w K mg base 3 CC "is_all_red" (sp_C_is_all_red CS CC) := by
  have b : Binds K fd ["self"] [] := F.binds (ps := ["self"]) fun _ _ _ _ _ _ us hl => match us, hl with | [_], _ => rfl
  refine met_of T.cC me F b sc_C_is_all_red len_C_is_all_red (fun cdv A outer s H vs Q E hr h => ?_)
  obtain ⟨v, ⟨A, m, rfl, hC, rfl⟩, q⟩ := h
  try dsimp only at q
  refine ⟨_, (pss_one (ps_ret (pe_callB (cr_all rfl) (by rfl) T.b_all (by decide +kernel) (pa_cons (pe_lc (own := [("ring", 1)]) (g := gName 1) rfl sc_C_is_all_red.nd (pi_range1 (by rfl) T.b_range (pa_cons (pe_k T.k_RINGS (by rfl)) pa_nil)) (blkOk_by (own := [("ring", 1)]) (N := ["self", "ring"]) (sc := defScope s_C_is_all_red) (by decide +kernel)) (fun _ _ _ _ _ => pg_name (i := 1) sc_C_is_all_red.nd rfl (Or.inl rfl)) (fun _ _ _ _ _ => pts_nil) (fun _ _ _ _ _ => (pe_cmpR op_eq (pe_m g_C_in_colour hr (by decide) (pv 0) (pa_cons (pv 1) pa_nil)) (pe_k T.k_NONE (by rfl)) (nomark _)))) pa_nil)))), ?_⟩
  dsimp only [cxOf, Cx.nox, Cx.wish]
  refine s_ret (ev_is (ev_all (bs := (List.range 4).map fun r => (m.inColour r).isNone) (el_is (el_lcR (n := 4) (fun _ => true) (fun r => .bl (m.inColour r).isNone) (ea_one ev_c) (by decide) (fun _ => rfl) (fun r hr => et_yes) (fun r hr _ => ?_)) ?_)) (congrArg V.bl ?_)) q
  · walk_at "ev"
  · rw [filter_yes, List.map_map]
    rfl
  · rw [all_map_id]
    rfl
abbrev s_C_is_stuck : Stmt := inClass (top 20) 8
theorem sc_C_is_stuck : FnScope ["self", "k", "stream", "last"] ["self", "k"] (defScope s_C_is_stuck) := ⟨rfl, rfl, rfl, by decide +kernel, rfl, by decide +kernel, by decide +kernel⟩
theorem ok_C_is_stuck {f : Addr} {fd : FuncData} (F : Fun K "is_stuck" "Crossing.is_stuck" s_C_is_stuck f fd) (me : Meth K CC "is_stuck" f) (T : Txt K mg CS CC CX) (g_C_is_called : Met P w K mg base 2 CC "is_called" (sp_C_is_called CS CC)) (g_C_in_colour : Met P w K mg base 2 CC "in_colour" (sp_C_in_colour CS CC)) : Met P w K mg base 3 CC "is_stuck" (sp_C_is_stuck CS CC) := by
  have b : Binds K fd ["self", "k"] [] := F.binds (ps := ["self", "k"]) fun _ _ _ _ _ _ us hl => match us, hl with | [_, _], _ => rfl
  refine met_of T.cC me F b sc_C_is_stuck len_C_is_stuck (fun cdv A outer s H vs Q E hr h => ?_)
  obtain ⟨v, ⟨A, m, k, rfl, hC, hk, rfl⟩, q⟩ := h
  try dsimp only at q
  have hk : k < m.ss.length := hk
  have hring := Ok.ring_lt hC.ok k
  refine ⟨_, (pss_cons (ps_set (i := 2) sc_C_is_stuck.nd rfl (Or.inl rfl) (pe_ix ix_list (pe_fld (pv 0) rfl) (pv 1) (fun _ _ => rfl)))
      (pss_cons (ps_set (i := 3) sc_C_is_stuck.nd rfl (Or.inl rfl) (pe_ix ix_list (pe_fld (pv 0) rfl) (pe_fld (pv 2) rfl) (fun _ _ => rfl)))
      (pss_cons (ps_if (PW.pt (pw_or (pt_cmpR op_ne (pe_fld (pv 2) rfl) (pe_fld (pv 0) rfl) (nomark _)) (pw_or1 (pt_cmpR op_ne (pe_m g_C_in_colour hr (by decide) (pv 0) (pa_cons (pe_fld (pv 2) rfl) pa_nil)) (pe_k T.k_NONE (by rfl)) (nomark _))))) (pss_one (ps_ret pe_bl)) pss_nil)
      (pss_one (ps_ret (pe_and (pe_m g_C_is_called hr (by decide) (pv 0) (pa_cons (pv 1) pa_nil)) (pe_and (pe_cmpR op_ne (pv 3) (pe_k T.k_NONE (by rfl)) (nomark _)) (pe_one (pe_cmpR op_ge (pv 3) (pv 1) (nomark _)))))))))), ?_⟩
  dsimp only [cxOf, Cx.nox, Cx.wish]
  refine q_asg (by walk_at "ev") fun H1 e1 => ?_
  have hC1 := hC.mono e1
  have s1 := hC1.st hk
  refine q_asg (v := nV (m.lastOf (m.sat k).c.ring)) (by walk_at "ev") fun H2 e2 => ?_
  have hC2 := hC1.mono e2
  have s2 := hC2.st hk
  refine q_when (b := (m.sat k).c.group != m.group || (m.inColour (m.sat k).c.ring).isSome) (by walk_at "et") (fun hb H3 e3 => ?_) (fun hb H3 e3 => ?_)
  · refine s_ret (ev_is ev_c (congrArg V.bl ?_)) fun H4 e4 => q H4 (((e1.trans e2).trans e3).trans e4)
    unfold CM.stuck
    rw [if_pos]
    rw [← hb]
    cases m.inColour (m.sat k).c.ring <;> rfl
  · have hC3 := hC2.mono e3
    have es : m.stuck k = (m.called k && (m.lastOf (m.sat k).c.ring).any fun l => decide (k ≤ l)) := by
      unfold CM.stuck
      rw [if_neg]
      rw [show ((m.sat k).c.group != m.group || !(m.inColour (m.sat k).c.ring).isNone) = ((m.sat k).c.group != m.group || (m.inColour (m.sat k).c.ring).isSome) by cases m.inColour (m.sat k).c.ring <;> rfl, hb]
      decide
    refine s_ret (ev_is (ev_andV (a := m.called k) (by walk_at "ev") fun _ => ev_andV (a := (m.lastOf (m.sat k).c.ring).isSome) (b := (m.lastOf (m.sat k).c.ring).any fun l => decide (k ≤ l)) (by walk_at "ev") fun hs => ?_) (congrArg V.bl ?_)) fun H4 e4 => q H4 (((e1.trans e2).trans e3).trans e4)
    · obtain ⟨l, hl⟩ := Option.isSome_iff_exists.mp hs
      have ev4 : Ev (tVar 3) ([some (V.ref A.p), some (.int (k : Int)), some (.ref (A.adr k)), some (nV (m.lastOf (m.sat k).c.ring))]) H3 (.int (l : Int)) := ev_is (ev_var rfl) (by rw [hl] <;> rfl)
      refine ev_is (ev_op ev4 (ev_var rfl) rv_gen) ?_
      rw [hl] <;> rfl
    · rw [es]
      cases m.lastOf (m.sat k).c.ring <;> rfl
abbrev s_C_is_pressed : Stmt := inClass (top 20) 9
theorem sc_C_is_pressed : FnScope ["self", "greens", "k", "green"] ["self"] (defScope s_C_is_pressed) := ⟨rfl, rfl, rfl, by decide +kernel, rfl, by decide +kernel, by decide +kernel⟩
theorem ok_C_is_pressed {f : Addr} {fd : FuncData} (F : Fun K "is_pressed" "Crossing.is_pressed" s_C_is_pressed f fd) (me : Meth K CC "is_pressed" f) (T : Txt K mg CS CC CX) (g_C_greens : Met P w K mg base 2 CC "greens" (sp_C_greens CS CC)) (g_C_numbers : Met P w K mg base 1 CC "numbers" (sp_C_numbers CS CC)) (g_C_is_called : Met P w K mg base 2 CC "is_called" (sp_C_is_called CS CC)) (g_C_is_stuck : Met P w K mg base 3 CC "is_stuck" (sp_C_is_stuck CS CC)) (g_C_are_crossing : Met P w K mg base 1 CC "are_crossing" (sp_C_are_crossing CS CC)) : Met P w K mg base 4 CC "is_pressed" (sp_C_is_pressed CS CC) := by
  have b : Binds K fd ["self"] [] := F.binds (ps := ["self"]) fun _ _ _ _ _ _ us hl => match us, hl with | [_], _ => rfl
  refine met_of T.cC me F b sc_C_is_pressed len_C_is_pressed (fun cdv A outer s H vs Q E hr h => ?_)
  obtain ⟨v, ⟨A, m, rfl, hC, rfl⟩, q⟩ := h
  try dsimp only at q
  refine ⟨_, (pss_cons (ps_set (i := 1) sc_C_is_pressed.nd rfl (Or.inl rfl) (pe_m0 g_C_greens hr (by decide) (pv 0)))
      (pss_cons (ps_for PassesOwn.never rfl (pi_list (pe_m0 g_C_numbers hr (by decide) (pv 0))) (pg_name (i := 2) sc_C_is_pressed.nd rfl (Or.inr rfl)) (pss_one (ps_if (PW.pt (pw_and (pt_val (pe_m g_C_is_called hr (by decide) (pv 0) (pa_cons (pv 2) pa_nil))) (pw_and1 (pt_val (pe_callB (cr_any rfl) (by rfl) T.b_any (by decide +kernel) (pa_cons (pe_lc (own := [("green", 3)]) (g := gName 3) rfl sc_C_is_pressed.nd (pi_list (pv 1)) (blkOk_by (own := [("green", 3)]) (N := ["self", "greens", "k", "green"]) (sc := defScope s_C_is_pressed) (by decide +kernel)) (fun _ _ _ _ _ => pg_name (i := 3) sc_C_is_pressed.nd rfl (Or.inl rfl)) (fun _ _ _ _ _ => pts_nil) (fun _ _ _ _ _ => (pe_m g_C_are_crossing hr (by decide) (pv 0) (pa_cons (pv 2) (pa_cons (pv 3) pa_nil))))) pa_nil)))))) (pss_one (ps_ret pe_bl)) pss_nil)))
      (pss_one (ps_ret (pe_and (pe_cmpR op_gt (pe_callB call_len_seq (by rfl) T.b_len PySem.boot_len (pa_cons (pv 1) pa_nil)) pe_int (nomark _)) (pe_one (pe_callB (cr_any rfl) (by rfl) T.b_any (by decide +kernel) (pa_cons (pe_lc (own := [("k", 2)]) (g := gName 2) rfl sc_C_is_pressed.nd (pi_list (pe_m0 g_C_numbers hr (by decide) (pv 0))) (blkOk_by (own := [("k", 2)]) (N := ["self", "greens", "k", "green"]) (sc := defScope s_C_is_pressed) (by decide +kernel)) (fun _ _ _ _ _ => pg_name (i := 2) sc_C_is_pressed.nd rfl (Or.inl rfl)) (fun _ _ _ _ _ => pts_nil) (fun _ _ _ _ _ => (pe_m g_C_is_stuck hr (by decide) (pv 0) (pa_cons (pv 2) pa_nil)))) pa_nil)))))))), ?_⟩
  dsimp only [cxOf, Cx.nox, Cx.wish]
  have lenG : m.greens.length ≤ 16 := by
    have h1 := List.length_filter_le (fun k => (m.sat k).colour == 1) m.nums
    have h2 : m.nums.length = m.ss.length := List.length_range
    have h3 := hC.ok.len
    unfold CM.greens
    omega
  have lenN : m.nums.length ≤ 40000 := by
    have h2 : m.nums.length = m.ss.length := List.length_range
    have h3 := hC.ok.len
    omega
  refine q_asgL (el_C_greens (by walk_at "ev") hC) fun p0 H1 hp0 e1 h1 => ?_
  have hC1 := hC.mono e1
  refine q_find m.nums encN (fun k => m.called k && m.greens.any fun g => m.crosses k g) (fun σ' => ∃ x y, σ' = [some (.ref A.p), some (.ref p0), x, y]) (el_C_numbers (by walk_at "ev") hC1) ⟨none, none, rfl⟩ (fun H1 x => Q (.bl true) H1)
    (fun x H2 e2 hf => ?_) (fun k σ' H' N hk w e hT hF => ?_) (fun σ' H' w e hn => ?_)
  · have hx := List.find?_some hf
    have e0 : m.pressed = true := by
      unfold CM.pressed
      rw [List.any_eq_true.mpr ⟨x, List.mem_of_find?_eq_some hf, hx⟩] <;> rfl
    have := q H2 (e1.trans e2)
    rw [e0] at this
    exact this
  · obtain ⟨x, y, rfl⟩ := w
    have hk := mem_nums.mp hk
    have hC2 := hC1.mono e
    have h2 := e p0 _ h1
    unfold encN
    refine s_when (b := m.called k && m.greens.any fun g => m.crosses k g) (et_and (by walk_at "et") fun _ => et_B ?_) (fun hb H3 e3 => ?_) (fun hb H3 e3 => ?_)
    · refine ev_is (ev_any (bs := m.greens.map fun g => m.crosses k g) (el_is (el_lcAt (l := m.greens) (enc := encN) (fun _ => true) (fun g => .bl (m.crosses k g)) (ev_var rfl) (sq_of h2) (by omega) (fun _ => rfl) (fun _ _ => et_yes) (fun g hg _ => ?_)) ?_)) (congrArg V.bl ?_)
      · have hgl : g < m.ss.length := by
          have := mem_greens.mp hg
          exact colour_lt (by omega)
        unfold encN
        walk_at "ev"
      · rw [filter_yes, List.map_map]
        rfl
      · rw [any_map_id]
    · exact s_ret ev_c fun H4 e4 => hT hb H4 (e3.trans e4)
    · exact hF hb _ H3 ⟨_, _, rfl⟩ e3
  · obtain ⟨x, y, rfl⟩ := w
    have hC2 := hC1.mono e
    have h2 := e p0 _ h1
    have e0 : m.pressed = (!m.greens.isEmpty && m.nums.any m.stuck) := by
      unfold CM.pressed
      rw [show (m.nums.any fun k => m.called k && m.greens.any fun g => m.crosses k g) = false from List.any_eq_false.mpr fun k hk => List.find?_eq_none.mp hn k hk]
      rfl
    refine s_ret (ev_is (ev_andV (a := !m.greens.isEmpty) (b := m.nums.any m.stuck) (ev_is (ev_op (ev_lenS (ev_var rfl) (sq_of h2)) ev_c rv_gt0) (congrArg V.bl ?_)) fun _ => ?_) (congrArg V.bl e0.symm)) fun H3 e3 => q H3 ((e1.trans e).trans e3)
    · rw [List.length_map]
      cases m.greens <;> rfl
    · refine ev_is (ev_any (bs := m.nums.map m.stuck) (el_is (el_lc (l := m.nums) (enc := encN) (fun _ => true) (fun k => .bl (m.stuck k)) (el_C_numbers (by walk_at "ev") hC2) lenN (fun _ => rfl) (fun _ _ => et_yes) (fun k hk _ => ?_)) ?_)) (congrArg V.bl ?_)
      · have hk := mem_nums.mp hk
        unfold encN
        walk_at "ev"
      · rw [filter_yes, List.map_map]
        rfl
      · rw [any_map_id]
abbrev s_C_is_ready : Stmt := inClass (top 20) 12
theorem sc_C_is_ready : FnScope ["self", "k", "stream"] ["self", "k"] (defScope s_C_is_ready) := ⟨rfl, rfl, rfl, by decide +kernel, rfl, by decide +kernel, by decide +kernel⟩
theorem ok_C_is_ready {f : Addr} {fd : FuncData} (F : Fun K "is_ready" "Crossing.is_ready" s_C_is_ready f fd) (me : Meth K CC "is_ready" f) (T : Txt K mg CS CC CX) (g_S_is_due : Met P w K mg base 2 CS "is_due" (sp_S_is_due CS)) (g_C_is_barred : Met P w K mg base 2 CC "is_barred" (sp_C_is_barred CS CC)) (g_S_are_people_over : Met P w K mg base 1 CS "are_people_over" (sp_S_are_people_over CS)) : Met P w K mg base 3 CC "is_ready" (sp_C_is_ready CS CC) := by
  have b : Binds K fd ["self", "k"] [] := F.binds (ps := ["self", "k"]) fun _ _ _ _ _ _ us hl => match us, hl with | [_, _], _ => rfl
  refine met_of T.cC me F b sc_C_is_ready len_C_is_ready (fun cdv A outer s H vs Q E hr h => ?_)
  obtain ⟨v, ⟨A, m, k, rfl, hC, hk, rfl⟩, q⟩ := h
  try dsimp only at q
  have hk : k < m.ss.length := hk
  refine ⟨_, (pss_cons (ps_set (i := 2) sc_C_is_ready.nd rfl (Or.inl rfl) (pe_ix ix_list (pe_fld (pv 0) rfl) (pv 1) (fun _ _ => rfl)))
      (pss_cons (ps_if (PW.pt (pw_or (pt_cmpR op_eq (pv 1) (pe_fld (pv 0) rfl) (nomark _)) (pw_or (pt_cmpR op_ne (pe_fld (pv 2) rfl) (pe_k T.k_GREEN (by rfl)) (nomark _)) (pw_or1 (pt_not (pt_val (pe_m0 g_S_are_people_over hr (by decide) (pv 2)))))))) (pss_one (ps_ret pe_bl)) pss_nil)
      (pss_one (ps_ret (pe_or (pe_m0 g_S_is_due hr (by decide) (pv 2)) (pe_one (pe_m g_C_is_barred hr (by decide) (pv 0) (pa_cons (pv 1) pa_nil)))))))), ?_⟩
  dsimp only [cxOf, Cx.nox, Cx.wish]
  refine q_asg (by walk_at "ev") fun H1 e1 => ?_
  have hC1 := hC.mono e1
  have s1 := hC1.st hk
  refine q_when (b := m.first == some k || ((m.sat k).colour != 1 || !(m.sat k).peopleOver)) (by walk_at "et") (fun hb H2 e2 => ?_) (fun hb H2 e2 => ?_)
  · refine s_ret (ev_is ev_c (congrArg V.bl ?_)) fun H3 e3 => q H3 ((e1.trans e2).trans e3)
    exact (if_pos hb).symm
  · have hC2 := hC1.mono e2
    have s2 := hC2.st hk
    refine s_ret (ev_is (by walk_at "ev") (congrArg V.bl ?_)) fun H3 e3 => q H3 ((e1.trans e2).trans e3)
    exact (if_neg (by rw [hb]; decide)).symm
abbrev s_C_heir : Stmt := inClass (top 20) 14
theorem sc_C_heir : FnScope ["self", "k", "other"] ["self", "k"] (defScope s_C_heir) := ⟨rfl, rfl, rfl, by decide +kernel, rfl, by decide +kernel, by decide +kernel⟩
theorem ok_C_heir {f : Addr} {fd : FuncData} (F : Fun K "heir" "Crossing.heir" s_C_heir f fd) (me : Meth K CC "heir" f) (T : Txt K mg CS CC CX) (g_C_is_barred : Met P w K mg base 2 CC "is_barred" (sp_C_is_barred CS CC)) (g_C_is_beside : Met P w K mg base 1 CC "is_beside" (sp_C_is_beside CS CC)) (g_C_is_called : Met P w K mg base 2 CC "is_called" (sp_C_is_called CS CC)) : Met P w K mg base 3 CC "heir" (sp_C_heir CS CC) := by
  have b : Binds K fd ["self", "k"] [] := F.binds (ps := ["self", "k"]) fun _ _ _ _ _ _ us hl => match us, hl with | [_, _], _ => rfl
  refine met_of T.cC me F b sc_C_heir len_C_heir (fun cdv A outer s H vs Q E hr h => ?_)
  obtain ⟨v, ⟨A, m, k, rfl, hC, hk, rfl⟩, q⟩ := h
  try dsimp only at q
  have hk : k < m.ss.length := hk
  refine ⟨_, (pss_cons (ps_if (PW.pt (pw_and (pt_cmpR op_ne (pe_fld (pv 0) rfl) (pe_k T.k_NONE (by rfl)) (nomark _)) (pw_and (pt_cmpR op_ne (pe_fld (pv 0) rfl) (pv 1) (nomark _)) (pw_and1 (pt_val (pe_m g_C_is_beside hr (by decide) (pv 0) (pa_cons (pv 1) (pa_cons (pe_fld (pv 0) rfl) pa_nil)))))))) (pss_one (ps_ret (pe_fld (pv 0) rfl))) pss_nil)
      (pss_cons (ps_if (pt_val (pe_m g_C_is_barred hr (by decide) (pv 0) (pa_cons (pv 1) pa_nil))) (pss_one (ps_ret (pe_k T.k_NONE (by rfl)))) pss_nil)
      (pss_cons (ps_for PassesOwn.never rfl (pi_range2 (by rfl) T.b_range (pa_cons (pe_op op_add (pv 1) pe_int) (pa_cons (pe_callB call_len_seq (by rfl) T.b_len PySem.boot_len (pa_cons (pe_fld (pv 0) rfl) pa_nil)) pa_nil))) (pg_name (i := 2) sc_C_heir.nd rfl (Or.inl rfl)) (pss_one (ps_if (PW.pt (pw_and (pt_val (pe_m g_C_is_beside hr (by decide) (pv 0) (pa_cons (pv 1) (pa_cons (pv 2) pa_nil)))) (pw_and1 (pt_val (pe_m g_C_is_called hr (by decide) (pv 0) (pa_cons (pv 2) pa_nil)))))) (pss_one (ps_ret (pv 2))) pss_nil)))
      (pss_one (ps_ret (pe_k T.k_NONE (by rfl))))))), ?_⟩
  dsimp only [cxOf, Cx.nox, Cx.wish]
  refine q_when (b := m.first.any fun f => f != k && m.beside k f) (et_is (et_and (a := m.first.isSome) (by walk_at "et") fun hs => et_and (a := m.first != some k) (b := m.first.any fun f => m.beside k f) (by walk_at "et") fun _ => et_B ?_) ?_) (fun hb H1 e1 => ?_) (fun hb H1 e1 => ?_)
  · obtain ⟨f, hf⟩ := Option.isSome_iff_exists.mp hs
    have hfl := hC.ok.first f hf
    have e1 : Ev (tFld K (tVar 0) "first") (start ["self", "k", "other"] [.ref A.p, .int (k : Int)]) H (.int (f : Int)) := ev_is (ev_c_first T (ev_var rfl) hC) (by rw [hf] <;> rfl)
    refine ev_is (em_C_is_beside (ev_var rfl) (ev_var rfl) e1 hC hk hfl) ?_
    rw [hf] <;> rfl
  · cases m.first with
    | none => rfl
    | some f => rfl
  · have hC1 := hC.mono e1
    refine s_ret (ev_is (ev_c_first T (by walk_at "ev") hC1) ?_) fun H2 e2 => q H2 (e1.trans e2)
    exact congrArg nV (if_pos hb).symm
  · have hC1 := hC.mono e1
    refine q_when (b := m.barred k) (by walk_at "et") (fun hb2 H2 e2 => ?_) (fun hb2 H2 e2 => ?_)
    · refine s_ret (ev_is ev_c ?_) fun H3 e3 => q H3 ((e1.trans e2).trans e3)
      have e0 : m.heir k = none := by
        unfold CM.heir
        rw [if_neg (by rw [hb]; decide), if_pos hb2]
      exact congrArg nV e0.symm
    · have hC2 := hC1.mono e2
      have hl := hC.ok.len
      have e0 : m.heir k = ((List.range (m.ss.length - (k + 1))).map fun d => (k + 1) + d).find? fun j => m.beside k j && m.called j := by
        unfold CM.heir
        rw [if_neg (by rw [hb]; decide), if_neg (by rw [hb2]; decide)]
        exact find_behind m.ss.length k _
      refine q_findR (k + 1) m.ss.length (fun j => m.beside k j && m.called j) (fun σ' => ∃ x, σ' = [some (.ref A.p), some (.int (k : Int)), x]) (ea_cons (ev_op (ev_var rfl) ev_c (rv_addn (b := 1))) (ea_one (ev_is (ev_lenS (by walk_at "ev") (sq_of hC2.lst)) ?_))) (by omega) (by omega) ⟨none, rfl⟩ (fun H1 x => Q (.int (x : Int)) H1)
        (fun x H3 e3 hf => ?_) (fun j σ' H' N hj1 hj2 w e hT hF => ?_) (fun σ' H' w e hn => ?_)
      · rw [List.length_map, hC.len]
      · have := q H3 ((e1.trans e2).trans e3)
        rw [e0, hf] at this
        exact this
      · obtain ⟨x, rfl⟩ := w
        have hC3 := hC2.mono e
        refine s_when (b := m.beside k j && m.called j) (by walk_at "et") (fun hb H3 e3 => ?_) (fun hb H3 e3 => ?_)
        · exact s_ret (ev_var rfl) fun H4 e4 => hT hb H4 (e3.trans e4)
        · exact hF hb _ H3 ⟨_, rfl⟩ e3
      · refine s_ret ev_c fun H3 e3 => ?_
        have := q H3 (((e1.trans e2).trans e).trans e3)
        rw [e0, hn] at this
        exact this
abbrev s_C_is_over : Stmt := inClass (top 20) 15
theorem sc_C_is_over : FnScope ["self", "ring", "k"] ["self", "ring"] (defScope s_C_is_over) := ⟨rfl, rfl, rfl, by decide +kernel, rfl, by decide +kernel, by decide +kernel⟩
theorem ok_C_is_over {f : Addr} {fd : FuncData} (F : Fun K "is_over" "Crossing.is_over" s_C_is_over f fd) (me : Meth K CC "is_over" f) (T : Txt K mg CS CC CX) (g_C_in_colour : Met P w K mg base 2 CC "in_colour" (sp_C_in_colour CS CC)) (g_C_heir : Met P w K mg base 3 CC "heir" (sp_C_heir CS CC)) (g_C_is_ready : Met P w K mg base 3 CC "is_ready" (sp_C_is_ready CS CC)) : Met P w K mg base 4 CC "is_over" (sp_C_is_over CS CC) := by
  have b : Binds K fd ["self", "ring"] [] := F.binds (ps := ["self", "ring"]) fun _ _ _ _ _ _ us hl => match us, hl with | [_, _], _ => rfl
  refine met_of T.cC me F b sc_C_is_over len_C_is_over (fun cdv A outer s H vs Q E hr h => ?_)
  obtain ⟨v, ⟨A, m, r, rfl, hC, hring, rfl⟩, q⟩ := h
  try dsimp only at q
  have hring : r < 4 := hring
  refine ⟨_, (pss_cons (ps_set (i := 2) sc_C_is_over.nd rfl (Or.inl rfl) (pe_m g_C_in_colour hr (by decide) (pv 0) (pa_cons (pv 1) pa_nil)))
      (pss_cons (ps_if (pt_cmpR op_eq (pv 2) (pe_k T.k_NONE (by rfl)) (nomark _)) (pss_one (ps_ret pe_bl)) pss_nil)
      (pss_cons (ps_if (pt_cmpR op_ne (pe_m g_C_heir hr (by decide) (pv 0) (pa_cons (pv 2) pa_nil)) (pe_k T.k_NONE (by rfl)) (nomark _)) (pss_one (ps_ret pe_bl)) pss_nil)
      (pss_one (ps_ret (pe_or (pe_cmpR op_ne (pe_fld (pe_ix ix_list (pe_fld (pv 0) rfl) (pv 2) (fun _ _ => rfl)) rfl) (pe_k T.k_GREEN (by rfl)) (nomark _)) (pe_one (pe_m g_C_is_ready hr (by decide) (pv 0) (pa_cons (pv 2) pa_nil))))))))), ?_⟩
  dsimp only [cxOf, Cx.nox, Cx.wish]
  refine q_asg (v := nV (m.inColour r)) (by walk_at "ev") fun H1 e1 => ?_
  have hC1 := hC.mono e1
  cases ek : m.inColour r with
  | none =>
    refine q_when (b := true) (et_test (ev_op (ev_var rfl) ev_c (rv_noneEq (o := none)))) (fun hb H2 e2 => ?_) (fun hb H2 e2 => by cases hb)
    refine s_ret (ev_is ev_c (congrArg V.bl ?_)) fun H3 e3 => q H3 ((e1.trans e2).trans e3)
    unfold CM.over
    rw [ek]
  | some k =>
    have hk : k < m.ss.length := colour_lt (inColour_some' ek).2
    refine q_when (b := false) (et_test (ev_op (ev_var rfl) ev_c (rv_noneEq (o := some k)))) (fun hb H2 e2 => by cases hb) (fun hb H2 e2 => ?_)
    have hC2 := hC1.mono e2
    have ek' : ∀ H, Ev (tVar 2) (List.set (start ["self", "ring", "k"] [.ref A.p, .int (r : Int)]) 2 (some (nV (some k)))) H (.int (k : Int)) := fun H => ev_var rfl
    have e0 : m.over r = if (m.heir k).isSome = true then false else (m.sat k).colour != 1 || m.ready k := by
      unfold CM.over
      rw [ek]
    refine q_when (b := (m.heir k).isSome) (et_test (ev_op (em_C_heir (ev_var rfl) (ek' _) hC2 hk) ev_c rv_noneNe)) (fun hb2 H3 e3 => ?_) (fun hb2 H3 e3 => ?_)
    · refine s_ret (ev_is ev_c (congrArg V.bl ?_)) fun H4 e4 => q H4 (((e1.trans e2).trans e3).trans e4)
      rw [e0, if_pos hb2]
    · have hC3 := hC2.mono e3
      have s3 := hC3.st hk
      refine s_ret (ev_is (ev_orV (ev_op (ev_s_colour T (ev_c_stream T (ev_var rfl) (ek' _) hC3 hk) s3) ev_c rv_nen) fun _ => em_C_is_ready (ev_var rfl) (ek' _) hC3 hk) (congrArg V.bl ?_)) fun H4 e4 => q H4 (((e1.trans e2).trans e3).trans e4)
      rw [e0, if_neg (by rw [hb2]; decide)]
abbrev s_C_first_called : Stmt := inClass (top 20) 19
theorem sc_C_first_called : FnScope ["self", "ring", "group", "k", "stream"] ["self", "ring", "group"] (defScope s_C_first_called) := ⟨rfl, rfl, rfl, by decide +kernel, rfl, by decide +kernel, by decide +kernel⟩
theorem ok_C_first_called {f : Addr} {fd : FuncData} (F : Fun K "first_called" "Crossing.first_called" s_C_first_called f fd) (me : Meth K CC "first_called" f) (T : Txt K mg CS CC CX) (g_C_numbers : Met P w K mg base 1 CC "numbers" (sp_C_numbers CS CC)) (g_C_is_called : Met P w K mg base 2 CC "is_called" (sp_C_is_called CS CC)) (g_C_is_barred : Met P w K mg base 2 CC "is_barred" (sp_C_is_barred CS CC)) : Met P w K mg base 3 CC "first_called" (sp_C_first_called CS CC) := by
  have b : Binds K fd ["self", "ring", "group"] [] := F.binds (ps := ["self", "ring", "group"]) fun _ _ _ _ _ _ us hl => match us, hl with | [_, _, _], _ => rfl
  refine met_of T.cC me F b sc_C_first_called len_C_first_called (fun cdv A outer s H vs Q E hr h => ?_)
  obtain ⟨v, ⟨A, m, r, g, rfl, hC, _, rfl⟩, q⟩ := h
  try dsimp only at q
  refine ⟨_, (pss_cons (ps_for PassesOwn.never rfl (pi_list (pe_m0 g_C_numbers hr (by decide) (pv 0))) (pg_name (i := 3) sc_C_first_called.nd rfl (Or.inl rfl)) (pss_cons (ps_set (i := 4) sc_C_first_called.nd rfl (Or.inl rfl) (pe_ix ix_list (pe_fld (pv 0) rfl) (pv 3) (fun _ _ => rfl)))
        (pss_one (ps_if (PW.pt (pw_and (pt_cmpR op_eq (pe_fld (pv 4) rfl) (pv 1) (nomark _)) (pw_and (pt_cmpR op_eq (pe_fld (pv 4) rfl) (pv 2) (nomark _)) (pw_and (pt_val (pe_m g_C_is_called hr (by decide) (pv 0) (pa_cons (pv 3) pa_nil))) (pw_and1 (pt_not (pt_val (pe_m g_C_is_barred hr (by decide) (pv 0) (pa_cons (pv 3) pa_nil))))))))) (pss_one (ps_ret (pv 3))) pss_nil))))
      (pss_one (ps_ret (pe_k T.k_NONE (by rfl))))), ?_⟩
  dsimp only [cxOf, Cx.nox, Cx.wish]
  refine q_find m.nums encN (fun k => (m.sat k).c.ring == r && ((m.sat k).c.group == g && (m.called k && !m.barred k))) (fun σ' => ∃ x y, σ' = [some (.ref A.p), some (.int (r : Int)), some (.int (g : Int)), x, y]) (el_C_numbers (by walk_at "ev") hC) ⟨none, none, rfl⟩ (fun H1 x => Q (.int (x : Int)) H1)
    (fun x H1 e1 hf => ?_) (fun k σ' H' N hk w e hT hF => ?_) (fun σ' H' w e hn => ?_)
  · have e0 : m.firstCalled r g = some x := hf
    have := q H1 e1
    rw [e0] at this
    exact this
  · obtain ⟨x, y, rfl⟩ := w
    have hk := mem_nums.mp hk
    have hC1 := hC.mono e
    unfold encN
    refine q_asg (by walk_at "ev") fun H1 e1 => ?_
    have hC2 := hC1.mono e1
    have s2 := hC2.st hk
    refine s_when (b := (m.sat k).c.ring == r && ((m.sat k).c.group == g && (m.called k && !m.barred k))) (by walk_at "et") (fun hb H2 e2 => ?_) (fun hb H2 e2 => ?_)
    · exact s_ret (ev_var rfl) fun H3 e3 => hT hb H3 ((e1.trans e2).trans e3)
    · exact hF hb _ H2 ⟨_, _, rfl⟩ (e1.trans e2)
  · have e0 : m.firstCalled r g = none := hn
    refine s_ret ev_c fun H1 e1 => ?_
    have := q H1 (e.trans e1)
    rw [e0] at this
    exact this
abbrev s_C_next_group : Stmt := inClass (top 20) 21
theorem sc_C_next_group : FnScope ["self", "more", "group", "k"] ["self"] (defScope s_C_next_group) := ⟨rfl, rfl, rfl, by decide +kernel, rfl, by decide +kernel, by decide +kernel⟩
theorem ok_C_next_group {f : Addr} {fd : FuncData} (F : Fun K "next_group" "Crossing.next_group" s_C_next_group f fd) (me : Meth K CC "next_group" f) (T : Txt K mg CS CC CX) (g_C_is_called : Met P w K mg base 2 CC "is_called" (sp_C_is_called CS CC)) (g_C_numbers : Met P w K mg base 1 CC "numbers" (sp_C_numbers CS CC)) : Met P w K mg base 3 CC "next_group" (sp_C_next_group CS CC) := by
  have b : Binds K fd ["self"] [] := F.binds (ps := ["self"]) fun _ _ _ _ _ _ us hl => match us, hl with | [_], _ => rfl
  refine met_of T.cC me F b sc_C_next_group len_C_next_group (fun cdv A outer s H vs Q E hr h => ?_)
  obtain ⟨v, ⟨A, m, rfl, hC, rfl⟩, q⟩ := h
  try dsimp only at q
  refine ⟨_, (pss_cons (ps_if (pt_cmpR op_ne (pe_fld (pv 0) rfl) (pe_k T.k_NONE (by rfl)) (nomark _)) (pss_one (ps_ret (pe_fld (pe_ix ix_list (pe_fld (pv 0) rfl) (pe_fld (pv 0) rfl) (fun _ _ => rfl)) rfl))) pss_nil)
      (pss_cons (ps_for PassesOwn.never rfl (pi_range2 (by rfl) T.b_range (pa_cons pe_int (pa_cons (pe_op op_add (pe_k T.k_GROUPS (by rfl)) pe_int) pa_nil))) (pg_name (i := 1) sc_C_next_group.nd rfl (Or.inl rfl)) (pss_cons (ps_set (i := 2) sc_C_next_group.nd rfl (Or.inr rfl) (pe_op op_mod (pe_op op_add (pe_fld (pv 0) rfl) (pv 1)) (pe_k T.k_GROUPS (by rfl))))
        (pss_one (ps_if (pt_val (pe_callB (cr_any rfl) (by rfl) T.b_any (by decide +kernel) (pa_cons (pe_lc (own := [("k", 3)]) (g := gName 3) (tt := tTest (tOp rEq (tFld K (tOp (rIxL K) (tFld K (tVar 0) "streams") (tVar 3)) "group") (tVar 2))) rfl sc_C_next_group.nd (pi_list (pe_m0 g_C_numbers hr (by decide) (pv 0))) (blkOk_by (own := [("k", 3)]) (N := ["self", "more", "group", "k"]) (sc := defScope s_C_next_group) (by decide +kernel)) (fun _ _ _ _ _ => pg_name (i := 3) sc_C_next_group.nd rfl (Or.inl rfl)) (fun _ _ _ _ _ => pts_one (pt_cmpR op_eq (pe_fld (pe_ix ix_list (pe_fld (pv 0) rfl) (pv 3) (fun _ _ => rfl)) rfl) (pv 2) (nomark _))) (fun _ _ _ _ _ => (pe_m g_C_is_called hr (by decide) (pv 0) (pa_cons (pv 3) pa_nil)))) pa_nil))) (pss_one (ps_ret (pv 2))) pss_nil))))
      (pss_one (ps_ret (pe_fld (pv 0) rfl))))), ?_⟩
  dsimp only [cxOf, Cx.nox, Cx.wish]
  have lenN : m.nums.length ≤ 40000 := by
    have h2 : m.nums.length = m.ss.length := List.length_range
    have h3 := hC.ok.len
    omega
  cases hf : m.first with
  | some f =>
    have hfl := hC.ok.first f hf
    have ef : ∀ H', CrAt CS CC H' A m → Ev (tFld K (tVar 0) "first") (start ["self", "more", "group", "k"] [.ref A.p]) H' (nV (some f)) := fun H' h' => ev_is (ev_c_first T (ev_var rfl) h') (by rw [hf])
    refine q_when (b := true) (et_test (ev_op (ef H hC) ev_c (rv_noneNe (o := some f)))) (fun _ H1 e1 => ?_) (fun hb H1 e1 => by cases hb)
    have hC1 := hC.mono e1
    have s1 := hC1.st hfl
    refine s_ret (ev_is (ev_s_group T (ev_c_stream T (ev_var rfl) (ef H1 hC1) hC1 hfl) s1) ?_) fun H2 e2 => q H2 (e1.trans e2)
    unfold CM.nextGroup
    rw [hf]
  | none =>
    have ef : Ev (tFld K (tVar 0) "first") (start ["self", "more", "group", "k"] [.ref A.p]) H (nV none) := ev_is (ev_c_first T (ev_var rfl) hC) (by rw [hf])
    refine q_when (b := false) (et_test (ev_op ef ev_c (rv_noneNe (o := none)))) (fun hb H1 e1 => by cases hb) (fun _ H1 e1 => ?_)
    have hC1 := hC.mono e1
    have e0 : m.nextGroup = (((List.range (9 - 1)).map fun d => 1 + d).find? fun more => m.calledIn ((m.group + more) % 8)).elim m.group fun more => (m.group + more) % 8 := by
      unfold CM.nextGroup
      rw [hf]
      exact next_find m.group m.calledIn
    refine q_findR 1 9 (fun more => m.calledIn ((m.group + more) % 8)) (fun σ' => ∃ x y z, σ' = [some (.ref A.p), x, y, z]) (ea_cons ev_c (ea_one (ev_op ev_c ev_c (rv_addn (a := 8) (b := 1))))) (by decide) (by decide) ⟨none, none, none, rfl⟩ (fun H1 x => Q (.int (((m.group + x) % 8 : Nat) : Int)) H1)
        (fun x H3 e3 hx => ?_) (fun more σ' H' N hj1 hj2 w e hT hF => ?_) (fun σ' H' w e hn => ?_)
    · have := q H3 (e1.trans e3)
      rw [e0, hx] at this
      exact this
    · obtain ⟨x, y, z, rfl⟩ := w
      have hC2 := hC1.mono e
      refine q_asg (v := .int (((m.group + more) % 8 : Nat) : Int)) (ev_is (ev_op (ev_op (ev_c_group T (ev_var rfl) hC2) (ev_var rfl) rv_addn) ev_c (rv_I (by decide))) (congrArg V.int (Int.natCast_emod _ 8).symm)) fun H3 e3 => ?_
      have hC3 := hC2.mono e3
      refine s_when (b := m.calledIn ((m.group + more) % 8)) (et_B ?_) (fun hb H4 e4 => ?_) (fun hb H4 e4 => ?_)
      · refine ev_is (ev_any (bs := (m.nums.filter fun k => (m.sat k).c.group == (m.group + more) % 8).map m.called) (el_is (el_lc (l := m.nums) (enc := encN) (fun k => (m.sat k).c.group == (m.group + more) % 8) (fun k => .bl (m.called k)) (el_C_numbers (ev_var rfl) hC3) lenN (fun _ => rfl) (fun k hk => ?_) (fun k hk _ => ?_)) ?_)) (congrArg V.bl ?_)
        · have hk := mem_nums.mp hk
          have s3 := hC3.st hk
          unfold encN
          exact et_test (ev_op (ev_s_group T (ev_c_stream T (ev_var rfl) (ev_var rfl) hC3 hk) s3) (ev_var rfl) rv_eqn)
        · have hk := mem_nums.mp hk
          unfold encN
          walk_at "ev"
        · rw [List.map_map]
          rfl
        · rw [any_map_id]
          rfl
      · exact s_ret (ev_var rfl) fun H5 e5 => hT hb H5 ((e3.trans e4).trans e5)
      · exact hF hb _ H4 ⟨_, _, _, rfl⟩ (e3.trans e4)
    · obtain ⟨x, y, z, rfl⟩ := w
      have hC2 := hC1.mono e
      refine s_ret (ev_is (ev_c_group T (ev_var rfl) hC2) ?_) fun H3 e3 => q H3 ((e1.trans e).trans e3)
      rw [e0, hn]
      rfl
end
end Cg

/-! Crossings: what is done with them. -/
namespace Cg
open PySem PySem.Spec PyProof.Rows L2 Evl
local macro_rules | `(tactic| walk_at "rv") => `(tactic| first
  | with_reducible exact rv_eqn | with_reducible exact rv_nen | with_reducible exact rv_ltn | with_reducible exact rv_len | with_reducible exact rv_gtn | with_reducible exact rv_gen | with_reducible exact rv_addn
  | with_reducible exact rv_eq0 | with_reducible exact rv_eq1 | with_reducible exact rv_gt0 | with_reducible exact rv_noneEq | with_reducible exact rv_noneNe | with_reducible exact rv_firstEq | with_reducible exact rv_firstNe | exact rv_I0)
local macro_rules | `(tactic| walk_at "fld") => `(tactic| first
  | with_reducible apply ev_s_colour (by assumption) | with_reducible apply ev_s_time (by assumption) | with_reducible apply ev_s_let_go (by assumption) | with_reducible apply ev_s_mode (by assumption) | with_reducible apply ev_s_ring (by assumption) | with_reducible apply ev_s_group (by assumption)
  | with_reducible apply ev_s_walk_time (by assumption) | with_reducible apply ev_s_clear_time (by assumption) | with_reducible apply ev_s_rest (by assumption) | with_reducible apply ev_s_waited (by assumption) | with_reducible apply ev_s_car (by assumption) | with_reducible apply ev_s_button (by assumption)
  | with_reducible apply ev_s_least (by assumption) | with_reducible apply ev_s_gap (by assumption) | with_reducible apply ev_s_most (by assumption) | with_reducible apply ev_s_yellow_time (by assumption) | with_reducible apply ev_s_red_time (by assumption))
local macro_rules | `(tactic| walk_at "ev") => `(tactic| first
  | with_reducible exact ev_c
  | ((with_reducible apply ev_ceq); exact rfl)
  | ((with_reducible apply ev_var); exact rfl)
  | ((with_reducible apply ev_andV); walk_at "ev"; (intro _; walk_at "ev"))
  | ((with_reducible apply ev_orV); walk_at "ev"; (intro _; walk_at "ev"))
  | ((with_reducible apply ev_notV); walk_at "ev")
  | walk_at "evm"
  | ((with_reducible apply ev_op); walk_at "ev"; walk_at "ev"; walk_at "rv")
  | ((with_reducible apply ev_chain); walk_at "ev"; walk_at "ev"; walk_at "rv"; (intro _; walk_at "ev"); (intro _; walk_at "rv"))
  | (walk_at "fld"; walk_at "ev"; assumption))
local macro_rules | `(tactic| walk_at "et") => `(tactic| first
  | with_reducible exact et_yes
  | ((with_reducible apply et_and); walk_at "et"; (intro _; walk_at "et"))
  | ((with_reducible apply et_or); walk_at "et"; (intro _; walk_at "et"))
  | ((with_reducible apply et_not); walk_at "et")
  | ((with_reducible apply et_test); walk_at "ev")
  | ((with_reducible apply et_B); walk_at "ev"))
local macro_rules | `(tactic| walk_at "evm") => `(tactic| first
  | ((with_reducible apply fv_c_stream); assumption; assumption; walk_at "ev"; walk_at "ev"; assumption)
  | ((with_reducible apply fv_c_last); assumption; assumption; walk_at "ev"; walk_at "ev"; assumption)
  | ((with_reducible apply fv_c_first); assumption; assumption; walk_at "ev")
  | ((with_reducible apply fv_c_cars); assumption; assumption; walk_at "ev")
  | ((with_reducible apply fv_c_streams); assumption; assumption; walk_at "ev")
  | ((with_reducible apply fv_c_lasts); assumption; assumption; walk_at "ev")
  | ((with_reducible apply fv_c_group); assumption; assumption; walk_at "ev")
  | ((with_reducible apply em_f_has_bit); walk_at "ev"; walk_at "ev")
  | ((with_reducible apply em_is_always_called); walk_at "ev"; assumption)
  | ((with_reducible apply em_are_people_over); walk_at "ev"; assumption)
  | ((with_reducible apply em_is_due); walk_at "ev"; assumption)
  | ((with_reducible apply em_has_walkers); walk_at "ev"; assumption)
  | ((with_reducible apply em_has_clearers); walk_at "ev"; assumption)
  | ((with_reducible apply fm_C_is_called); assumption; walk_at "ev"; walk_at "ev"; assumption)
  | ((with_reducible apply fm_C_is_barred); assumption; walk_at "ev"; walk_at "ev"; assumption)
  | ((with_reducible apply fm_C_is_stuck); assumption; walk_at "ev"; walk_at "ev"; assumption)
  | ((with_reducible apply fm_C_is_ready); assumption; walk_at "ev"; walk_at "ev"; assumption)
  | ((with_reducible apply fm_C_is_over); assumption; walk_at "ev"; walk_at "ev"; assumption)
  | ((with_reducible apply fm_C_heir); assumption; walk_at "ev"; walk_at "ev"; assumption)
  | ((with_reducible apply fm_C_in_colour); assumption; walk_at "ev"; walk_at "ev"; assumption)
  | ((with_reducible apply fm_C_are_crossing); assumption; walk_at "ev"; walk_at "ev"; walk_at "ev"; assumption; assumption)
  | ((with_reducible apply fm_C_is_beside); assumption; walk_at "ev"; walk_at "ev"; walk_at "ev"; assumption; assumption)
  | ((with_reducible apply fm_C_first_called); assumption; walk_at "ev"; walk_at "ev"; walk_at "ev")
  | ((with_reducible apply fm_C_is_all_red); assumption; walk_at "ev")
  | ((with_reducible apply fm_C_is_pressed); assumption; walk_at "ev")
  | ((with_reducible apply fm_C_next_group); assumption; walk_at "ev"))
section
variable {P : Program} {w : World} {K : PySem.W.Frag} {mg : Str → Option Value} {base : Heap} {CS CC CX a : Addr} {A A1 A2 : Ad} {m m' : CM} {k j r : Nat} {σ : L2.St} {H H' H1 H2 : Hp} {ta tb te ti t1 t2 : TE} {E : XK} {D : Ends}
/-! ### what a change leaves -/
def foot (A : Ad) (b : Addr) : Prop := b = A.p ∨ b = A.ls ∨ b ∈ A.as
structure Tr (A : Ad) (H : Hp) (l : Addr) (H' : Hp) : Prop where
  ls : l = A.ls ∨ H l = none
  fr : Fr (foot A) H H'
theorem Tr.of (e : Ex H H') : Tr A H A.ls H' := ⟨.inl rfl, Fr.of e⟩
theorem Tr.same (f : Fr (foot A) H H') : Tr A H A.ls H' := ⟨.inl rfl, f⟩
theorem Tr.trans {l1 l2 : Addr} (a : Tr A H l1 H1) (b : Tr { A with ls := l1 } H1 l2 H2) : Tr A H l2 H2 := by
  refine ⟨?_, ⟨fun x o h n => b.fr.keep x o (a.fr.keep x o h n) ?_, fun x h => a.fr.dom x (b.fr.dom x h)⟩⟩
  · rcases b.ls with e | e
    · rw [e]
      exact a.ls
    · exact .inr (a.fr.dom _ e)
  · rintro (z | z | z)
    · exact n (.inl z)
    · have z : x = l1 := z
      rcases a.ls with e | e
      · exact n (.inr (.inl (z.trans e)))
      · rw [z, e] at h
        cases h
    · exact n (.inr (.inr z))
theorem Tr.ex {l1 : Addr} (a : Tr A H l1 H1) (e : Ex H1 H2) : Tr A H l1 H2 := ⟨a.ls, a.fr.trans (Fr.of e)⟩
theorem adr_mem (hC : CrAt CS CC H A m) (hk : k < m.ss.length) : A.adr k ∈ A.as := List.mem_of_getElem? (hC.adr hk)
theorem CrAt.p_ne (hC : CrAt CS CC H A m) (hk : k < m.ss.length) : A.p ≠ A.adr k := fun e => by
  obtain ⟨d1, h1⟩ := hC.obj
  obtain ⟨d2, h2⟩ := hC.st hk
  rw [e, h2] at h1
  injection h1 with h1
  injection h1 with _ _ h1
  have := congrArg List.length h1
  rw [sF_len, cF_len] at this
  cases this
/-- one stream is changed -/
theorem CrAt.set {s : SM} (hC : CrAt CS CC H A m) (hk : k < m.ss.length) (hs : StAt CS H' (A.adr k) s) (fr : Fr (· = A.adr k) H H') (hc : s.c = (m.sat k).c) : CrAt CS CC H' A (m.setS k s) := by
  obtain ⟨dk, hdk⟩ := hC.st hk
  refine ⟨?_, fr.keep _ _ hC.lst (ne_of hC.lst hdk (by intro z; cases z)), fr.keep _ _ hC.las (ne_of hC.las hdk (by intro z; cases z)), hC.nd, (by show A.as.length = (m.ss.set k s).length; rw [List.length_set]; exact hC.len), fun j a t ha ht => ?_, Ok.set hC.ok hk hc, hC.ne⟩
  · obtain ⟨d, hd⟩ := hC.obj
    exact ⟨d, fr.keep _ _ hd (hC.p_ne hk)⟩
  · have ht : (m.ss.set k s)[j]? = some t := ht
    rw [List.getElem?_set] at ht
    by_cases e : k = j
    · subst e
      rw [if_pos rfl, if_pos hk] at ht
      cases ht
      have ea : A.adr k = a := Option.some.inj ((hC.adr hk).symm.trans ha)
      rw [← ea]
      exact hs
    · rw [if_neg e] at ht
      obtain ⟨d, hd⟩ := hC.at_ j a t ha ht
      refine ⟨d, fr.keep _ _ hd fun z => e ?_⟩
      exact nd_ix hC.nd (hC.adr hk) (by rw [ha, z])
theorem fr_foot (hC : CrAt CS CC H A m) (hk : k < m.ss.length) (fr : Fr (· = A.adr k) H H') : Fr (foot A) H H' := fr.mono fun b e => .inr (.inr (by rw [e]; exact adr_mem hC hk))
theorem CrAt.turn {f : Nat → SM → SM} {i : Nat} (hC : CrAt CS CC H A (m.part f i)) (hi : i < m.ss.length) (hs : StAt CS H' (A.adr i) (f i (m.sat i))) (fr : Fr (· = A.adr i) H H') (hc : (f i (m.sat i)).c = (m.sat i).c) : CrAt CS CC H' A (m.part f (i + 1)) := by
  have h := hC.set (k := i) (by rw [part_len]; exact hi) hs fr (by rw [part_sat m f (Nat.le_refl i)]; exact hc)
  rw [part_next m f hi] at h
  exact h
/-- an attribute of the crossing stored anew -/
theorem CrAt.put {f : Str} {i : Nat} {v : V} {dx : Addr} {A' : Ad} (hC : CrAt CS CC H A m) (hd : H A.p = some (.ins CC dx (cF A m))) (hi : at1 cKeys f = some i) (hi' : i < 5) (e : (cVals A m).set i v = cVals A' m') (hp : A'.p = A.p) (hla : A'.la = A.la) (has : A'.as = A.as)
    (hls : (upd H A.p (.ins CC dx (putF f v (cF A m)))) A'.ls = some (.lst (m'.lasts.map nV))) (hss : m'.ss = m.ss) (ok : m'.Ok) (ne : A'.la ≠ A'.ls) : CrAt CS CC (upd H A.p (.ins CC dx (putF f v (cF A m)))) A' m' := by
  have keep : ∀ b o, H b = some o → (∀ C d fs, o = .ins C d fs → fs.length ≠ 5) → (upd H A.p (.ins CC dx (putF f v (cF A m)))) b = some o := fun b o h n => by
    rw [upd_ne]
    · exact h
    · intro z
      rw [z, hd] at h
      cases h
      exact n _ _ _ rfl rfl
  refine ⟨⟨dx, ?_⟩, ?_, hls, by rw [has]; exact hC.nd, by rw [has, hss]; exact hC.len, fun j a t ha ht => ?_, ok, ne⟩
  · rw [hp, upd_same]
    show some (HO.ins CC dx (putF f v (cKeys.zip (cVals A m)))) = some (HO.ins CC dx (cKeys.zip (cVals A' m')))
    rw [zip_put hi (show i < (cVals A m).length from hi'), e]
  · rw [hla, has]
    exact keep _ _ hC.lst (by intro C d fs z; cases z)
  · rw [has] at ha
    rw [hss] at ht
    obtain ⟨d, h⟩ := hC.at_ j a t ha ht
    exact ⟨d, keep _ _ h (by intro C d fs z; cases z; rw [sF_len]; decide)⟩
theorem s_cput {f : Str} {i : Nat} {v : V} {tv : TE} (T : Txt K mg CS CC CX) (hC : CrAt CS CC H A m) (hn : NoAttr K CC f) (hv : Ev tv σ H v) (ha : Ev ta σ H (.ref A.p)) (hi : at1 cKeys f = some i) (hi' : i < 5) (e : (cVals A m).set i v = cVals A m') (hss : m'.ss = m.ss) (hl : m'.lasts = m.lasts) (ok : m'.Ok)
    (q : ∀ H', CrAt CS CC H' A m' → Tr A H A.ls H' → D.nx σ H') : sFld K ta tv f D σ H := by
  refine hv H (Ex.refl H) _ fun H1 e1 => ?_
  refine ha H1 e1 _ fun H2 e2 => ?_
  have hC2 := (hC.mono e1).mono e2
  obtain ⟨dx, hd⟩ := hC2.obj
  refine ⟨A.p, CC, dx, _, rfl, hd, T.cC, hn, (by rw [cF_len]; decide), ?_⟩
  refine q _ (hC2.put hd hi hi' e rfl rfl rfl ?_ hss ok hC.ne) (Tr.same ((Fr.of (e1.trans e2)).trans (Fr.upd (.inl rfl))))
  rw [upd_ne (ne_of hC2.las hd (by intro z; cases z)), hl]
  exact hC2.las
/-! ### calls that change something -/
theorem s_m1 {g : SM → SM} {mm : Str} {s : SM} (hm : at1 sKeys mm = none) (hs : StAt CS H a s) (h : Ev ta σ H (.ref a)) (q : ∀ H', StAt CS H' a (g s) → Fr (· = a) H H' → D.nx σ H') : tDrop (tMeth CS mm (spSm CS g) [] E ta tNil) D σ H := by
  refine h H (Ex.refl H) _ fun H1 e1 => ?_
  obtain ⟨dx, hd⟩ := hs
  refine ⟨a, dx, _, rfl, e1 _ _ hd, s_no hm, a, s, rfl, ⟨dx, e1 _ _ hd⟩, fun H' h' fr => q H' h' ((Fr.of e1).trans fr)⟩
theorem s_m3 {g : SM → Bool → Bool → SM} {mm : Str} {s : SM} {b c : Bool} (hm : at1 sKeys mm = none) (hs : StAt CS H a s) (h : Ev ta σ H (.ref a)) (hb : Ev t1 σ H (.bl b)) (hc : Ev t2 σ H (.bl c)) (q : ∀ H', StAt CS H' a (g s b c) → Fr (· = a) H H' → D.nx σ H') :
    tDrop (tMeth CS mm (spSm2 CS g) [] E ta (tCons t1 (tCons t2 tNil))) D σ H := by
  refine h H (Ex.refl H) _ fun H1 e1 => ?_
  obtain ⟨dx, hd⟩ := hs
  refine ⟨a, dx, _, rfl, e1 _ _ hd, s_no hm, ?_⟩
  refine ea_cons hb (ea_one hc) H1 e1 _ fun H2 e2 => ?_
  exact ⟨a, s, b, c, rfl, ⟨dx, e2 _ _ (e1 _ _ hd)⟩, fun H' h' fr => q H' h' ((Fr.of (e1.trans e2)).trans fr)⟩
/-- what is done with a crossing -/
def spCm (CS CC : Addr) (n : Nat) (p : CM → List V → Hp → CM → Prop) : Sp := fun vs H Q _ => ∃ A m xs m', vs = .ref A.p :: xs ∧ xs.length = n ∧ CrAt CS CC H A m ∧ p m xs H m' ∧ ∀ l H', CrAt CS CC H' { A with ls := l } m' → Tr A H l H' → Q .non H'
theorem len_spCm {n : Nat} {p : CM → List V → Hp → CM → Prop} : ∀ vs H Q E, spCm CS CC n p vs H Q E → vs.length = n + 1 := fun vs H Q E ⟨_, _, _, _, e, hn, _⟩ => by rw [e, List.length_cons, hn]
theorem s_cm {n : Nat} {p : CM → List V → Hp → CM → Prop} {mm : Str} {tr : TA} {xs : List V} (hm : at1 cKeys mm = none) (hC : CrAt CS CC H A m) (h : Ev ta σ H (.ref A.p)) (ha : EvA tr σ H xs) (hn : xs.length = n) (hp : ∀ H1, Ex H H1 → p m xs H1 m')
    (q : ∀ l H', CrAt CS CC H' { A with ls := l } m' → Tr A H l H' → D.nx σ H') : tDrop (tMeth CC mm (spCm CS CC n p) [] E ta tr) D σ H := by
  refine h H (Ex.refl H) _ fun H1 e1 => ?_
  obtain ⟨dx, hd⟩ := hC.obj
  refine ⟨A.p, dx, _, rfl, e1 _ _ hd, c_no hm, ?_⟩
  refine ha H1 e1 _ fun H2 e2 => ?_
  rw [List.append_nil]
  exact ⟨A, m, xs, m', rfl, hn, hC.mono (e1.trans e2), hp H2 (e1.trans e2), fun l H' h' t => q l H' h' ⟨t.ls.imp id fun z => fresh_back (e1.trans e2) z, (Fr.of (e1.trans e2)).trans t.fr⟩⟩
/-- its argument a new list -/
theorem s_cmL {p : CM → List V → Hp → CM → Prop} {mm : Str} {xs : List V} (hm : at1 cKeys mm = none) (hC : CrAt CS CC H A m) (h : Ev ta σ H (.ref A.p)) (ha : EvL t1 σ H xs) (hp : ∀ l H1, Ex H H1 → H1 l = some (.lst xs) → p m [.ref l] H1 m')
    (q : ∀ l H', CrAt CS CC H' { A with ls := l } m' → Tr A H l H' → D.nx σ H') : tDrop (tMeth CC mm (spCm CS CC 1 p) [] E ta (tCons t1 tNil)) D σ H := by
  refine h H (Ex.refl H) _ fun H1 e1 => ?_
  obtain ⟨dx, hd⟩ := hC.obj
  refine ⟨A.p, dx, _, rfl, e1 _ _ hd, c_no hm, ?_⟩
  refine ha H1 e1 _ fun l H2 hl e2 h2 => ?_
  exact ⟨A, m, [.ref l], m', rfl, rfl, hC.mono (e1.trans e2), hp l H2 (e1.trans e2) h2, fun l H' h' t => q l H' h' ⟨t.ls.imp id fun z => fresh_back (e1.trans e2) z, (Fr.of (e1.trans e2)).trans t.fr⟩⟩
def pCalls (m : CM) (xs : List V) (_ : Hp) (m' : CM) : Prop := ∃ people : Nat, xs = [.int (people : Int)] ∧ m' = m.takeCalls people
def pNone (g : CM → CM) (m : CM) (xs : List V) (_ : Hp) (m' : CM) : Prop := xs = [] ∧ m' = g m
def pYellow (m : CM) (xs : List V) (H : Hp) (m' : CM) : Prop := ∃ l ks, xs = [.ref l] ∧ H l = some (.lst (ks.map encN)) ∧ (∀ k ∈ ks, k < m.ss.length) ∧ m' = m.yellow ks
def pLight (m : CM) (xs : List V) (_ : Hp) (m' : CM) : Prop := ∃ o, xs = [nV o] ∧ (∀ k, o = some k → k < m.ss.length) ∧ m' = m.lightO o
def pBegin (m : CM) (xs : List V) (_ : Hp) (m' : CM) : Prop := ∃ (r : Nat) (sg : Bool), xs = [.int (r : Int), .bl sg] ∧ r < 4 ∧ m' = m.beginIn r sg
def pStep (m : CM) (xs : List V) (_ : Hp) (m' : CM) : Prop := ∃ (cars people : Nat) (first : Option Nat), xs = [.int (cars : Int), .int (people : Int), nV first] ∧ (∀ k, first = some k → k < m.ss.length) ∧ m' = m.step cars people first
abbrev sp_C_take_calls (CS CC : Addr) : Sp := spCm CS CC 1 pCalls
abbrev sp_C_run_clocks (CS CC : Addr) : Sp := spCm CS CC 0 (pNone CM.runClocks)
abbrev sp_C_turn_yellow (CS CC : Addr) : Sp := spCm CS CC 1 pYellow
abbrev sp_C_end_colours (CS CC : Addr) : Sp := spCm CS CC 0 (pNone CM.ends)
abbrev sp_C_turn_green (CS CC : Addr) : Sp := spCm CS CC 1 pLight
abbrev sp_C_begin_in (CS CC : Addr) : Sp := spCm CS CC 2 pBegin
abbrev sp_C_begin_group (CS CC : Addr) : Sp := spCm CS CC 0 (pNone CM.beginGroup)
abbrev sp_C_begin_colours (CS CC : Addr) : Sp := spCm CS CC 0 (pNone CM.begins)
abbrev sp_C_step (CS CC : Addr) : Sp := spCm CS CC 3 pStep
theorem len_C_take_calls : ∀ vs H Q E, sp_C_take_calls CS CC vs H Q E → vs.length = 2 := len_spCm
theorem len_C_run_clocks : ∀ vs H Q E, sp_C_run_clocks CS CC vs H Q E → vs.length = 1 := len_spCm
theorem len_C_turn_yellow : ∀ vs H Q E, sp_C_turn_yellow CS CC vs H Q E → vs.length = 2 := len_spCm
theorem len_C_end_colours : ∀ vs H Q E, sp_C_end_colours CS CC vs H Q E → vs.length = 1 := len_spCm
theorem len_C_turn_green : ∀ vs H Q E, sp_C_turn_green CS CC vs H Q E → vs.length = 2 := len_spCm
theorem len_C_begin_in : ∀ vs H Q E, sp_C_begin_in CS CC vs H Q E → vs.length = 3 := len_spCm
theorem len_C_begin_group : ∀ vs H Q E, sp_C_begin_group CS CC vs H Q E → vs.length = 1 := len_spCm
theorem len_C_begin_colours : ∀ vs H Q E, sp_C_begin_colours CS CC vs H Q E → vs.length = 1 := len_spCm
theorem len_C_step : ∀ vs H Q E, sp_C_step CS CC vs H Q E → vs.length = 4 := len_spCm
theorem sat_ref (hC : CrAt CS CC H A m) {i : Nat} {x : V} (h : (A.as.map V.ref)[i]? = some x) : i < m.ss.length ∧ x = .ref (A.adr i) := by
  rw [List.getElem?_map] at h
  cases e : A.as[i]? with
  | none => rw [e] at h; cases h
  | some b =>
    rw [e] at h
    have lt : i < m.ss.length := by
      have := hC.len
      have := (List.getElem?_eq_some_iff.mp e).1
      omega
    refine ⟨lt, ?_⟩
    rw [hC.adr lt] at e
    cases e
    exact (Option.some.inj h).symm
abbrev s_C_take_calls : Stmt := inClass (top 20) 10
theorem sc_C_take_calls : FnScope ["self", "people", "k", "stream"] ["self", "people"] (defScope s_C_take_calls) := ⟨rfl, rfl, rfl, by decide +kernel, rfl, by decide +kernel, by decide +kernel⟩
theorem ok_C_take_calls {f : Addr} {fd : FuncData} (F : Fun K "take_calls" "Crossing.take_calls" s_C_take_calls f fd) (me : Meth K CC "take_calls" f) (T : Txt K mg CS CC CX) (g_S_remember : Met P w K mg base 2 CS "remember" (sp_S_remember CS)) (g_f_has_bit : Cal P w K mg base 1 "has_bit" (sp_f_has_bit)) : Met P w K mg base 3 CC "take_calls" (sp_C_take_calls CS CC) := by
  have b : Binds K fd ["self", "people"] [] := F.binds (ps := ["self", "people"]) fun _ _ _ _ _ _ us hl => match us, hl with | [_, _], _ => rfl
  refine met_of T.cC me F b sc_C_take_calls len_C_take_calls (fun cdv A outer s H vs Q E hr h => ?_)
  obtain ⟨A, m, xs, m', rfl, hxs, hC, ⟨people, rfl, rfl⟩, q⟩ := h
  refine ⟨_, (pss_one (ps_for PassesOwn.never rfl (pi_enum (by rfl) T.b_enumerate (pa_cons (pe_fld (pv 0) rfl) pa_nil)) (pg_tup rfl (pgs_cons (pg_name (i := 2) sc_C_take_calls.nd rfl (Or.inl rfl)) (pgs_cons (pg_name (i := 3) sc_C_take_calls.nd rfl (Or.inl rfl)) pgs_nil))) (pss_one (ps_expr (pe_m g_S_remember hr (by decide) (pv 3) (pa_cons (pe_f g_f_has_bit hr (by decide) (by rfl) (pa_cons (pe_fld (pv 0) rfl) (pa_cons (pv 2) pa_nil))) (pa_cons (pe_f g_f_has_bit hr (by decide) (by rfl) (pa_cons (pv 1) (pa_cons (pv 2) pa_nil))) pa_nil))))))), ?_⟩
  dsimp only [cxOf, Cx.nox, Cx.wish]
  have hlen := hC.len
  refine s_enum (xs := A.as.map V.ref) (ea_one (by walk_at "ev")) (sq_of hC.lst) (fun i σ' H' => ∃ x y, σ' = [some (.ref A.p), some (.int (people : Int)), x, y] ∧ CrAt CS CC H' A (m.part (fun k s => s.remember (m.cars.testBit k) (people.testBit k)) i) ∧ Fr (foot A) H H')
    (fun H1 e1 => ⟨none, none, rfl, by rw [part_zero]; exact hC.mono e1, Fr.of e1⟩) (fun i σ' H' _ p => ?_) (fun i x σ' H' H1 hx p e1 => ?_) (fun σ' H' p => ?_)
  · obtain ⟨x, y, _, hC1, _⟩ := p
    exact sq_of hC1.lst
  · obtain ⟨u, y, rfl, hC1, fr⟩ := p
    obtain ⟨hi, rfl⟩ := sat_ref hC hx
    have hC2 := hC1.mono e1
    have hi2 : i < (m.part (fun k s => s.remember (m.cars.testBit k) (people.testBit k)) i).ss.length := by rw [part_len]; exact hi
    have hs := hC2.st hi2
    rw [part_sat m _ (Nat.le_refl i)] at hs
    have ec : Ev (tFld K (tVar 0) "cars") [some (.ref A.p), some (.int (people : Int)), some (.int (i : Int)), some (.ref (A.adr i))] H1 (.int (m.cars : Int)) := ev_is (ev_c_cars T (ev_var rfl) hC2) rfl
    refine s_m3 (by decide +kernel) hs (ev_var rfl) (em_f_has_bit ec (ev_var rfl)) (em_f_has_bit (ev_var rfl) (ev_var rfl)) fun H2 h2 f2 => ⟨_, _, rfl, hC2.turn hi h2 f2 rfl, (fr.trans (Fr.of e1)).trans (fr_foot hC2 hi2 f2)⟩
  · obtain ⟨x, y, rfl, hC1, fr⟩ := p
    rw [List.length_map, hlen, part_all] at hC1
    exact q A.ls H' hC1 (Tr.same fr)
abbrev s_C_run_clocks : Stmt := inClass (top 20) 11
theorem sc_C_run_clocks : FnScope ["self", "pressed", "k", "stream"] ["self"] (defScope s_C_run_clocks) := ⟨rfl, rfl, rfl, by decide +kernel, rfl, by decide +kernel, by decide +kernel⟩
theorem ok_C_run_clocks {f : Addr} {fd : FuncData} (F : Fun K "run_clocks" "Crossing.run_clocks" s_C_run_clocks f fd) (me : Meth K CC "run_clocks" f) (T : Txt K mg CS CC CX) (g_C_is_pressed : Met P w K mg base 4 CC "is_pressed" (sp_C_is_pressed CS CC)) (g_S_run_clocks : Met P w K mg base 1 CS "run_clocks" (sp_S_run_clocks CS)) (g_C_is_barred : Met P w K mg base 2 CC "is_barred" (sp_C_is_barred CS CC)) (g_f_has_bit : Cal P w K mg base 1 "has_bit" (sp_f_has_bit)) (g_S_end_walk : Met P w K mg base 2 CS "end_walk" (sp_S_end_walk CS)) : Met P w K mg base 5 CC "run_clocks" (sp_C_run_clocks CS CC) := by
  have b : Binds K fd ["self"] [] := F.binds (ps := ["self"]) fun _ _ _ _ _ _ us hl => match us, hl with | [_], _ => rfl
  refine met_of T.cC me F b sc_C_run_clocks len_C_run_clocks (fun cdv A outer s H vs Q E hr h => ?_)
  obtain ⟨A, m, xs, m', rfl, hxs, hC, ⟨rfl, rfl⟩, q⟩ := h
  refine ⟨_, (pss_cons (ps_set (i := 1) sc_C_run_clocks.nd rfl (Or.inl rfl) (pe_m0 g_C_is_pressed hr (by decide) (pv 0)))
      (pss_one (ps_for PassesOwn.never rfl (pi_enum (by rfl) T.b_enumerate (pa_cons (pe_fld (pv 0) rfl) pa_nil)) (pg_tup rfl (pgs_cons (pg_name (i := 2) sc_C_run_clocks.nd rfl (Or.inl rfl)) (pgs_cons (pg_name (i := 3) sc_C_run_clocks.nd rfl (Or.inl rfl)) pgs_nil))) (Evl.pss_cut (ps_expr (pe_m g_S_run_clocks hr (by decide) (pv 3) (pa_cons (pe_f g_f_has_bit hr (by decide) (by rfl) (pa_cons (pe_fld (pv 0) rfl) (pa_cons (pv 2) pa_nil))) (pa_cons (pv 1) pa_nil))))
        (pss_one (ps_if (pt_val (pe_m g_C_is_barred hr (by decide) (pv 0) (pa_cons (pv 2) pa_nil))) (pss_one (ps_expr (pe_m0 g_S_end_walk hr (by decide) (pv 3)))) pss_nil)))))), ?_⟩
  dsimp only [cxOf, Cx.nox, Cx.wish]
  have hlen := hC.len
  refine q_asg (v := .bl m.pressed) (by walk_at "ev") fun H0 e0 => ?_
  have hC0 := hC.mono e0
  refine s_enum (xs := A.as.map V.ref) (ea_one (by walk_at "ev")) (sq_of hC0.lst) (fun i σ' H' => ∃ x y, σ' = [some (.ref A.p), some (.bl m.pressed), x, y] ∧ CrAt CS CC H' A (m.part (m.tick1 m.pressed) i) ∧ Fr (foot A) H H')
    (fun H1 e1 => ⟨none, none, rfl, by rw [part_zero]; exact hC0.mono e1, Fr.of (e0.trans e1)⟩) (fun i σ' H' _ p => ?_) (fun i x σ' H' H1 hx p e1 => ?_) (fun σ' H' p => ?_)
  · obtain ⟨x, y, _, hC1, _⟩ := p
    exact sq_of hC1.lst
  · obtain ⟨u, y, rfl, hC1, fr⟩ := p
    obtain ⟨hi, rfl⟩ := sat_ref hC hx
    have hC2 := hC1.mono e1
    have hi2 : i < (m.part (m.tick1 m.pressed) i).ss.length := by rw [part_len]; exact hi
    have hs := hC2.st hi2
    rw [part_sat m _ (Nat.le_refl i)] at hs
    have ec : Ev (tFld K (tVar 0) "cars") [some (.ref A.p), some (.bl m.pressed), some (.int (i : Int)), some (.ref (A.adr i))] H1 (.int (m.cars : Int)) := ev_is (ev_c_cars T (ev_var rfl) hC2) rfl
    refine q_cut (M := fun σ' H' => σ' = [some (.ref A.p), some (.bl m.pressed), some (.int (i : Int)), some (.ref (A.adr i))] ∧ StAt CS H' (A.adr i) ((m.sat i).tick (m.cars.testBit i) m.pressed) ∧ Fr (· = A.adr i) H1 H') ?_ ?_
    · exact s_m3 (by decide +kernel) hs (ev_var rfl) (em_f_has_bit ec (ev_var rfl)) (ev_var rfl) fun H2 h2 f2 => ⟨rfl, h2, f2⟩
    · rintro σ' H2 ⟨rfl, h2, f2⟩
      have hC3 : CrAt CS CC H2 A ((m.part (m.tick1 m.pressed) i).setS i ((m.sat i).tick (m.cars.testBit i) m.pressed)) := hC2.set hi2 h2 f2 (by rw [part_sat m _ (Nat.le_refl i)] <;> rfl)
      have eb : CM.barred ((m.part (m.tick1 m.pressed) i).setS i ((m.sat i).tick (m.cars.testBit i) m.pressed)) i = m.barred i := by
        refine barred_same (m := m) (m' := (m.part (m.tick1 m.pressed) i).setS i ((m.sat i).tick (m.cars.testBit i) m.pressed)) rfl (fun j => ?_) i
        rw [sat_set]
        split
        · rename_i z
          rw [z.1]
          rfl
        · exact part_c m _ (fun _ _ => tick1_c m _ _ _) i j
      have hi3 : i < ((m.part (m.tick1 m.pressed) i).setS i ((m.sat i).tick (m.cars.testBit i) m.pressed)).ss.length := by
        show i < ((m.part (m.tick1 m.pressed) i).ss.set i _).length
        rw [List.length_set]
        exact hi2
      refine s_when (b := m.barred i) (et_B (ev_is (em_C_is_barred (ev_var rfl) (ev_var rfl) hC3 hi3) (congrArg V.bl eb))) (fun hb H3 e3 => ?_) (fun hb H3 e3 => ?_)
      · refine s_m1 (by decide +kernel) (h2.mono e3) (ev_var rfl) fun H4 h4 f4 => ?_
        have e5 : m.tick1 m.pressed i (m.sat i) = ((m.sat i).tick (m.cars.testBit i) m.pressed).endWalk := if_pos hb
        have fa : Fr (· = A.adr i) H1 H4 := (f2.trans (Fr.of e3)).trans f4
        exact ⟨_, _, rfl, hC2.turn hi (by rw [e5]; exact h4) fa (tick1_c m _ _ _), (fr.trans (Fr.of e1)).trans (fr_foot hC2 hi2 fa)⟩
      · have e5 : m.tick1 m.pressed i (m.sat i) = (m.sat i).tick (m.cars.testBit i) m.pressed := if_neg (by rw [hb]; decide)
        have fa : Fr (· = A.adr i) H1 H3 := f2.trans (Fr.of e3)
        exact ⟨_, _, rfl, hC2.turn hi (by rw [e5]; exact h2.mono e3) fa (tick1_c m _ _ _), (fr.trans (Fr.of e1)).trans (fr_foot hC2 hi2 fa)⟩
  · obtain ⟨x, y, rfl, hC1, fr⟩ := p
    rw [List.length_map, hlen, part_all] at hC1
    exact q A.ls H' hC1 (Tr.same fr)
abbrev s_C_turn_yellow : Stmt := inClass (top 20) 16
theorem sc_C_turn_yellow : FnScope ["self", "numbers", "k"] ["self", "numbers"] (defScope s_C_turn_yellow) := ⟨rfl, rfl, rfl, by decide +kernel, rfl, by decide +kernel, by decide +kernel⟩
theorem ok_C_turn_yellow {f : Addr} {fd : FuncData} (F : Fun K "turn_yellow" "Crossing.turn_yellow" s_C_turn_yellow f fd) (me : Meth K CC "turn_yellow" f) (T : Txt K mg CS CC CX) (g_S_turn_yellow : Met P w K mg base 1 CS "turn_yellow" (sp_S_turn_yellow CS)) : Met P w K mg base 2 CC "turn_yellow" (sp_C_turn_yellow CS CC) := by
  have b : Binds K fd ["self", "numbers"] [] := F.binds (ps := ["self", "numbers"]) fun _ _ _ _ _ _ us hl => match us, hl with | [_, _], _ => rfl
  refine met_of T.cC me F b sc_C_turn_yellow len_C_turn_yellow (fun cdv A outer s H vs Q E hr h => ?_)
  obtain ⟨A, m, xs, m', rfl, hxs, hC, ⟨l, ks, rfl, hl, hks, rfl⟩, q⟩ := h
  refine ⟨_, (pss_one (ps_for PassesOwn.never rfl (pi_list (pv 1)) (pg_name (i := 2) sc_C_turn_yellow.nd rfl (Or.inl rfl)) (pss_one (ps_expr (pe_m0 g_S_turn_yellow hr (by decide) (pe_ix ix_list (pe_fld (pv 0) rfl) (pv 2) (fun _ _ => rfl))))))), ?_⟩
  dsimp only [cxOf, Cx.nox, Cx.wish]
  refine s_forLn (xs := ks.map encN) (ev_var rfl) (sq_of hl) (fun i σ' H' => ∃ x, σ' = [some (.ref A.p), some (.ref l), x] ∧ CrAt CS CC H' A (m.yellow (ks.take i)) ∧ H' l = some (.lst (ks.map encN)) ∧ Fr (foot A) H H')
    (fun H1 e1 => ⟨none, rfl, by rw [List.take_zero]; exact hC.mono e1, e1 _ _ hl, Fr.of e1⟩) (fun i σ' H' _ ⟨_, _, _, h, _⟩ => sq_of h) (fun i x σ' H' hx p => ?_) (fun σ' H' p => ?_)
  · obtain ⟨u, rfl, hC1, h1, fr⟩ := p
    obtain ⟨k, hk, rfl⟩ : ∃ k, ks[i]? = some k ∧ x = encN k := by
      rw [List.getElem?_map] at hx
      cases e : ks[i]? with
      | none => rw [e] at hx; cases hx
      | some k => rw [e] at hx; exact ⟨k, rfl, (Option.some.inj hx).symm⟩
    have hkl := hks k (List.mem_of_getElem? hk)
    have hk1 : k < (m.yellow (ks.take i)).ss.length := by rw [(yel_of _ m).len]; exact hkl
    have hs := hC1.st hk1
    have ea : Ev (tOp (rIxL K) (tFld K (tVar 0) "streams") (tVar 2)) [some (.ref A.p), some (.ref l), some (encN k)] H' (.ref (A.adr k)) := ev_c_stream T (ev_var rfl) (ev_var rfl) hC1 hk1
    refine s_m1 (by decide +kernel) hs ea fun H2 h2 f2 => ⟨_, rfl, ?_, ?_, fr.trans (fr_foot hC1 hk1 f2)⟩
    · rw [take_snoc hk]
      show CrAt CS CC H2 A ((ks.take i ++ [k]).foldl CM.yellow1 m)
      rw [List.foldl_append]
      show CrAt CS CC H2 A ((m.yellow (ks.take i)).yellow1 k)
      rw [yellow1_set hk1]
      exact hC1.set hk1 h2 f2 rfl
    · obtain ⟨d, hd⟩ := hs
      exact f2.keep _ _ h1 (ne_of h1 hd (by intro z; cases z))
  · obtain ⟨u, rfl, hC1, h1, fr⟩ := p
    rw [List.length_map, List.take_length] at hC1
    exact q A.ls H' hC1 (Tr.same fr)
abbrev s_C_turn_green : Stmt := inClass (top 20) 18
theorem sc_C_turn_green : FnScope ["self", "k"] ["self", "k"] (defScope s_C_turn_green) := ⟨rfl, rfl, rfl, by decide +kernel, rfl, by decide +kernel, by decide +kernel⟩
theorem ok_C_turn_green {f : Addr} {fd : FuncData} (F : Fun K "turn_green" "Crossing.turn_green" s_C_turn_green f fd) (me : Meth K CC "turn_green" f) (T : Txt K mg CS CC CX) (g_S_turn_green : Met P w K mg base 2 CS "turn_green" (sp_S_turn_green CS)) : Met P w K mg base 3 CC "turn_green" (sp_C_turn_green CS CC) := by
  have b : Binds K fd ["self", "k"] [] := F.binds (ps := ["self", "k"]) fun _ _ _ _ _ _ us hl => match us, hl with | [_, _], _ => rfl
  refine met_of T.cC me F b sc_C_turn_green len_C_turn_green (fun cdv A outer s H vs Q E hr h => ?_)
  obtain ⟨A, m, xs, m', rfl, hxs, hC, ⟨o, rfl, ho, rfl⟩, q⟩ := h
  refine ⟨_, (pss_one (ps_if (pt_cmpR op_ne (pv 1) (pe_k T.k_NONE (by rfl)) (nomark _)) (Evl.pss_cut (ps_expr (pe_m0 g_S_turn_green hr (by decide) (pe_ix ix_list (pe_fld (pv 0) rfl) (pv 1) (fun _ _ => rfl))))
        (pss_one (ps_asg (pv 1) (pg_sub (pe_fld (pv 0) rfl) (pe_fld (pe_ix ix_list (pe_fld (pv 0) rfl) (pv 1) (fun _ _ => rfl)) rfl) set_list)))) pss_nil)), ?_⟩
  dsimp only [cxOf, Cx.nox, Cx.wish]
  cases o with
  | none => exact s_when (b := false) (et_test (ev_op (ev_var rfl) ev_c (rv_noneNe (o := none)))) (fun hb => by cases hb) fun _ H1 e1 => q A.ls H1 (hC.mono e1) (Tr.of e1)
  | some k =>
    have hk := ho k rfl
    refine s_when (b := true) (et_test (ev_op (ev_var rfl) ev_c (rv_noneNe (o := some k)))) (fun _ H1 e1 => ?_) fun hb => by cases hb
    have hC1 := hC.mono e1
    have hs := hC1.st hk
    have ek : ∀ H, Ev (tVar 1) (start ["self", "k"] [.ref A.p, nV (some k)]) H (.int (k : Int)) := fun H => ev_var rfl
    refine q_cut (M := fun σ' H' => σ' = start ["self", "k"] [.ref A.p, nV (some k)] ∧ StAt CS H' (A.adr k) (m.sat k).toGreen ∧ Fr (· = A.adr k) H1 H') ?_ ?_
    · exact s_m1 (by decide +kernel) hs (ev_c_stream T (ev_var rfl) (ek _) hC1 hk) fun H2 h2 f2 => ⟨rfl, h2, f2⟩
    · rintro σ' H2 ⟨rfl, h2, f2⟩
      have hC2 := hC1.set hk h2 f2 rfl
      have hk2 : k < (m.setS k (m.sat k).toGreen).ss.length := by
        show k < (m.ss.set k _).length
        rw [List.length_set]
        exact hk
      have hr := Ok.ring_lt hC.ok k
      have hll := hC.ok.lasts
      refine s_setL hC2.las (ek _) (ev_c_lasts T (ev_var rfl) hC2) (j := (m.sat k).c.ring) (ev_is (ev_s_ring T (ev_c_stream T (ev_var rfl) (ek _) hC2 hk2) h2) rfl) (by rw [List.length_map]; show (m.sat k).c.ring < m.lasts.length; omega) fun H3 e3 => ?_
      have hC3 := hC2.mono e3
      have fa : Fr (foot A) H (upd H3 A.ls (.lst ((m.lasts.map nV).set (m.sat k).c.ring (.int (k : Int))))) := (((Fr.of e1).trans (fr_foot hC1 hk f2)).trans (Fr.of e3)).trans (Fr.upd (.inr (.inl rfl)))
      refine q A.ls _ ?_ (Tr.same fa)
      show CrAt CS CC _ A (m.light k)
      rw [light_set hk]
      obtain ⟨dp, hdp⟩ := hC3.obj
      have keep : ∀ b o, H3 b = some o → (∀ xs, o ≠ .lst xs) → upd H3 A.ls (.lst ((m.lasts.map nV).set (m.sat k).c.ring (.int (k : Int)))) b = some o := fun b o h n => by
        rw [upd_ne fun z => ?_]
        · exact h
        · rw [z, hC3.las] at h
          exact n _ (Option.some.inj h).symm
      have okl : (m.light k).Ok := Ok.light hC.ok hk
      rw [light_set hk] at okl
      refine ⟨⟨dp, keep _ _ hdp (by intro xs z; cases z)⟩, ?_, ?_, hC3.nd, hC3.len, fun j b t hb ht => ?_, okl, hC3.ne⟩
      · rw [upd_ne hC3.ne]
        exact hC3.lst
      · rw [upd_same, List.map_set]
        rfl
      · obtain ⟨d, hd⟩ := hC3.at_ j b t hb ht
        exact ⟨d, keep _ _ hd (by intro xs z; cases z)⟩
end
end Cg

/-! Crossings: a step. -/
namespace Cg
open PySem PySem.Spec PyProof.Rows L2 Evl
local macro_rules | `(tactic| walk_at "rv") => `(tactic| first
  | with_reducible exact rv_eqn | with_reducible exact rv_nen | with_reducible exact rv_ltn | with_reducible exact rv_len | with_reducible exact rv_gtn | with_reducible exact rv_gen | with_reducible exact rv_addn
  | with_reducible exact rv_eq0 | with_reducible exact rv_eq1 | with_reducible exact rv_gt0 | with_reducible exact rv_noneEq | with_reducible exact rv_noneNe | with_reducible exact rv_firstEq | with_reducible exact rv_firstNe | exact rv_I0)
local macro_rules | `(tactic| walk_at "fld") => `(tactic| first
  | with_reducible apply ev_s_colour (by assumption) | with_reducible apply ev_s_time (by assumption) | with_reducible apply ev_s_let_go (by assumption) | with_reducible apply ev_s_mode (by assumption) | with_reducible apply ev_s_ring (by assumption) | with_reducible apply ev_s_group (by assumption)
  | with_reducible apply ev_s_walk_time (by assumption) | with_reducible apply ev_s_clear_time (by assumption) | with_reducible apply ev_s_rest (by assumption) | with_reducible apply ev_s_waited (by assumption) | with_reducible apply ev_s_car (by assumption) | with_reducible apply ev_s_button (by assumption)
  | with_reducible apply ev_s_least (by assumption) | with_reducible apply ev_s_gap (by assumption) | with_reducible apply ev_s_most (by assumption) | with_reducible apply ev_s_yellow_time (by assumption) | with_reducible apply ev_s_red_time (by assumption))
local macro_rules | `(tactic| walk_at "ev") => `(tactic| first
  | with_reducible exact ev_c
  | ((with_reducible apply ev_ceq); exact rfl)
  | ((with_reducible apply ev_var); exact rfl)
  | ((with_reducible apply ev_andV); walk_at "ev"; (intro _; walk_at "ev"))
  | ((with_reducible apply ev_orV); walk_at "ev"; (intro _; walk_at "ev"))
  | ((with_reducible apply ev_notV); walk_at "ev")
  | walk_at "evm"
  | ((with_reducible apply ev_op); walk_at "ev"; walk_at "ev"; walk_at "rv")
  | ((with_reducible apply ev_chain); walk_at "ev"; walk_at "ev"; walk_at "rv"; (intro _; walk_at "ev"); (intro _; walk_at "rv"))
  | (walk_at "fld"; walk_at "ev"; assumption))
local macro_rules | `(tactic| walk_at "et") => `(tactic| first
  | with_reducible exact et_yes
  | ((with_reducible apply et_and); walk_at "et"; (intro _; walk_at "et"))
  | ((with_reducible apply et_or); walk_at "et"; (intro _; walk_at "et"))
  | ((with_reducible apply et_not); walk_at "et")
  | ((with_reducible apply et_test); walk_at "ev")
  | ((with_reducible apply et_B); walk_at "ev"))
local macro_rules | `(tactic| walk_at "evm") => `(tactic| first
  | ((with_reducible apply fv_c_stream); assumption; assumption; walk_at "ev"; walk_at "ev"; assumption)
  | ((with_reducible apply fv_c_last); assumption; assumption; walk_at "ev"; walk_at "ev"; assumption)
  | ((with_reducible apply fv_c_first); assumption; assumption; walk_at "ev")
  | ((with_reducible apply fv_c_cars); assumption; assumption; walk_at "ev")
  | ((with_reducible apply fv_c_streams); assumption; assumption; walk_at "ev")
  | ((with_reducible apply fv_c_lasts); assumption; assumption; walk_at "ev")
  | ((with_reducible apply fv_c_group); assumption; assumption; walk_at "ev")
  | ((with_reducible apply em_f_has_bit); walk_at "ev"; walk_at "ev")
  | ((with_reducible apply em_is_always_called); walk_at "ev"; assumption)
  | ((with_reducible apply em_are_people_over); walk_at "ev"; assumption)
  | ((with_reducible apply em_is_due); walk_at "ev"; assumption)
  | ((with_reducible apply em_has_walkers); walk_at "ev"; assumption)
  | ((with_reducible apply em_has_clearers); walk_at "ev"; assumption)
  | ((with_reducible apply fm_C_is_called); assumption; walk_at "ev"; walk_at "ev"; assumption)
  | ((with_reducible apply fm_C_is_barred); assumption; walk_at "ev"; walk_at "ev"; assumption)
  | ((with_reducible apply fm_C_is_stuck); assumption; walk_at "ev"; walk_at "ev"; assumption)
  | ((with_reducible apply fm_C_is_ready); assumption; walk_at "ev"; walk_at "ev"; assumption)
  | ((with_reducible apply fm_C_is_over); assumption; walk_at "ev"; walk_at "ev"; assumption)
  | ((with_reducible apply fm_C_heir); assumption; walk_at "ev"; walk_at "ev"; assumption)
  | ((with_reducible apply fm_C_in_colour); assumption; walk_at "ev"; walk_at "ev"; assumption)
  | ((with_reducible apply fm_C_are_crossing); assumption; walk_at "ev"; walk_at "ev"; walk_at "ev"; assumption; assumption)
  | ((with_reducible apply fm_C_is_beside); assumption; walk_at "ev"; walk_at "ev"; walk_at "ev"; assumption; assumption)
  | ((with_reducible apply fm_C_first_called); assumption; walk_at "ev"; walk_at "ev"; walk_at "ev")
  | ((with_reducible apply fm_C_is_all_red); assumption; walk_at "ev")
  | ((with_reducible apply fm_C_is_pressed); assumption; walk_at "ev")
  | ((with_reducible apply fm_C_next_group); assumption; walk_at "ev"))
section
variable {P : Program} {w : World} {K : PySem.W.Frag} {mg : Str → Option Value} {base : Heap} {CS CC CX a : Addr} {A A1 A2 : Ad} {m m' : CM} {k j r : Nat} {σ : L2.St} {H H' H1 H2 : Hp} {ta tb te ti t1 t2 : TE} {tz : TS} {E : XK} {D : Ends}
theorem q_cm {n : Nat} {p : CM → List V → Hp → CM → Prop} {mm : Str} {tr : TA} {xs : List V} (hm : at1 cKeys mm = none) (hC : CrAt CS CC H A m) (h : Ev ta σ H (.ref A.p)) (ha : EvA tr σ H xs) (hn : xs.length = n) (hp : ∀ H1, Ex H H1 → p m xs H1 m')
    (q : ∀ l H', CrAt CS CC H' { A with ls := l } m' → Tr A H l H' → tz D σ H') : tSeq (tDrop (tMeth CC mm (spCm CS CC n p) [] E ta tr)) tz D σ H := s_cm (D := { D with nx := tz D }) hm hC h ha hn hp q
theorem q_cmL {p : CM → List V → Hp → CM → Prop} {mm : Str} {xs : List V} (hm : at1 cKeys mm = none) (hC : CrAt CS CC H A m) (h : Ev ta σ H (.ref A.p)) (ha : EvL t1 σ H xs) (hp : ∀ l H1, Ex H H1 → H1 l = some (.lst xs) → p m [.ref l] H1 m')
    (q : ∀ l H', CrAt CS CC H' { A with ls := l } m' → Tr A H l H' → tz D σ H') : tSeq (tDrop (tMeth CC mm (spCm CS CC 1 p) [] E ta (tCons t1 tNil))) tz D σ H := s_cmL (D := { D with nx := tz D }) hm hC h ha hp q
theorem q_cput {f : Str} {i : Nat} {v : V} {tv : TE} (T : Txt K mg CS CC CX) (hC : CrAt CS CC H A m) (hn : NoAttr K CC f) (hv : Ev tv σ H v) (ha : Ev ta σ H (.ref A.p)) (hi : at1 cKeys f = some i) (hi' : i < 5) (e : (cVals A m).set i v = cVals A m') (hss : m'.ss = m.ss) (hl : m'.lasts = m.lasts) (ok : m'.Ok)
    (q : ∀ H', CrAt CS CC H' A m' → Tr A H A.ls H' → tz D σ H') : tSeq (sFld K ta tv f) tz D σ H := s_cput (D := { D with nx := tz D }) T hC hn hv ha hi hi' e hss hl ok q
theorem q_fldNew {f : Str} {tv : TE} {xs : List V} {p : Addr} (hv : EvL tv σ H xs) (ha : ∀ H, Ev ta σ H (.ref p)) (q : ∀ l H2, H l = none → Ex H H2 → H2 l = some (.lst xs) → ∃ C dx fs, H2 p = some (.ins C dx fs) ∧ Cls K C ∧ NoAttr K C f ∧ fs.length < 1000 ∧ tz D σ (upd H2 p (.ins C dx (putF f (.ref l) fs)))) : tSeq (sFld K ta tv f) tz D σ H := by
  refine hv H (Ex.refl H) _ fun l H1 hl e1 h1 => ?_
  refine ha H1 H1 (Ex.refl H1) _ fun H2 e2 => ?_
  obtain ⟨C, dx, fs, h2, c, n, lt, k⟩ := q l H2 hl (e1.trans e2) (e2 _ _ h1)
  exact ⟨p, C, dx, fs, rfl, h2, c, n, lt, k⟩
abbrev s_C_end_colours : Stmt := inClass (top 20) 17
theorem sc_C_end_colours : FnScope ["self", "stream", "is_end", "ring", "k"] ["self"] (defScope s_C_end_colours) := ⟨rfl, rfl, rfl, by decide +kernel, rfl, by decide +kernel, by decide +kernel⟩
theorem ok_C_end_colours {f : Addr} {fd : FuncData} (F : Fun K "end_colours" "Crossing.end_colours" s_C_end_colours f fd) (me : Meth K CC "end_colours" f) (T : Txt K mg CS CC CX) (g_C_turn_yellow : Met P w K mg base 2 CC "turn_yellow" (sp_C_turn_yellow CS CC)) (g_S_end_old_colours : Met P w K mg base 1 CS "end_old_colours" (sp_S_end_old_colours CS)) (g_C_is_pressed : Met P w K mg base 4 CC "is_pressed" (sp_C_is_pressed CS CC)) (g_C_is_over : Met P w K mg base 4 CC "is_over" (sp_C_is_over CS CC)) (g_C_greens : Met P w K mg base 2 CC "greens" (sp_C_greens CS CC)) (g_C_is_ready : Met P w K mg base 3 CC "is_ready" (sp_C_is_ready CS CC)) (g_C_heir : Met P w K mg base 3 CC "heir" (sp_C_heir CS CC)) : Met P w K mg base 5 CC "end_colours" (sp_C_end_colours CS CC) := by
  have b : Binds K fd ["self"] [] := F.binds (ps := ["self"]) fun _ _ _ _ _ _ us hl => match us, hl with | [_], _ => rfl
  refine met_of T.cC me F b sc_C_end_colours len_C_end_colours (fun cdv A outer s H vs Q E hr h => ?_)
  obtain ⟨A, m, xs, m', rfl, hxs, hC, ⟨rfl, rfl⟩, q⟩ := h
  refine ⟨_, (pss_cons (ps_for PassesOwn.never rfl (pi_list (pe_fld (pv 0) rfl)) (pg_name (i := 1) sc_C_end_colours.nd rfl (Or.inl rfl)) (pss_one (ps_expr (pe_m0 g_S_end_old_colours hr (by decide) (pv 1)))))
      (pss_cons (ps_set (i := 2) sc_C_end_colours.nd rfl (Or.inl rfl) (pe_callB (cr_all rfl) (by rfl) T.b_all (by decide +kernel) (pa_cons (pe_lc (own := [("ring", 3)]) (g := gName 3) rfl sc_C_end_colours.nd (pi_range1 (by rfl) T.b_range (pa_cons (pe_k T.k_RINGS (by rfl)) pa_nil)) (blkOk_by (own := [("ring", 3)]) (N := ["self", "stream", "is_end", "ring", "k"]) (sc := defScope s_C_end_colours) (by decide +kernel)) (fun _ _ _ _ _ => pg_name (i := 3) sc_C_end_colours.nd rfl (Or.inl rfl)) (fun _ _ _ _ _ => pts_nil) (fun _ _ _ _ _ => (pe_m g_C_is_over hr (by decide) (pv 0) (pa_cons (pv 3) pa_nil)))) pa_nil)))
      (pss_cons (ps_expr (pe_m g_C_turn_yellow hr (by decide) (pv 0) (pa_cons (pe_lc (own := [("k", 4)]) (g := gName 4) rfl sc_C_end_colours.nd (pi_list (pe_m0 g_C_greens hr (by decide) (pv 0))) (blkOk_by (own := [("k", 4)]) (N := ["self", "stream", "is_end", "ring", "k"]) (sc := defScope s_C_end_colours) (by decide +kernel)) (fun _ _ _ _ _ => pg_name (i := 4) sc_C_end_colours.nd rfl (Or.inl rfl)) (fun _ _ _ _ _ => pts_one (PW.pt (pw_and (pt_val (pe_m g_C_is_ready hr (by decide) (pv 0) (pa_cons (pv 4) pa_nil))) (pw_and1 (pt_cmpR op_ne (pe_m g_C_heir hr (by decide) (pv 0) (pa_cons (pv 4) pa_nil)) (pe_k T.k_NONE (by rfl)) (nomark _)))))) (fun _ _ _ _ _ => (pv 4))) pa_nil)))
      (pss_one (ps_if (PW.pt (pw_and (pt_val (pv 2)) (pw_and1 (pt_val (pe_m0 g_C_is_pressed hr (by decide) (pv 0)))))) (pss_one (ps_expr (pe_m g_C_turn_yellow hr (by decide) (pv 0) (pa_cons (pe_m0 g_C_greens hr (by decide) (pv 0)) pa_nil)))) pss_nil))))), ?_⟩
  dsimp only [cxOf, Cx.nox, Cx.wish]
  have hlen := hC.len
  have fade_is : m.part (fun _ s => s.fade) m.ss.length = m.fade := by
    rw [part_all]
    unfold CM.fade
    rw [mapIdx_id m.ss _ SM.fade fun _ _ => rfl]
  refine q_forLn (xs := A.as.map V.ref) (by walk_at "ev") (sq_of hC.lst) (fun i σ' H' => ∃ x, σ' = [some (.ref A.p), x, none, none, none] ∧ CrAt CS CC H' A (m.part (fun _ s => s.fade) i) ∧ Fr (foot A) H H')
    (fun H1 e1 => ⟨none, rfl, by rw [part_zero]; exact hC.mono e1, Fr.of e1⟩) (fun i σ' H' _ p => ?_) (fun i x σ' H' hx p => ?_) (fun σ' H' p => ?_)
  · obtain ⟨x, _, hC1, _⟩ := p
    exact sq_of hC1.lst
  · obtain ⟨u, rfl, hC1, fr⟩ := p
    obtain ⟨hi, rfl⟩ := sat_ref hC hx
    have hi2 : i < (m.part (fun _ s => s.fade) i).ss.length := by rw [part_len]; exact hi
    have hs := hC1.st hi2
    rw [part_sat m _ (Nat.le_refl i)] at hs
    exact s_m1 (by decide +kernel) hs (ev_var rfl) fun H2 h2 f2 => ⟨_, rfl, hC1.turn hi h2 f2 (fade_c _), fr.trans (fr_foot hC1 hi2 f2)⟩
  · obtain ⟨x, rfl, hC1, fr⟩ := p
    rw [List.length_map, hlen, fade_is] at hC1
    have lenG : m.fade.greens.length ≤ 40000 := by
      have h1 := List.length_filter_le (fun k => (m.fade.sat k).colour == 1) m.fade.nums
      have h2 : m.fade.nums.length = m.fade.ss.length := List.length_range
      have h3 := hC1.ok.len
      unfold CM.greens
      omega
    refine q_asg (v := .bl ((List.range 4).all m.fade.over)) ?_ fun H2 e2 => ?_
    · refine ev_is (ev_all (bs := (List.range 4).map m.fade.over) (el_is (el_lcR (n := 4) (fun _ => true) (fun r => .bl (m.fade.over r)) (ea_one ev_c) (by decide) (fun _ => rfl) (fun r hr => et_yes) (fun r hr _ => ?_)) ?_)) (congrArg V.bl ?_)
      · walk_at "ev"
      · rw [filter_yes, List.map_map]
        rfl
      · rw [all_map_id]
    · have hC2 := hC1.mono e2
      have hripe : ∀ k ∈ m.fade.ripe, k < m.fade.ss.length := fun k hk => colour_lt (by have := (mem_ripe.mp hk).1; omega)
      refine q_cmL (m' := m.fade.yellow m.fade.ripe) (xs := m.fade.ripe.map encN) (by decide +kernel) hC2 (ev_var rfl) ?_ (fun l H3 e3 h3 => ⟨l, m.fade.ripe, rfl, h3, hripe, rfl⟩) fun l H3 hC3 t3 => ?_
      · refine el_is (el_lc (l := m.fade.greens) (enc := encN) (fun k => m.fade.ready k && (m.fade.heir k).isSome) encN (el_C_greens (by walk_at "ev") hC2) lenG (fun _ => rfl) (fun k hk => ?_) (fun k hk _ => ev_var rfl)) rfl
        have hk : k < m.fade.ss.length := colour_lt (by have := mem_greens.mp hk; omega)
        unfold encN
        walk_at "et"
      · have fr3 : Tr A H l H3 := Tr.trans (Tr.same (fr.trans (Fr.of e2))) t3
        refine s_when (b := (List.range 4).all m.fade.over && (m.fade.yellow m.fade.ripe).pressed) (by walk_at "et") (fun hb H4 e4 => ?_) (fun hb H4 e4 => ?_)
        · have hC4 := hC3.mono e4
          have em : m.ends = (m.fade.yellow m.fade.ripe).yellow (m.fade.yellow m.fade.ripe).greens := if_pos hb
          rw [em] at q
          have hgr : ∀ k ∈ (m.fade.yellow m.fade.ripe).greens, k < (m.fade.yellow m.fade.ripe).ss.length := fun k hk => colour_lt (by have := mem_greens.mp hk; omega)
          exact s_cmL (xs := (m.fade.yellow m.fade.ripe).greens.map encN) (by decide +kernel) hC4 (ev_var rfl) (fl_C_greens hC4 (ev_var rfl)) (fun l H5 e5 h5 => ⟨l, _, rfl, h5, hgr, rfl⟩) fun l5 H5 hC5 t5 => q l5 H5 hC5 ((fr3.ex e4).trans t5)
        · have em : m.ends = m.fade.yellow m.fade.ripe := if_neg (by rw [hb]; decide)
          rw [em] at q
          exact q l H4 (hC3.mono e4) (fr3.ex e4)
theorem last_lt {m : CM} (o : m.Ok) {r k : Nat} (h : m.lastOf r = some k) : k < m.ss.length := by
  unfold CM.lastOf at h
  rw [List.getD_eq_getElem?_getD] at h
  cases e : m.lasts[r]? with
  | none => rw [e] at h; cases h
  | some x =>
    rw [e] at h
    have h : x = some k := h
    rw [h] at e
    exact o.last k (List.mem_of_getElem? e)
abbrev s_C_begin_in : Stmt := inClass (top 20) 20
theorem sc_C_begin_in : FnScope ["self", "ring", "some_green"] ["self", "ring", "some_green"] (defScope s_C_begin_in) := ⟨rfl, rfl, rfl, by decide +kernel, rfl, by decide +kernel, by decide +kernel⟩
theorem ok_C_begin_in {f : Addr} {fd : FuncData} (F : Fun K "begin_in" "Crossing.begin_in" s_C_begin_in f fd) (me : Meth K CC "begin_in" f) (T : Txt K mg CS CC CX) (g_C_turn_green : Met P w K mg base 3 CC "turn_green" (sp_C_turn_green CS CC)) (g_C_heir : Met P w K mg base 3 CC "heir" (sp_C_heir CS CC)) (g_C_first_called : Met P w K mg base 3 CC "first_called" (sp_C_first_called CS CC)) : Met P w K mg base 4 CC "begin_in" (sp_C_begin_in CS CC) := by
  have b : Binds K fd ["self", "ring", "some_green"] [] := F.binds (ps := ["self", "ring", "some_green"]) fun _ _ _ _ _ _ us hl => match us, hl with | [_, _, _], _ => rfl
  refine met_of T.cC me F b sc_C_begin_in len_C_begin_in (fun cdv A outer s H vs Q E hr h => ?_)
  obtain ⟨A, m, xs, m', rfl, hxs, hC, ⟨r, sg, rfl, hring, rfl⟩, q⟩ := h
  refine ⟨_, (pss_one (ps_if (pt_cmpR op_ne (pe_ix ix_list (pe_fld (pv 0) rfl) (pv 1) (fun _ _ => rfl)) (pe_k T.k_NONE (by rfl)) (nomark _)) (pss_one (ps_expr (pe_m g_C_turn_green hr (by decide) (pv 0) (pa_cons (pe_m g_C_heir hr (by decide) (pv 0) (pa_cons (pe_ix ix_list (pe_fld (pv 0) rfl) (pv 1) (fun _ _ => rfl)) pa_nil)) pa_nil)))) (pss_one (ps_if (pt_val (pv 2)) (pss_one (ps_expr (pe_m g_C_turn_green hr (by decide) (pv 0) (pa_cons (pe_m g_C_first_called hr (by decide) (pv 0) (pa_cons (pv 1) (pa_cons (pe_fld (pv 0) rfl) pa_nil))) pa_nil)))) pss_nil)))), ?_⟩
  dsimp only [cxOf, Cx.nox, Cx.wish]
  have el : ∀ H', CrAt CS CC H' A m → Ev (tOp (rIxL K) (tFld K (tVar 0) "lasts") (tVar 1)) (start ["self", "ring", "some_green"] [.ref A.p, .int (r : Int), .bl sg]) H' (nV (m.lastOf r)) := fun H' h' => ev_c_last T (ev_var rfl) (ev_var rfl) h' hring
  cases ek : m.lastOf r with
  | some k =>
    have hk := last_lt hC.ok ek
    have em : m.beginIn r sg = m.lightO (m.heir k) := by
      unfold CM.beginIn
      rw [ek]
    rw [em] at q
    refine s_if (b := true) (et_test (ev_op (ev_is (el H hC) (congrArg nV ek)) ev_c (rv_noneNe (o := some k)))) (fun _ H1 e1 => ?_) fun hb => by cases hb
    have hC1 := hC.mono e1
    exact s_cm (xs := [nV (m.heir k)]) (by decide +kernel) hC1 (ev_var rfl) (ea_one (em_C_heir (ev_var rfl) (ev_is (el H1 hC1) (congrArg nV ek)) hC1 hk)) rfl (fun H2 _ => ⟨_, rfl, fun j hj => (heir_some hC.ok hj).2, rfl⟩) fun l H2 hC2 t2 => q l H2 hC2 ((Tr.of e1).trans t2)
  | none =>
    refine s_if (b := false) (et_test (ev_op (ev_is (el H hC) (congrArg nV ek)) ev_c (rv_noneNe (o := none)))) (fun hb => by cases hb) fun _ H1 e1 => ?_
    have hC1 := hC.mono e1
    cases hsg : sg with
    | true =>
      have em : m.beginIn r sg = m.lightO (m.firstCalled r m.group) := by
        unfold CM.beginIn
        rw [ek, hsg]
        rfl
      rw [em] at q
      refine s_when (b := true) (et_B (ev_var rfl)) (fun _ H2 e2 => ?_) fun hb => by cases hb
      have hC2 := hC1.mono e2
      exact s_cm (xs := [nV (m.firstCalled r m.group)]) (by decide +kernel) hC2 (ev_var rfl) (ea_one (em_C_first_called (ev_var rfl) (ev_var rfl) (ev_c_group T (ev_var rfl) hC2) hC2)) rfl (fun H2 _ => ⟨_, rfl, fun j hj => (firstCalled_some hj).2, rfl⟩) fun l H3 hC3 t3 => q l H3 hC3 ((Tr.of (e1.trans e2)).trans t3)
    | false =>
      have em : m.beginIn r sg = m := by
        unfold CM.beginIn
        rw [ek, hsg]
        rfl
      rw [em] at q
      exact s_when (b := false) (et_B (ev_var rfl)) (fun hb => by cases hb) fun _ H2 e2 => q A.ls H2 (hC1.mono e2) (Tr.of (e1.trans e2))
theorem foldl_range {α : Type} (f : α → Nat → α) (a : α) (i : Nat) : (List.range (i + 1)).foldl f a = f ((List.range i).foldl f a) i := by
  rw [List.range_succ, List.foldl_append]
  rfl
abbrev s_C_begin_group : Stmt := inClass (top 20) 22
theorem sc_C_begin_group : FnScope ["self", "ring"] ["self"] (defScope s_C_begin_group) := ⟨rfl, rfl, rfl, by decide +kernel, rfl, by decide +kernel, by decide +kernel⟩
theorem ok_C_begin_group {f : Addr} {fd : FuncData} (F : Fun K "begin_group" "Crossing.begin_group" s_C_begin_group f fd) (me : Meth K CC "begin_group" f) (T : Txt K mg CS CC CX) (g_C_next_group : Met P w K mg base 3 CC "next_group" (sp_C_next_group CS CC)) (g_C_turn_green : Met P w K mg base 3 CC "turn_green" (sp_C_turn_green CS CC)) (g_C_first_called : Met P w K mg base 3 CC "first_called" (sp_C_first_called CS CC)) : Met P w K mg base 4 CC "begin_group" (sp_C_begin_group CS CC) := by
  have b : Binds K fd ["self"] [] := F.binds (ps := ["self"]) fun _ _ _ _ _ _ us hl => match us, hl with | [_], _ => rfl
  refine met_of T.cC me F b sc_C_begin_group len_C_begin_group (fun cdv A outer s H vs Q E hr h => ?_)
  obtain ⟨A, m, xs, m', rfl, hxs, hC, ⟨rfl, rfl⟩, q⟩ := h
  refine ⟨_, (pss_cons (ps_fld (pv 0) (pe_m0 g_C_next_group hr (by decide) (pv 0)) rfl)
      (pss_cons (ps_fld (pv 0) (pe_lc (own := [("ring", 1)]) (g := gName 1) rfl sc_C_begin_group.nd (pi_range1 (by rfl) T.b_range (pa_cons (pe_k T.k_RINGS (by rfl)) pa_nil)) (blkOk_by (own := [("ring", 1)]) (N := ["self", "ring"]) (sc := defScope s_C_begin_group) (by decide +kernel)) (fun _ _ _ _ _ => pg_name (i := 1) sc_C_begin_group.nd rfl (Or.inl rfl)) (fun _ _ _ _ _ => pts_nil) (fun _ _ _ _ _ => (pe_k T.k_NONE (by rfl)))) rfl)
      (pss_one (ps_for PassesOwn.never rfl (pi_range1 (by rfl) T.b_range (pa_cons (pe_k T.k_RINGS (by rfl)) pa_nil)) (pg_name (i := 1) sc_C_begin_group.nd rfl (Or.inl rfl)) (pss_one (ps_expr (pe_m g_C_turn_green hr (by decide) (pv 0) (pa_cons (pe_m g_C_first_called hr (by decide) (pv 0) (pa_cons (pv 1) (pa_cons (pe_fld (pv 0) rfl) pa_nil))) pa_nil)))))))), ?_⟩
  dsimp only [cxOf, Cx.nox, Cx.wish]
  have hng := nextGroup_lt hC.ok
  have ok1 : ({ m with group := m.nextGroup } : CM).Ok := { pos := hC.ok.pos, len := hC.ok.len, ring := hC.ok.ring, grp := hC.ok.grp, mode := hC.ok.mode, group := hng, lasts := hC.ok.lasts, last := hC.ok.last, first := hC.ok.first }
  refine q_cput (i := 1) (m' := { m with group := m.nextGroup }) T hC T.nC_group (by walk_at "ev") (ev_var rfl) (by decide +kernel) (by decide) rfl rfl rfl ok1 fun H1 hC1 t1 => ?_
  refine q_fldNew (xs := (List.replicate 4 (none : Option Nat)).map nV) (el_is (el_lcR (σ := start ["self", "ring"] [.ref A.p]) (n := 4) (fun _ => true) (fun _ => nV none) (ea_one ev_c) (by decide) (fun _ => rfl) (fun _ _ => et_yes) (fun _ _ _ => ev_ceq rfl)) rfl) (fun _ => ev_var rfl) fun l H3 hl e3 h3 => ?_
  have hC3 := hC1.mono e3
  obtain ⟨dx, hd⟩ := hC3.obj
  refine ⟨CC, dx, _, hd, T.cC, T.nC_lasts, (by rw [cF_len]; decide), ?_⟩
  have lp : l ≠ A.p := ne_of h3 hd (by intro z; cases z)
  have lla : A.la ≠ l := fun z => by
    have := hC1.lst
    rw [z, hl] at this
    cases this
  have hC4 : CrAt CS CC (upd H3 A.p (.ins CC dx (putF "lasts" (.ref l) (cF A { m with group := m.nextGroup })))) { A with ls := l } m.turned := hC3.put (i := 2) (A' := { A with ls := l }) hd (by decide +kernel) (by decide) rfl rfl rfl rfl (by
    rw [upd_ne lp]
    exact h3) rfl (Ok.turned hC.ok) lla
  have t4 : Tr A H l (upd H3 A.p (.ins CC dx (putF "lasts" (.ref l) (cF A { m with group := m.nextGroup })))) := ⟨.inr (t1.fr.dom _ hl), (t1.fr.trans (Fr.of e3)).trans (Fr.upd (.inl rfl))⟩
  refine s_forR1 (n := 4) (ea_one ev_c) (by decide) (fun i σ' H' => ∃ x l, σ' = [some (.ref A.p), x] ∧ CrAt CS CC H' { A with ls := l } ((List.range i).foldl CM.firstIn m.turned) ∧ Tr A H l H') (fun H5 e5 => ⟨none, l, rfl, hC4.mono e5, t4.ex e5⟩)
    (fun i σ' H' hi p => ?_) (fun σ' H' p => ?_)
  · obtain ⟨x, l', rfl, hC5, t5⟩ := p
    refine s_cm (m' := (List.range (i + 1)).foldl CM.firstIn m.turned) (xs := [nV (((List.range i).foldl CM.firstIn m.turned).firstCalled i ((List.range i).foldl CM.firstIn m.turned).group)]) (by decide +kernel) hC5 (ev_var rfl) (ea_one (fm_C_first_called hC5 (ev_var rfl) (ev_var rfl) (fv_c_group hC5 T (ev_var rfl)))) rfl (fun H6 _ => ⟨_, rfl, fun j hj => (firstCalled_some hj).2, ?_⟩) fun l6 H6 hC6 t6 => ⟨_, l6, rfl, hC6, t5.trans t6⟩
    rw [foldl_range]
    rfl
  · obtain ⟨x, l', rfl, hC5, t5⟩ := p
    exact q l' H' hC5 t5
abbrev s_C_begin_colours : Stmt := inClass (top 20) 23
theorem sc_C_begin_colours : FnScope ["self", "some_green", "ring", "k"] ["self"] (defScope s_C_begin_colours) := ⟨rfl, rfl, rfl, by decide +kernel, rfl, by decide +kernel, by decide +kernel⟩
theorem ok_C_begin_colours {f : Addr} {fd : FuncData} (F : Fun K "begin_colours" "Crossing.begin_colours" s_C_begin_colours f fd) (me : Meth K CC "begin_colours" f) (T : Txt K mg CS CC CX) (g_C_is_all_red : Met P w K mg base 3 CC "is_all_red" (sp_C_is_all_red CS CC)) (g_C_begin_group : Met P w K mg base 4 CC "begin_group" (sp_C_begin_group CS CC)) (g_C_greens : Met P w K mg base 2 CC "greens" (sp_C_greens CS CC)) (g_C_in_colour : Met P w K mg base 2 CC "in_colour" (sp_C_in_colour CS CC)) (g_C_begin_in : Met P w K mg base 4 CC "begin_in" (sp_C_begin_in CS CC)) (g_C_is_called : Met P w K mg base 2 CC "is_called" (sp_C_is_called CS CC)) (g_C_numbers : Met P w K mg base 1 CC "numbers" (sp_C_numbers CS CC)) : Met P w K mg base 5 CC "begin_colours" (sp_C_begin_colours CS CC) := by
  have b : Binds K fd ["self"] [] := F.binds (ps := ["self"]) fun _ _ _ _ _ _ us hl => match us, hl with | [_], _ => rfl
  refine met_of T.cC me F b sc_C_begin_colours len_C_begin_colours (fun cdv A outer s H vs Q E hr h => ?_)
  obtain ⟨A, m, xs, m', rfl, hxs, hC, ⟨rfl, rfl⟩, q⟩ := h
  refine ⟨_, (pss_cons (ps_set (i := 1) sc_C_begin_colours.nd rfl (Or.inl rfl) (pe_cmpR op_gt (pe_callB call_len_seq (by rfl) T.b_len PySem.boot_len (pa_cons (pe_m0 g_C_greens hr (by decide) (pv 0)) pa_nil)) pe_int (nomark _)))
      (pss_cons (ps_for PassesOwn.never rfl (pi_range1 (by rfl) T.b_range (pa_cons (pe_k T.k_RINGS (by rfl)) pa_nil)) (pg_name (i := 2) sc_C_begin_colours.nd rfl (Or.inl rfl)) (pss_one (ps_if (pt_cmpR op_eq (pe_m g_C_in_colour hr (by decide) (pv 0) (pa_cons (pv 2) pa_nil)) (pe_k T.k_NONE (by rfl)) (nomark _)) (pss_one (ps_expr (pe_m g_C_begin_in hr (by decide) (pv 0) (pa_cons (pv 2) (pa_cons (pv 1) pa_nil))))) pss_nil)))
      (pss_one (ps_if (PW.pt (pw_and (pt_val (pe_m0 g_C_is_all_red hr (by decide) (pv 0))) (pw_and1 (pt_val (pe_callB (cr_any rfl) (by rfl) T.b_any (by decide +kernel) (pa_cons (pe_lc (own := [("k", 3)]) (g := gName 3) rfl sc_C_begin_colours.nd (pi_list (pe_m0 g_C_numbers hr (by decide) (pv 0))) (blkOk_by (own := [("k", 3)]) (N := ["self", "some_green", "ring", "k"]) (sc := defScope s_C_begin_colours) (by decide +kernel)) (fun _ _ _ _ _ => pg_name (i := 3) sc_C_begin_colours.nd rfl (Or.inl rfl)) (fun _ _ _ _ _ => pts_nil) (fun _ _ _ _ _ => (pe_m g_C_is_called hr (by decide) (pv 0) (pa_cons (pv 3) pa_nil)))) pa_nil)))))) (pss_one (ps_expr (pe_m0 g_C_begin_group hr (by decide) (pv 0)))) pss_nil)))), ?_⟩
  dsimp only [cxOf, Cx.nox, Cx.wish]
  refine q_asg (v := .bl (!m.greens.isEmpty)) (ev_is (ev_op (ev_lenNew (el_C_greens (by walk_at "ev") hC)) ev_c rv_gt0) (congrArg V.bl ?_)) fun H1 e1 => ?_
  · rw [List.length_map]
    cases m.greens <;> rfl
  have hC1 := hC.mono e1
  refine q_forR1 (n := 4) (ea_one ev_c) (by decide) (fun i σ' H' => ∃ x l, σ' = [some (.ref A.p), some (.bl (!m.greens.isEmpty)), x, none] ∧ CrAt CS CC H' { A with ls := l } ((List.range i).foldl (CM.goOn (!m.greens.isEmpty)) m) ∧ Tr A H l H') (fun H5 e5 => ⟨none, A.ls, rfl, hC1.mono e5, (Tr.of e1).ex e5⟩)
    (fun i σ' H' hi p => ?_) (fun σ' H' p => ?_)
  · obtain ⟨x, l', rfl, hC5, t5⟩ := p
    have hi4 : i < 4 := by omega
    have ec : Ev (tMeth CC "in_colour" (sp_C_in_colour CS CC) [] E0 (tVar 0) (tCons (tVar 2) tNil)) [some (.ref A.p), some (.bl (!m.greens.isEmpty)), some (.int (i : Int)), none] H' (nV (((List.range i).foldl (CM.goOn (!m.greens.isEmpty)) m).inColour i)) := fm_C_in_colour hC5 (ev_var rfl) (ev_var rfl) hi4
    refine s_when (b := (((List.range i).foldl (CM.goOn (!m.greens.isEmpty)) m).inColour i).isNone) (et_test (ev_op ec ev_c rv_noneEq)) (fun hb H6 e6 => ?_) (fun hb H6 e6 => ?_)
    · have hC6 := hC5.mono e6
      have em : (List.range (i + 1)).foldl (CM.goOn (!m.greens.isEmpty)) m = ((List.range i).foldl (CM.goOn (!m.greens.isEmpty)) m).beginIn i (!m.greens.isEmpty) := by
        rw [foldl_range]
        exact if_pos hb
      refine s_cm (m' := (List.range (i + 1)).foldl (CM.goOn (!m.greens.isEmpty)) m) (xs := [.int (i : Int), .bl (!m.greens.isEmpty)]) (by decide +kernel) hC6 (ev_var rfl) (ea_cons (ev_var rfl) (ea_one (ev_var rfl))) rfl (fun H7 _ => ⟨i, _, rfl, hi4, em⟩) fun l7 H7 hC7 t7 => ⟨_, l7, rfl, hC7, (t5.ex e6).trans t7⟩
    · have em : (List.range (i + 1)).foldl (CM.goOn (!m.greens.isEmpty)) m = (List.range i).foldl (CM.goOn (!m.greens.isEmpty)) m := by
        rw [foldl_range]
        exact if_neg (by rw [hb]; decide)
      exact ⟨_, l', rfl, by rw [em]; exact hC5.mono e6, t5.ex e6⟩
  · obtain ⟨x, l', rfl, hC5, t5⟩ := p
    have em0 : m.begins = if (((List.range 4).foldl (CM.goOn (!m.greens.isEmpty)) m).allRed && ((List.range 4).foldl (CM.goOn (!m.greens.isEmpty)) m).nums.any ((List.range 4).foldl (CM.goOn (!m.greens.isEmpty)) m).called) = true then ((List.range 4).foldl (CM.goOn (!m.greens.isEmpty)) m).beginGroup else (List.range 4).foldl (CM.goOn (!m.greens.isEmpty)) m := rfl
    rw [em0] at q
    have hC5 : CrAt CS CC H' { A with ls := l' } ((List.range 4).foldl (CM.goOn (!m.greens.isEmpty)) m) := hC5
    generalize (List.range 4).foldl (CM.goOn (!m.greens.isEmpty)) m = f at hC5 q
    have lenN : f.nums.length ≤ 40000 := by
      have h2 : f.nums.length = f.ss.length := List.length_range
      have h3 := hC5.ok.len
      omega
    refine s_when (b := f.allRed && f.nums.any f.called) (et_and (et_B (fm_C_is_all_red hC5 (ev_var rfl))) fun _ => et_B ?_) (fun hb H6 e6 => ?_) (fun hb H6 e6 => ?_)
    · refine ev_is (ev_any (bs := f.nums.map f.called) (el_is (el_lc (l := f.nums) (enc := encN) (fun _ => true) (fun k => .bl (f.called k)) (fl_C_numbers hC5 (ev_var rfl)) lenN (fun _ => rfl) (fun _ _ => et_yes) (fun k hk _ => ?_)) ?_)) (congrArg V.bl ?_)
      · have hk := mem_nums.mp hk
        exact fm_C_is_called hC5 (ev_var rfl) (ev_var rfl) hk
      · rw [filter_yes, List.map_map]
        rfl
      · rw [any_map_id]
    · rw [if_pos hb] at q
      have hC6 := hC5.mono e6
      exact s_cm (xs := []) (by decide +kernel) hC6 (ev_var rfl) ea_nil rfl (fun H7 _ => ⟨rfl, rfl⟩) fun l7 H7 hC7 t7 => q l7 H7 hC7 ((t5.ex e6).trans t7)
    · rw [if_neg (by rw [hb]; decide)] at q
      exact q l' H6 (hC5.mono e6) (t5.ex e6)
abbrev s_C_step : Stmt := inClass (top 20) 24
theorem sc_C_step : FnScope ["self", "cars", "people", "first"] ["self", "cars", "people", "first"] (defScope s_C_step) := ⟨rfl, rfl, rfl, by decide +kernel, rfl, by decide +kernel, by decide +kernel⟩
theorem ok_C_step {f : Addr} {fd : FuncData} (F : Fun K "step" "Crossing.step" s_C_step f fd) (me : Meth K CC "step" f) (T : Txt K mg CS CC CX) (g_C_take_calls : Met P w K mg base 3 CC "take_calls" (sp_C_take_calls CS CC)) (g_C_run_clocks : Met P w K mg base 5 CC "run_clocks" (sp_C_run_clocks CS CC)) (g_C_end_colours : Met P w K mg base 5 CC "end_colours" (sp_C_end_colours CS CC)) (g_C_begin_colours : Met P w K mg base 5 CC "begin_colours" (sp_C_begin_colours CS CC)) : Met P w K mg base 6 CC "step" (sp_C_step CS CC) := by
  have b : Binds K fd ["self", "cars", "people", "first"] [] := F.binds (ps := ["self", "cars", "people", "first"]) fun _ _ _ _ _ _ us hl => match us, hl with | [_, _, _, _], _ => rfl
  refine met_of T.cC me F b sc_C_step len_C_step (fun cdv A outer s H vs Q E hr h => ?_)
  obtain ⟨A, m, xs, m', rfl, hxs, hC, ⟨cars, people, first, rfl, hf, hm'⟩, q⟩ := h
  refine ⟨_, (pss_cons (ps_fld (pv 0) (pv 1) rfl)
      (pss_cons (ps_fld (pv 0) (pv 3) rfl)
      (pss_cons (ps_expr (pe_m g_C_take_calls hr (by decide) (pv 0) (pa_cons (pv 2) pa_nil)))
      (pss_cons (ps_expr (pe_m0 g_C_run_clocks hr (by decide) (pv 0)))
      (pss_cons (ps_expr (pe_m0 g_C_end_colours hr (by decide) (pv 0)))
      (pss_one (ps_expr (pe_m0 g_C_begin_colours hr (by decide) (pv 0))))))))), ?_⟩
  dsimp only [cxOf, Cx.nox, Cx.wish]
  have o := hC.ok
  have ok1 : ({ m with cars := cars } : CM).Ok := { pos := o.pos, len := o.len, ring := o.ring, grp := o.grp, mode := o.mode, group := o.group, lasts := o.lasts, last := o.last, first := o.first }
  have ok2 : (m.handed cars first).Ok := { pos := o.pos, len := o.len, ring := o.ring, grp := o.grp, mode := o.mode, group := o.group, lasts := o.lasts, last := o.last, first := hf }
  refine q_cput (i := 3) (m' := { m with cars := cars }) T hC T.nC_cars (v := .int (cars : Int)) (ev_var rfl) (ev_var rfl) (by decide +kernel) (by decide) rfl rfl rfl ok1 fun H1 hC1 t1 => ?_
  refine q_cput (i := 4) (m' := m.handed cars first) T hC1 T.nC_first (v := nV first) (ev_var rfl) (ev_var rfl) (by decide +kernel) (by decide) rfl rfl rfl ok2 fun H2 hC2 t2 => ?_
  refine q_cm (xs := [.int (people : Int)]) (m' := (m.handed cars first).takeCalls people) (by decide +kernel) hC2 (ev_var rfl) (ea_one (ev_var rfl)) rfl (fun H3 _ => ⟨people, rfl, rfl⟩) fun l3 H3 hC3 t3 => ?_
  refine q_cm (xs := []) (m' := ((m.handed cars first).takeCalls people).runClocks) (by decide +kernel) hC3 (ev_var rfl) ea_nil rfl (fun H4 _ => ⟨rfl, rfl⟩) fun l4 H4 hC4 t4 => ?_
  refine q_cm (xs := []) (m' := ((m.handed cars first).takeCalls people).runClocks.ends) (by decide +kernel) hC4 (ev_var rfl) ea_nil rfl (fun H5 _ => ⟨rfl, rfl⟩) fun l5 H5 hC5 t5 => ?_
  have em : m' = ((m.handed cars first).takeCalls people).runClocks.ends.begins := hm'
  rw [em] at q
  refine s_cm (xs := []) (m' := ((m.handed cars first).takeCalls people).runClocks.ends.begins) (by decide +kernel) hC5 (ev_var rfl) ea_nil rfl (fun H6 _ => ⟨rfl, rfl⟩) fun l6 H6 hC6 t6 => ?_
  have t12 : Tr A H A.ls H2 := t1.trans t2
  have t13 : Tr A H l3 H3 := t12.trans t3
  have t14 : Tr A H l4 H4 := t13.trans t4
  have t15 : Tr A H l5 H5 := t14.trans t5
  have t16 : Tr A H l6 H6 := t15.trans t6
  exact q l6 H6 hC6 t16
end
end Cg

/-! What is told of a crossing; streams and crossings made. -/
namespace Cg
open PySem PySem.Spec PyProof.Rows L2 Evl
local macro_rules | `(tactic| walk_at "rv") => `(tactic| first
  | with_reducible exact rv_eqn | with_reducible exact rv_nen | with_reducible exact rv_ltn | with_reducible exact rv_len | with_reducible exact rv_gtn | with_reducible exact rv_gen | with_reducible exact rv_addn
  | with_reducible exact rv_eq0 | with_reducible exact rv_eq1 | with_reducible exact rv_gt0 | with_reducible exact rv_noneEq | with_reducible exact rv_noneNe | with_reducible exact rv_firstEq | with_reducible exact rv_firstNe | exact rv_I0)
local macro_rules | `(tactic| walk_at "fld") => `(tactic| first
  | with_reducible apply ev_s_colour (by assumption) | with_reducible apply ev_s_time (by assumption) | with_reducible apply ev_s_let_go (by assumption) | with_reducible apply ev_s_mode (by assumption) | with_reducible apply ev_s_ring (by assumption) | with_reducible apply ev_s_group (by assumption)
  | with_reducible apply ev_s_walk_time (by assumption) | with_reducible apply ev_s_clear_time (by assumption) | with_reducible apply ev_s_rest (by assumption) | with_reducible apply ev_s_waited (by assumption) | with_reducible apply ev_s_car (by assumption) | with_reducible apply ev_s_button (by assumption)
  | with_reducible apply ev_s_least (by assumption) | with_reducible apply ev_s_gap (by assumption) | with_reducible apply ev_s_most (by assumption) | with_reducible apply ev_s_yellow_time (by assumption) | with_reducible apply ev_s_red_time (by assumption))
local macro_rules | `(tactic| walk_at "ev") => `(tactic| first
  | with_reducible exact ev_c
  | ((with_reducible apply ev_ceq); exact rfl)
  | ((with_reducible apply ev_var); exact rfl)
  | ((with_reducible apply ev_andV); walk_at "ev"; (intro _; walk_at "ev"))
  | ((with_reducible apply ev_orV); walk_at "ev"; (intro _; walk_at "ev"))
  | ((with_reducible apply ev_notV); walk_at "ev")
  | walk_at "evm"
  | ((with_reducible apply ev_op); walk_at "ev"; walk_at "ev"; walk_at "rv")
  | ((with_reducible apply ev_chain); walk_at "ev"; walk_at "ev"; walk_at "rv"; (intro _; walk_at "ev"); (intro _; walk_at "rv"))
  | (walk_at "fld"; walk_at "ev"; assumption))
local macro_rules | `(tactic| walk_at "et") => `(tactic| first
  | with_reducible exact et_yes
  | ((with_reducible apply et_and); walk_at "et"; (intro _; walk_at "et"))
  | ((with_reducible apply et_or); walk_at "et"; (intro _; walk_at "et"))
  | ((with_reducible apply et_not); walk_at "et")
  | ((with_reducible apply et_test); walk_at "ev")
  | ((with_reducible apply et_B); walk_at "ev"))
local macro_rules | `(tactic| walk_at "evm") => `(tactic| first
  | ((with_reducible apply fv_c_stream); assumption; assumption; walk_at "ev"; walk_at "ev"; assumption)
  | ((with_reducible apply fv_c_last); assumption; assumption; walk_at "ev"; walk_at "ev"; assumption)
  | ((with_reducible apply fv_c_first); assumption; assumption; walk_at "ev")
  | ((with_reducible apply fv_c_cars); assumption; assumption; walk_at "ev")
  | ((with_reducible apply fv_c_streams); assumption; assumption; walk_at "ev")
  | ((with_reducible apply fv_c_lasts); assumption; assumption; walk_at "ev")
  | ((with_reducible apply fv_c_group); assumption; assumption; walk_at "ev")
  | ((with_reducible apply em_f_has_bit); walk_at "ev"; walk_at "ev")
  | ((with_reducible apply em_is_always_called); walk_at "ev"; assumption)
  | ((with_reducible apply em_are_people_over); walk_at "ev"; assumption)
  | ((with_reducible apply em_is_due); walk_at "ev"; assumption)
  | ((with_reducible apply em_has_walkers); walk_at "ev"; assumption)
  | ((with_reducible apply em_has_clearers); walk_at "ev"; assumption)
  | ((with_reducible apply fm_C_is_called); assumption; walk_at "ev"; walk_at "ev"; assumption)
  | ((with_reducible apply fm_C_is_barred); assumption; walk_at "ev"; walk_at "ev"; assumption)
  | ((with_reducible apply fm_C_is_stuck); assumption; walk_at "ev"; walk_at "ev"; assumption)
  | ((with_reducible apply fm_C_is_ready); assumption; walk_at "ev"; walk_at "ev"; assumption)
  | ((with_reducible apply fm_C_is_over); assumption; walk_at "ev"; walk_at "ev"; assumption)
  | ((with_reducible apply fm_C_heir); assumption; walk_at "ev"; walk_at "ev"; assumption)
  | ((with_reducible apply fm_C_in_colour); assumption; walk_at "ev"; walk_at "ev"; assumption)
  | ((with_reducible apply fm_C_are_crossing); assumption; walk_at "ev"; walk_at "ev"; walk_at "ev"; assumption; assumption)
  | ((with_reducible apply fm_C_is_beside); assumption; walk_at "ev"; walk_at "ev"; walk_at "ev"; assumption; assumption)
  | ((with_reducible apply fm_C_first_called); assumption; walk_at "ev"; walk_at "ev"; walk_at "ev")
  | ((with_reducible apply fm_C_is_all_red); assumption; walk_at "ev")
  | ((with_reducible apply fm_C_is_pressed); assumption; walk_at "ev")
  | ((with_reducible apply fm_C_next_group); assumption; walk_at "ev"))
section
variable {P : Program} {w : World} {K : PySem.W.Frag} {mg : Str → Option Value} {base : Heap} {CS CC CX a : Addr} {A A1 A2 : Ad} {m m' : CM} {k j r : Nat} {σ : L2.St} {H H' H1 H2 : Hp} {ta tb te ti t1 t2 : TE} {tz : TS} {t : TT} {E : XK} {D : Ends}
/-! ### bits of truths -/
theorem el_lcE {a : Addr} {xs : List V} {tr : TA} {i1 i2 : Nat} {vs : List Nat} (f : Nat → Bool) (v : Nat → V) (h : EvA tr σ H [.ref a]) (hx : SqL K H a xs) (hz : xs.length ≤ 40000) (hw : ∀ x y, wipe (((wipe σ vs).set i1 (some x)).set i2 (some y)) vs = wipe σ vs)
    (ht : ∀ (i : Nat) (x : V) H1, Ex H H1 → xs[i]? = some x → EvT t (((wipe σ vs).set i1 (some (.int (i : Int)))).set i2 (some x)) H1 (f i)) (he : ∀ (i : Nat) (x : V) H1, Ex H H1 → xs[i]? = some x → f i = true → Ev te (((wipe σ vs).set i1 (some (.int (i : Int)))).set i2 (some x)) H1 (v i)) :
    EvL (tLc (iEnum K tr) (gTup K 2 (gCons (gName i1) (gCons (gName i2) gNil))) t te vs) σ H (given xs.length f v) := fun H0 e Q q => h H0 e _ fun H1 e1 => ⟨a, xs, rfl, ex_l (e.trans e1) hx, fun Dl hD =>
  lc_it walk_enum (Cw H1 f v Dl) ⟨hD, Ex.new hD, upd_same⟩ (fun i H' _ p => ex_l ((e.trans e1).trans p.2.1) hx) (fun i x H' H2 hi p y => by
    obtain ⟨T, u, z, rfl, hT, rfl, hu, hz'⟩ := y
    cases hu
    have e2 : Ex H' (upd H' T (.tup [.int ((i : Nat) : Int), z])) := Ex.new hT
    refine ⟨T, [.int ((i : Nat) : Int), z], rfl, st_of upd_same, rfl, _, _, rfl, _, _, rfl, rfl, hw _ _, ?_⟩
    refine cw_turn (f := f) (v := v) ⟨p.1, p.2.1.trans e2, e2 _ _ p.2.2⟩ (by omega) (ht i z H1 (e.trans e1) hz') (fun hf => he i z H1 (e.trans e1) hz' hf)) (fun H' p => q Dl H' (fresh_back e1 p.1) (e1.trans p.2.1) p.2.2)⟩
def rBits : List V → Hp → V → Prop := fun vs H v => ∃ p bs, vs = [.ref p] ∧ H p = some (.lst (bs.map V.bl)) ∧ bs.length ≤ 16 ∧ v = .int ((bitsOf bs : Nat) : Int)
abbrev sp_f_bits_of (_ : PySem.W.Frag) : Sp := spV rBits
theorem len_f_bits_of : ∀ vs H Q E, sp_f_bits_of K vs H Q E → vs.length = 1 := spV_len fun vs H v ⟨_, _, e, _⟩ => by rw [e]; rfl
theorem em_f_bits_of {bs : List Bool} (h : EvL ta σ H (bs.map V.bl)) (hl : bs.length ≤ 16) : Ev (tCall (sp_f_bits_of K) [] E (tCons ta tNil)) σ H (.int ((bitsOf bs : Nat) : Int)) := ev_callV1 h fun p H1 _ hp => ⟨p, bs, rfl, hp, hl, rfl⟩
theorem sum_filter (f : Nat → Bool) : ∀ l : List Nat, ((l.filter f).map fun k => ((2 ^ k : Nat) : Int)).sum = (((l.map fun k => if f k = true then 2 ^ k else 0).sum : Nat) : Int)
  | [] => rfl
  | a :: l => by
    rw [List.filter_cons, List.map_cons, List.sum_cons, Int.natCast_add, ← sum_filter f l]
    cases f a with
    | true =>
      rw [if_pos rfl, if_pos rfl, List.map_cons, List.sum_cons]
    | false =>
      rw [if_neg (by decide), if_neg (by decide)]
      exact (Int.zero_add _).symm
abbrev s_f_bits_of : Stmt := top 2
theorem sc_f_bits_of : FnScope ["truths", "k", "truth"] ["truths"] (defScope s_f_bits_of) := ⟨rfl, rfl, rfl, by decide +kernel, rfl, by decide +kernel, by decide +kernel⟩
theorem ok_f_bits_of {f : Addr} {fd : FuncData} (F : Fun K "bits_of" "bits_of" s_f_bits_of f fd) (hm : mg "bits_of" = some (.ref f)) (T : Txt K mg CS CC CX) : Cal P w K mg base 1 "bits_of" (sp_f_bits_of K) := by
  have b : Binds K fd ["truths"] [] := F.binds (ps := ["truths"]) fun _ _ _ _ _ _ us hl => match us, hl with | [_], _ => rfl
  refine cal_of hm F b sc_f_bits_of len_f_bits_of (fun cdv A outer s H vs Q E hr h => ?_)
  obtain ⟨v, ⟨p, bs, rfl, hp, hl, rfl⟩, q⟩ := h
  refine ⟨_, (pss_one (ps_ret (pe_callB (cr_sum rfl) (by rfl) T.b_sum (by decide +kernel) (pa_cons (pe_lc (own := [("k", 1), ("truth", 2)]) (g := gTup K 2 (gCons (gName 1) (gCons (gName 2) gNil))) rfl sc_f_bits_of.nd (pi_enum (by rfl) T.b_enumerate (pa_cons (pv 0) pa_nil)) (blkOk_by (own := [("k", 1), ("truth", 2)]) (N := ["truths", "k", "truth"]) (sc := defScope s_f_bits_of) (by decide +kernel)) (fun _ _ _ _ _ => pg_tup rfl (pgs_cons (pg_name (i := 1) sc_f_bits_of.nd rfl (Or.inl rfl)) (pgs_cons (pg_name (i := 2) sc_f_bits_of.nd rfl (Or.inl rfl)) pgs_nil))) (fun _ _ _ _ _ => pts_one (pt_val (pv 2))) (fun _ _ _ _ _ => (pe_op op_shl pe_int (pv 1)))) pa_nil)))), ?_⟩
  dsimp only [cxOf, Cx.nox, Cx.wish]
  refine s_ret (ev_is (ev_sum (ns := ((List.range bs.length).filter fun k => bs.getD k false).map fun k => ((2 ^ k : Nat) : Int)) (el_is (el_lcE (fun k => bs.getD k false) (fun k => .int ((2 ^ k : Nat) : Int)) (ea_one (ev_var rfl)) (sq_of hp) (by rw [List.length_map]; omega) (fun _ _ => rfl) (fun i x H1 e1 hx => ?_) (fun i x H1 e1 hx _ => ?_)) ?_)) (congrArg V.int (sum_filter _ _))) q
  · rw [List.getElem?_map] at hx
    cases e : bs[i]? with
    | none => rw [e] at hx; cases hx
    | some b =>
      rw [e] at hx
      cases hx
      refine et_B (ev_is (ev_var rfl) ?_)
      rw [List.getD_eq_getElem?_getD, e]
      rfl
  · refine ev_is (ev_op ev_c (ev_var rfl) (rv_I ⟨Int.natCast_nonneg i, ?_, by decide⟩)) (congrArg V.int ?_)
    · have := (List.getElem?_eq_some_iff.mp hx).1
      rw [List.length_map] at this
      omega
    · rw [Int.toNat_natCast, Int.one_mul]
      simp
  · unfold given
    rw [List.map_map, List.length_map]
    rfl
/-! ### what is told of a crossing -/
def intV (l : List Nat) : List V := l.map fun (x : Nat) => .int (x : Int)
abbrev sp_C_lights (CS CC : Addr) : Sp := spL (rCL CS CC fun m => intV m.lights)
abbrev sp_C_remembered (CS CC : Addr) : Sp := spL (rCL CS CC fun m => intV m.remembered)
theorem len_C_lights : ∀ vs H Q E, sp_C_lights CS CC vs H Q E → vs.length = 1 := len_rCL
theorem len_C_remembered : ∀ vs H Q E, sp_C_remembered CS CC vs H Q E → vs.length = 1 := len_rCL
theorem fl_C_lights (hC : CrAt CS CC H A m) (h : Ev ta σ H (.ref A.p)) : EvL (tMeth CC "lights" (sp_C_lights CS CC) [] E ta tNil) σ H (intV m.lights) := el_rCL (by decide +kernel) h hC
theorem fl_C_remembered (hC : CrAt CS CC H A m) (h : Ev ta σ H (.ref A.p)) : EvL (tMeth CC "remembered" (sp_C_remembered CS CC) [] E ta tNil) σ H (intV m.remembered) := el_rCL (by decide +kernel) h hC
/-- [f(stream) for stream in self.streams] -/
theorem el_streams {g : SM → Bool} {tl : TE} {j : Nat} {vs : List Nat} (hC : CrAt CS CC H A m) (h : Ev tl σ H (.ref A.la)) (hw : ∀ x, wipe ((wipe σ vs).set j (some x)) vs = wipe σ vs) (he : ∀ a s, StAt CS H a s → Ev te ((wipe σ vs).set j (some (.ref a))) H (.bl (g s))) :
    EvL (tLc (iList K tl) (gName j) tYes te vs) σ H ((m.ss.map g).map V.bl) := by
  have el : A.as = (List.range m.ss.length).map A.adr := by
    apply List.ext_getElem?
    intro i
    rw [List.getElem?_map]
    have hl := hC.len
    rcases Nat.lt_or_ge i m.ss.length with q | q
    · rw [hC.adr q, List.getElem?_range q]
      rfl
    · rw [List.getElem?_eq_none_iff.mpr (by omega), List.getElem?_eq_none_iff.mpr (by rw [List.length_range]; exact q)]
      rfl
  have es : m.ss = (List.range m.ss.length).map m.sat := by
    apply List.ext_getElem?
    intro i
    rw [List.getElem?_map]
    rcases Nat.lt_or_ge i m.ss.length with q | q
    · rw [sat_lt q, List.getElem?_range q]
      rfl
    · rw [List.getElem?_eq_none_iff.mpr q, List.getElem?_eq_none_iff.mpr (by rw [List.length_range]; exact q)]
      rfl
  have hs := hC.lst
  rw [el, List.map_map] at hs
  have key := el_lcAt (K := K) (l := List.range m.ss.length) (enc := V.ref ∘ A.adr) (t := tYes) (te := te) (j := j) (vs := vs) (fun _ => true) (fun k => .bl (g (m.sat k))) h (sq_of hs) (by have := hC.ok.len; rw [List.length_range]; omega) hw (fun _ _ => et_yes) (fun k hk _ => he _ _ (hC.st (List.mem_range.mp hk)))
  rw [filter_yes] at key
  refine el_is key ?_
  conv => rhs; rw [es]
  rw [List.map_map, List.map_map]
  rfl
abbrev s_C_lights : Stmt := inClass (top 20) 25
theorem sc_C_lights : FnScope ["self", "green", "yellow", "walk", "stream"] ["self"] (defScope s_C_lights) := ⟨rfl, rfl, rfl, by decide +kernel, rfl, by decide +kernel, by decide +kernel⟩
theorem ok_C_lights {f : Addr} {fd : FuncData} (F : Fun K "lights" "Crossing.lights" s_C_lights f fd) (me : Meth K CC "lights" f) (T : Txt K mg CS CC CX) (g_f_bits_of : Cal P w K mg base 1 "bits_of" (sp_f_bits_of K)) (g_S_has_walkers : Met P w K mg base 1 CS "has_walkers" (sp_S_has_walkers CS)) (g_S_has_clearers : Met P w K mg base 1 CS "has_clearers" (sp_S_has_clearers CS)) : Met P w K mg base 2 CC "lights" (sp_C_lights CS CC) := by
  have b : Binds K fd ["self"] [] := F.binds (ps := ["self"]) fun _ _ _ _ _ _ us hl => match us, hl with | [_], _ => rfl
  refine met_of T.cC me F b sc_C_lights len_C_lights (fun cdv A outer s H vs Q E hr h => ?_)
  obtain ⟨xs, ⟨A, m, rfl, hC, rfl⟩, q⟩ := h
  refine ⟨_, (pss_cons (ps_set (i := 1) sc_C_lights.nd rfl (Or.inl rfl) (pe_f g_f_bits_of hr (by decide) (by rfl) (pa_cons (pe_lc (own := [("stream", 4)]) (g := gName 4) (te := (tOp rEq (tFld K (tVar 4) "colour") (tC (.int ((1 : Nat) : Int))))) rfl sc_C_lights.nd (pi_list (pe_fld (pv 0) rfl)) (blkOk_by (own := [("stream", 4)]) (N := ["self", "green", "yellow", "walk", "stream"]) (sc := defScope s_C_lights) (by decide +kernel)) (fun _ _ _ _ _ => pg_name (i := 4) sc_C_lights.nd rfl (Or.inl rfl)) (fun _ _ _ _ _ => pts_nil) (fun _ _ _ _ _ => (pe_cmpR op_eq (pe_fld (pv 4) rfl) (pe_k T.k_GREEN (by rfl)) (nomark _)))) pa_nil)))
      (pss_cons (ps_set (i := 2) sc_C_lights.nd rfl (Or.inl rfl) (pe_f g_f_bits_of hr (by decide) (by rfl) (pa_cons (pe_lc (own := [("stream", 4)]) (g := gName 4) (te := (tOp rEq (tFld K (tVar 4) "colour") (tC (.int ((2 : Nat) : Int))))) rfl sc_C_lights.nd (pi_list (pe_fld (pv 0) rfl)) (blkOk_by (own := [("stream", 4)]) (N := ["self", "green", "yellow", "walk", "stream"]) (sc := defScope s_C_lights) (by decide +kernel)) (fun _ _ _ _ _ => pg_name (i := 4) sc_C_lights.nd rfl (Or.inl rfl)) (fun _ _ _ _ _ => pts_nil) (fun _ _ _ _ _ => (pe_cmpR op_eq (pe_fld (pv 4) rfl) (pe_k T.k_YELLOW (by rfl)) (nomark _)))) pa_nil)))
      (pss_cons (ps_set (i := 3) sc_C_lights.nd rfl (Or.inl rfl) (pe_f g_f_bits_of hr (by decide) (by rfl) (pa_cons (pe_lc (own := [("stream", 4)]) (g := gName 4) rfl sc_C_lights.nd (pi_list (pe_fld (pv 0) rfl)) (blkOk_by (own := [("stream", 4)]) (N := ["self", "green", "yellow", "walk", "stream"]) (sc := defScope s_C_lights) (by decide +kernel)) (fun _ _ _ _ _ => pg_name (i := 4) sc_C_lights.nd rfl (Or.inl rfl)) (fun _ _ _ _ _ => pts_nil) (fun _ _ _ _ _ => (pe_m0 g_S_has_walkers hr (by decide) (pv 4)))) pa_nil)))
      (pss_one (ps_ret (pe_lst (pa_cons (pv 1) (pa_cons (pv 2) (pa_cons (pv 3) (pa_cons (pe_f g_f_bits_of hr (by decide) (by rfl) (pa_cons (pe_lc (own := [("stream", 4)]) (g := gName 4) rfl sc_C_lights.nd (pi_list (pe_fld (pv 0) rfl)) (blkOk_by (own := [("stream", 4)]) (N := ["self", "green", "yellow", "walk", "stream"]) (sc := defScope s_C_lights) (by decide +kernel)) (fun _ _ _ _ _ => pg_name (i := 4) sc_C_lights.nd rfl (Or.inl rfl)) (fun _ _ _ _ _ => pts_nil) (fun _ _ _ _ _ => (pe_m0 g_S_has_clearers hr (by decide) (pv 4)))) pa_nil)) pa_nil)))))))))), ?_⟩
  dsimp only [cxOf, Cx.nox, Cx.wish]
  have hl : ∀ g : SM → Bool, (m.ss.map g).length ≤ 16 := fun g => by rw [List.length_map]; exact hC.ok.len
  refine q_asg (em_f_bits_of (el_streams (g := fun s => s.colour == 1) hC (by walk_at "ev") (fun _ => rfl) fun a s hs => ?_) (hl _)) fun H1 e1 => ?_
  · exact ev_op (ev_s_colour T (ev_var rfl) hs) ev_c rv_eqn
  have hC1 := hC.mono e1
  refine q_asg (em_f_bits_of (el_streams (g := fun s => s.colour == 2) hC1 (by walk_at "ev") (fun _ => rfl) fun a s hs => ?_) (hl _)) fun H2 e2 => ?_
  · exact ev_op (ev_s_colour T (ev_var rfl) hs) ev_c rv_eqn
  have hC2 := hC1.mono e2
  refine q_asg (em_f_bits_of (el_streams (g := SM.walkers) hC2 (by walk_at "ev") (fun _ => rfl) fun a s hs => em_has_walkers (ev_var rfl) hs) (hl _)) fun H3 e3 => ?_
  have hC3 := hC2.mono e3
  refine s_retL (el_lst (ea_cons (ev_var rfl) (ea_cons (ev_var rfl) (ea_cons (ev_var rfl) (ea_one (em_f_bits_of (el_streams (g := SM.clearers) hC3 (by walk_at "ev") (fun _ => rfl) fun a s hs => em_has_clearers (ev_var rfl) hs) (hl _)))))) (by show 4 ≤ 100000; decide)) fun p H4 hp e4 h4 => q p H4 (fresh_back ((e1.trans e2).trans e3) hp) (((e1.trans e2).trans e3).trans e4) h4
abbrev s_C_remembered : Stmt := inClass (top 20) 26
theorem sc_C_remembered : FnScope ["self", "cars", "stream"] ["self"] (defScope s_C_remembered) := ⟨rfl, rfl, rfl, by decide +kernel, rfl, by decide +kernel, by decide +kernel⟩
theorem ok_C_remembered {f : Addr} {fd : FuncData} (F : Fun K "remembered" "Crossing.remembered" s_C_remembered f fd) (me : Meth K CC "remembered" f) (T : Txt K mg CS CC CX) (g_f_bits_of : Cal P w K mg base 1 "bits_of" (sp_f_bits_of K)) : Met P w K mg base 2 CC "remembered" (sp_C_remembered CS CC) := by
  have b : Binds K fd ["self"] [] := F.binds (ps := ["self"]) fun _ _ _ _ _ _ us hl => match us, hl with | [_], _ => rfl
  refine met_of T.cC me F b sc_C_remembered len_C_remembered (fun cdv A outer s H vs Q E hr h => ?_)
  obtain ⟨xs, ⟨A, m, rfl, hC, rfl⟩, q⟩ := h
  refine ⟨_, (pss_cons (ps_set (i := 1) sc_C_remembered.nd rfl (Or.inl rfl) (pe_f g_f_bits_of hr (by decide) (by rfl) (pa_cons (pe_lc (own := [("stream", 2)]) (g := gName 2) (te := (tFld K (tVar 2) "car")) rfl sc_C_remembered.nd (pi_list (pe_fld (pv 0) rfl)) (blkOk_by (own := [("stream", 2)]) (N := ["self", "cars", "stream"]) (sc := defScope s_C_remembered) (by decide +kernel)) (fun _ _ _ _ _ => pg_name (i := 2) sc_C_remembered.nd rfl (Or.inl rfl)) (fun _ _ _ _ _ => pts_nil) (fun _ _ _ _ _ => (pe_fld (pv 2) rfl))) pa_nil)))
      (pss_one (ps_ret (pe_lst (pa_cons (pv 1) (pa_cons (pe_f g_f_bits_of hr (by decide) (by rfl) (pa_cons (pe_lc (own := [("stream", 2)]) (g := gName 2) (te := (tFld K (tVar 2) "button")) rfl sc_C_remembered.nd (pi_list (pe_fld (pv 0) rfl)) (blkOk_by (own := [("stream", 2)]) (N := ["self", "cars", "stream"]) (sc := defScope s_C_remembered) (by decide +kernel)) (fun _ _ _ _ _ => pg_name (i := 2) sc_C_remembered.nd rfl (Or.inl rfl)) (fun _ _ _ _ _ => pts_nil) (fun _ _ _ _ _ => (pe_fld (pv 2) rfl))) pa_nil)) pa_nil)))))), ?_⟩
  dsimp only [cxOf, Cx.nox, Cx.wish]
  have hl : ∀ g : SM → Bool, (m.ss.map g).length ≤ 16 := fun g => by rw [List.length_map]; exact hC.ok.len
  refine q_asg (em_f_bits_of (el_streams (g := SM.car) hC (by walk_at "ev") (fun _ => rfl) fun a s hs => ev_s_car T (ev_var rfl) hs) (hl _)) fun H1 e1 => ?_
  have hC1 := hC.mono e1
  refine s_retL (el_lst (ea_cons (ev_var rfl) (ea_one (em_f_bits_of (el_streams (g := SM.button) hC1 (by walk_at "ev") (fun _ => rfl) fun a s hs => ev_s_button T (ev_var rfl) hs) (hl _)))) (by show 2 ≤ 100000; decide)) fun p H4 hp e4 h4 => q p H4 (fresh_back e1 hp) (e1.trans e4) h4
/-! ### whether ten numbers tell a stream -/
def rGood (K : PySem.W.Frag) : List V → Hp → V → Prop := fun vs H v => ∃ p ns, vs = [.ref p] ∧ SqL K H p (ns.map V.int) ∧ ns.length = 10 ∧ v = .bl (Sa38.streamOf ns).isSome
abbrev sp_f_are_good (K : PySem.W.Frag) : Sp := spV (rGood K)
theorem len_f_are_good : ∀ vs H Q E, sp_f_are_good K vs H Q E → vs.length = 1 := spV_len fun vs H v ⟨_, _, e, _⟩ => by rw [e]; rfl
theorem ten_of : ∀ {ns : List Int}, ns.length = 10 → ∃ a b c d e f g h i j, ns = [a, b, c, d, e, f, g, h, i, j]
  | [a, b, c, d, e, f, g, h, i, j], _ => ⟨a, b, c, d, e, f, g, h, i, j, rfl⟩
def chn (lo z hi : Int) : Bool := decide (lo ≤ z) && decide (z ≤ hi)
theorem ev_chn {lo z hi : Int} (ha : Ev ta σ H (.int lo)) (hb : Ev tb σ H (.int z)) (hc : Ev te σ H (.int hi)) : Ev (tChain (rI0 fun i j => .bl (decide (i ≤ j))) (rI0 fun i j => .bl (decide (i ≤ j))) ta tb te) σ H (.bl (chn lo z hi)) := ev_chain ha hb rv_I0 (fun _ => hc) fun _ => rv_I0
theorem streamOf_some (r g a p m y c w k o : Int) : (Sa38.streamOf [r, g, a, p, m, y, c, w, k, o]).isSome = ((chn 0 r 3 && (chn 0 g 7 && chn 0 o 7)) && ((chn 1 a 6000 && (chn 0 p 6000 && chn a m 36000)) && ((chn 1 y 1000 && chn 0 c 1000) && (chn 0 w 6000 && chn 0 k 6000)))) := by
  unfold Sa38.streamOf
  simp only []
  have e : (Sa38.within r 0 3 && (Sa38.within g 0 7 && (Sa38.within a 1 6000 && (Sa38.within p 0 6000 && (decide (a ≤ m) && (decide (m ≤ 36000) && (Sa38.within y 1 1000 && (Sa38.within c 0 1000 && (Sa38.within w 0 6000 && (Sa38.within k 0 6000 && Sa38.within o 0 7)))))))))) = ((chn 0 r 3 && (chn 0 g 7 && chn 0 o 7)) && ((chn 1 a 6000 && (chn 0 p 6000 && chn a m 36000)) && ((chn 1 y 1000 && chn 0 c 1000) && (chn 0 w 6000 && chn 0 k 6000)))) := by
    have ew : ∀ z lo hi : Int, Sa38.within z lo hi = chn lo z hi := fun _ _ _ => rfl
    have em : (decide (a ≤ m) && decide (m ≤ 36000)) = chn a m 36000 := rfl
    simp only [ew]
    rw [← em]
    generalize chn 0 r 3 = b1
    generalize chn 0 g 7 = b2
    generalize chn 0 o 7 = b3
    generalize chn 1 a 6000 = b4
    generalize chn 0 p 6000 = b5
    generalize decide (a ≤ m) = b6
    generalize decide (m ≤ 36000) = b7
    generalize chn 1 y 1000 = b8
    generalize chn 0 c 1000 = b9
    generalize chn 0 w 6000 = b10
    generalize chn 0 k 6000 = b11
    cases b1 <;> cases b2 <;> cases b3 <;> simp only [Bool.false_and, Bool.and_false, Bool.true_and, Bool.and_true, Bool.and_assoc]
  rw [e]
  split
  · rename_i h
    rw [h]
    rfl
  · rename_i h
    exact (Bool.eq_false_iff.mpr h).symm
abbrev s_f_are_good : Stmt := top 14
theorem sc_f_are_good : FnScope ["row", "ring", "group", "least", "gap", "most", "yellow", "red", "walk", "clearing", "mode"] ["row"] (defScope s_f_are_good) := ⟨rfl, rfl, rfl, by decide +kernel, rfl, by decide +kernel, by decide +kernel⟩
theorem ok_f_are_good {f : Addr} {fd : FuncData} (F : Fun K "are_good" "are_good" s_f_are_good f fd) (hm : mg "are_good" = some (.ref f)) (T : Txt K mg CS CC CX) : Cal P w K mg base 1 "are_good" (sp_f_are_good K) := by
  have b : Binds K fd ["row"] [] := F.binds (ps := ["row"]) fun _ _ _ _ _ _ us hl => match us, hl with | [_], _ => rfl
  refine cal_of hm F b sc_f_are_good len_f_are_good (fun cdv A outer s H vs Q E hr h => ?_)
  obtain ⟨v, ⟨p, ns, rfl, hp, hl, rfl⟩, q⟩ := h
  obtain ⟨n0, n1, n2, n3, n4, n5, n6, n7, n8, n9, rfl⟩ := ten_of hl
  rw [streamOf_some] at q
  refine ⟨_, (pss_cons (ps_asg (pv 0) (pg_lst rfl (pgs_cons (pg_name (i := 1) sc_f_are_good.nd rfl (Or.inl rfl)) (pgs_cons (pg_name (i := 2) sc_f_are_good.nd rfl (Or.inl rfl)) (pgs_cons (pg_name (i := 3) sc_f_are_good.nd rfl (Or.inl rfl)) (pgs_cons (pg_name (i := 4) sc_f_are_good.nd rfl (Or.inl rfl)) (pgs_cons (pg_name (i := 5) sc_f_are_good.nd rfl (Or.inl rfl)) (pgs_cons (pg_name (i := 6) sc_f_are_good.nd rfl (Or.inl rfl)) (pgs_cons (pg_name (i := 7) sc_f_are_good.nd rfl (Or.inl rfl)) (pgs_cons (pg_name (i := 8) sc_f_are_good.nd rfl (Or.inl rfl)) (pgs_cons (pg_name (i := 9) sc_f_are_good.nd rfl (Or.inl rfl)) (pgs_cons (pg_name (i := 10) sc_f_are_good.nd rfl (Or.inl rfl)) pgs_nil))))))))))))
      (pss_cons (ps_if (PW.pt (pw_or (pt_not (pt_chain op_le op_le pe_int (pv 1) (pe_k T.k_MOST_RING (by rfl)))) (pw_or (pt_not (pt_chain op_le op_le pe_int (pv 2) (pe_k T.k_MOST_GROUP (by rfl)))) (pw_or1 (pt_not (pt_chain op_le op_le pe_int (pv 10) (pe_k T.k_MOST_MODE (by rfl)))))))) (pss_one (ps_ret pe_bl)) pss_nil)
      (pss_cons (ps_if (PW.pt (pw_or (pt_not (pt_chain op_le op_le pe_int (pv 3) pe_int)) (pw_or (pt_not (pt_chain op_le op_le pe_int (pv 4) pe_int)) (pw_or1 (pt_not (pt_chain op_le op_le (pv 3) (pv 5) pe_int)))))) (pss_one (ps_ret pe_bl)) pss_nil)
      (pss_cons (ps_if (PW.pt (pw_or (pt_not (pt_chain op_le op_le pe_int (pv 6) pe_int)) (pw_or1 (pt_not (pt_chain op_le op_le pe_int (pv 7) pe_int))))) (pss_one (ps_ret pe_bl)) pss_nil)
      (pss_one (ps_ret (pe_and (pe_chain op_le op_le pe_int (pv 8) pe_int) (pe_one (pe_chain op_le op_le pe_int (pv 9) pe_int))))))))), ?_⟩
  dsimp only [cxOf, Cx.nox, Cx.wish]
  refine ⟨V.ref p, rfl, p, _, rfl, hp, rfl, _, _, rfl, _, _, rfl, _, _, rfl, _, _, rfl, _, _, rfl, _, _, rfl, _, _, rfl, _, _, rfl, _, _, rfl, _, _, rfl, rfl, ?_⟩
  refine q_when (b := !chn 0 n0 3 || (!chn 0 n1 7 || !chn 0 n9 7)) (et_or (et_not (et_test (ev_chn ev_c (ev_var rfl) ev_c))) fun _ => et_or (et_not (et_test (ev_chn ev_c (ev_var rfl) ev_c))) fun _ => et_not (et_test (ev_chn ev_c (ev_var rfl) ev_c))) (fun hb H1 e1 => ?_) (fun hb H1 e1 => ?_)
  · refine s_ret (ev_is ev_c (congrArg V.bl ?_)) fun H2 e2 => q H2 (e1.trans e2)
    have e0 : (chn 0 n0 3 && (chn 0 n1 7 && chn 0 n9 7)) = false := by
      rw [← Bool.not_eq_true', Bool.not_and, Bool.not_and]
      exact hb
    rw [e0, Bool.false_and]
  · have e0 : (chn 0 n0 3 && (chn 0 n1 7 && chn 0 n9 7)) = true := by
      rw [← Bool.not_eq_false', Bool.not_and, Bool.not_and]
      exact hb
    rw [e0, Bool.true_and] at q
    refine q_when (b := !chn 1 n2 6000 || (!chn 0 n3 6000 || !chn n2 n4 36000)) (et_or (et_not (et_test (ev_chn ev_c (ev_var rfl) ev_c))) fun _ => et_or (et_not (et_test (ev_chn ev_c (ev_var rfl) ev_c))) fun _ => et_not (et_test (ev_chn (ev_var rfl) (ev_var rfl) ev_c))) (fun hb H2 e2 => ?_) (fun hb H2 e2 => ?_)
    · refine s_ret (ev_is ev_c (congrArg V.bl ?_)) fun H3 e3 => q H3 ((e1.trans e2).trans e3)
      have e0 : (chn 1 n2 6000 && (chn 0 n3 6000 && chn n2 n4 36000)) = false := by
        rw [← Bool.not_eq_true', Bool.not_and, Bool.not_and]
        exact hb
      rw [e0, Bool.false_and]
    · have e0 : (chn 1 n2 6000 && (chn 0 n3 6000 && chn n2 n4 36000)) = true := by
        rw [← Bool.not_eq_false', Bool.not_and, Bool.not_and]
        exact hb
      rw [e0, Bool.true_and] at q
      refine q_when (b := !chn 1 n5 1000 || !chn 0 n6 1000) (et_or (et_not (et_test (ev_chn ev_c (ev_var rfl) ev_c))) fun _ => et_not (et_test (ev_chn ev_c (ev_var rfl) ev_c))) (fun hb H3 e3 => ?_) (fun hb H3 e3 => ?_)
      · refine s_ret (ev_is ev_c (congrArg V.bl ?_)) fun H4 e4 => q H4 (((e1.trans e2).trans e3).trans e4)
        have e0 : (chn 1 n5 1000 && chn 0 n6 1000) = false := by
          rw [← Bool.not_eq_true', Bool.not_and]
          exact hb
        rw [e0, Bool.false_and]
      · have e0 : (chn 1 n5 1000 && chn 0 n6 1000) = true := by
          rw [← Bool.not_eq_false', Bool.not_and]
          exact hb
        rw [e0, Bool.true_and] at q
        exact s_ret (ev_andV (ev_chn ev_c (ev_var rfl) ev_c) fun _ => ev_chn ev_c (ev_var rfl) ev_c) fun H4 e4 => q H4 (((e1.trans e2).trans e3).trans e4)
/-! ### a stream is made -/
def cRow (c : Sa38.Stream) : List V := [.int (c.ring : Int), .int (c.group : Int), .int (c.least : Int), .int (c.gap : Int), .int (c.most : Int), .int (c.yellow : Int), .int (c.red : Int), .int (c.walk : Int), .int (c.clear : Int), .int (c.mode : Int)]
/-- the first n attributes of a fresh stream -/
def PF (c : Sa38.Stream) (n : Nat) : List (Str × V) := (sKeys.take n).zip ((sVals (SM.fresh c)).take n)
theorem pf_step {c : Sa38.Stream} {n : Nat} {f : Str} {v : V} (hn : n < 17) (h1 : at1 (sKeys.take n) f = none) (h2 : sKeys[n]? = some f) (h3 : (sVals (SM.fresh c))[n]? = some v) : putF f v (PF c n) = PF c (n + 1) := by
  unfold PF
  rw [zip_new h1 (by rw [List.length_take, List.length_take]; rfl), take_snoc h2, take_snoc h3]
theorem pf_look {c : Sa38.Stream} {n i : Nat} {f : Str} {v : V} (h1 : at1 (sKeys.take n) f = some i) (h3 : ((sVals (SM.fresh c)).take n)[i]? = some v) : (PF c n).lookup f = some v := (zip_look h1).trans h3
theorem pf_len (c : Sa38.Stream) (n : Nat) : (PF c n).length ≤ 17 := by
  unfold PF
  rw [List.length_zip, List.length_take, List.length_take]
  have : sKeys.length = 17 := rfl
  omega
theorem g_new {c : Sa38.Stream} {n : Nat} {f : Str} {v : V} {Q : L2.St → Hp → Prop} (T : Txt K mg CS CC CX) (hn : n < 17) (h1 : at1 (sKeys.take n) f = none) (h2 : sKeys[n]? = some f) (h3 : (sVals (SM.fresh c))[n]? = some v) (na : NoAttr K CS f) (hp : ObjAt CS H a (PF c n)) (ha : Ev ta σ H (.ref a))
    (q : ∀ H', ObjAt CS H' a (PF c (n + 1)) → Fr (· = a) H H' → Q σ H') : gFld K ta f v σ H Q := by
  refine ha H (Ex.refl H) _ fun H1 e1 => ?_
  obtain ⟨dx, hp⟩ := hp
  refine ⟨a, CS, dx, _, rfl, e1 _ _ hp, T.cS, na, (by have := pf_len c n; omega), ?_⟩
  refine q _ ⟨dx, ?_⟩ ((Fr.of e1).trans (Fr.upd rfl))
  rw [upd_same, pf_step hn h1 h2 h3]
theorem q_new {c : Sa38.Stream} {n : Nat} {f : Str} {v : V} {tv : TE} (T : Txt K mg CS CC CX) (hn : n < 17) (h1 : at1 (sKeys.take n) f = none) (h2 : sKeys[n]? = some f) (h3 : (sVals (SM.fresh c))[n]? = some v) (na : NoAttr K CS f) (hp : ObjAt CS H a (PF c n)) (hv : Ev tv σ H v) (ha : Ev ta σ H (.ref a))
    (q : ∀ H', ObjAt CS H' a (PF c (n + 1)) → Fr (· = a) H H' → tz D σ H') : tSeq (sFld K ta tv f) tz D σ H := by
  refine hv H (Ex.refl H) _ fun H1 e1 => ?_
  refine ha H1 e1 _ fun H2 e2 => ?_
  obtain ⟨dx, hp⟩ := hp
  refine ⟨a, CS, dx, _, rfl, e2 _ _ (e1 _ _ hp), T.cS, na, (by have := pf_len c n; omega), ?_⟩
  refine q _ ⟨dx, ?_⟩ ((Fr.of (e1.trans e2)).trans (Fr.upd rfl))
  rw [upd_same, pf_step hn h1 h2 h3]
theorem s_new {c : Sa38.Stream} {n : Nat} {f : Str} {v : V} {tv : TE} (T : Txt K mg CS CC CX) (hn : n < 17) (h1 : at1 (sKeys.take n) f = none) (h2 : sKeys[n]? = some f) (h3 : (sVals (SM.fresh c))[n]? = some v) (na : NoAttr K CS f) (hp : ObjAt CS H a (PF c n)) (hv : Ev tv σ H v) (ha : Ev ta σ H (.ref a))
    (q : ∀ H', ObjAt CS H' a (PF c (n + 1)) → Fr (· = a) H H' → D.nx σ H') : sFld K ta tv f D σ H := q_new (tz := fun D => D.nx) T hn h1 h2 h3 na hp hv ha q
def sp_S_init (CS : Addr) : Sp := fun vs H Q _ => ∃ a r c, vs = [.ref a, .ref r] ∧ ObjAt CS H a [] ∧ H r = some (.lst (cRow c)) ∧ ∀ H', StAt CS H' a (SM.fresh c) → Fr (· = a) H H' → Q .non H'
theorem len_S_init : ∀ vs H Q E, sp_S_init CS vs H Q E → vs.length = 2 := fun vs H Q E ⟨_, _, _, e, _⟩ => by rw [e]; rfl
abbrev s_S_init : Stmt := inClass (top 15) 0
theorem sc_S_init : FnScope ["self", "row"] ["self", "row"] (defScope s_S_init) := ⟨rfl, rfl, rfl, by decide +kernel, rfl, by decide +kernel, by decide +kernel⟩
theorem ok_S_init {f : Addr} {fd : FuncData} (F : Fun K "__init__" "Stream.__init__" s_S_init f fd) (hk : Mk K CS f) (hm : mg "Stream" = some (.ref CS)) (T : Txt K mg CS CC CX) : Mak P w K mg base 1 "Stream" CS (sp_S_init CS) := by
  have b : Binds K fd ["self", "row"] [] := F.binds (ps := ["self", "row"]) fun _ _ _ _ _ _ us hl => match us, hl with | [_, _], _ => rfl
  refine mak_of hk hm F b sc_S_init len_S_init (fun cdv A outer s H vs Q E hr h => ?_)
  obtain ⟨a, r, c, rfl, hp, hr0, q⟩ := h
  refine ⟨_, (pss_cons (ps_asg (pe_slice sl_list (pv 1) po_none (po_some pe_int)) (pg_lst rfl (pgs_cons (pg_att (pv 0)) (pgs_cons (pg_att (pv 0)) (pgs_cons (pg_att (pv 0)) (pgs_cons (pg_att (pv 0)) (pgs_cons (pg_att (pv 0)) pgs_nil)))))))
      (pss_cons (ps_asg (pe_slice sl_list (pv 1) (po_some pe_int) po_none) (pg_lst rfl (pgs_cons (pg_att (pv 0)) (pgs_cons (pg_att (pv 0)) (pgs_cons (pg_att (pv 0)) (pgs_cons (pg_att (pv 0)) (pgs_cons (pg_att (pv 0)) pgs_nil)))))))
      (pss_cons (ps_fld (pv 0) (pe_k T.k_RED (by rfl)) rfl)
      (pss_cons (ps_fld (pv 0) pe_int rfl)
      (pss_cons (ps_fld (pv 0) pe_int rfl)
      (pss_cons (ps_fld (pv 0) pe_int rfl)
      (pss_cons (ps_fld (pv 0) pe_bl rfl)
      (pss_cons (ps_fld (pv 0) (pe_cmpR op_gt (pe_op op_and (pe_fld (pv 0) rfl) (pe_k T.k_CARS_KEPT (by rfl))) pe_int (nomark _)) rfl)
      (pss_one (ps_fld (pv 0) (pe_cmpR op_gt (pe_fld (pv 0) rfl) pe_int (nomark _)) rfl)))))))))), ?_⟩
  dsimp only [cxOf, Cx.nox, Cx.wish]
  have ne : ∀ {H : Hp} {fs : List (Str × V)}, ObjAt CS H a fs → H r = some (.lst (cRow c)) → r ≠ a := fun h1 h2 => by
    obtain ⟨dx, h1⟩ := h1
    exact ne_of h2 h1 (by intro z; cases z)
  have hra : r ≠ a := ne hp hr0
  have sl1 : EvL (tSl (rSlL K) (tVar 1) tNoPart (tPart (tC (.int 5)))) (start ["self", "row"] [.ref a, .ref r]) H [.int (c.ring : Int), .int (c.group : Int), .int (c.least : Int), .int (c.gap : Int), .int (c.most : Int)] := el_is (el_sl (ev_var rfl) eo_none (eo_some ev_c) (sq_of hr0)) rfl
  refine sl1 H (Ex.refl H) _ fun p0 H1 _ e1 h1 => ?_
  have hp1 : ObjAt CS H1 a (PF c 0) := ObjAt.mono e1 hp
  refine ⟨p0, _, rfl, sq_of h1, rfl, _, _, rfl, ?_⟩
  refine g_new (n := 0) T (by decide) (by decide +kernel) (by decide +kernel) rfl T.nS_ring hp1 (ev_var rfl) fun H2 hp2 f2 => ⟨_, _, rfl, ?_⟩
  refine g_new (n := 1) T (by decide) (by decide +kernel) (by decide +kernel) rfl T.nS_group hp2 (ev_var rfl) fun H3 hp3 f3 => ⟨_, _, rfl, ?_⟩
  refine g_new (n := 2) T (by decide) (by decide +kernel) (by decide +kernel) rfl T.nS_least hp3 (ev_var rfl) fun H4 hp4 f4 => ⟨_, _, rfl, ?_⟩
  refine g_new (n := 3) T (by decide) (by decide +kernel) (by decide +kernel) rfl T.nS_gap hp4 (ev_var rfl) fun H5 hp5 f5 => ⟨_, _, rfl, ?_⟩
  refine g_new (n := 4) T (by decide) (by decide +kernel) (by decide +kernel) rfl T.nS_most hp5 (ev_var rfl) fun H6 hp6 f6 => ⟨rfl, ?_⟩
  have fa : Fr (· = a) H H6 := (((((Fr.of e1).trans f2).trans f3).trans f4).trans f5).trans f6
  have hr6 := fa.keep _ _ hr0 hra
  clear f2 f3 f4 f5 f6 hp1 hp2 hp3 hp4 hp5
  have sl2 : EvL (tSl (rSlL K) (tVar 1) (tPart (tC (.int 5))) tNoPart) (start ["self", "row"] [.ref a, .ref r]) H6 [.int (c.yellow : Int), .int (c.red : Int), .int (c.walk : Int), .int (c.clear : Int), .int (c.mode : Int)] := el_is (el_sl (ev_var rfl) (eo_some ev_c) eo_none (sq_of hr6)) rfl
  refine sl2 H6 (Ex.refl H6) _ fun p6 H7 _ e7 h7 => ?_
  have hp7 := hp6.mono e7
  refine ⟨p6, _, rfl, sq_of h7, rfl, _, _, rfl, ?_⟩
  refine g_new (n := 5) T (by decide) (by decide +kernel) (by decide +kernel) rfl T.nS_yellow_time hp7 (ev_var rfl) fun H8 hp8 f8 => ⟨_, _, rfl, ?_⟩
  refine g_new (n := 6) T (by decide) (by decide +kernel) (by decide +kernel) rfl T.nS_red_time hp8 (ev_var rfl) fun H9 hp9 f9 => ⟨_, _, rfl, ?_⟩
  refine g_new (n := 7) T (by decide) (by decide +kernel) (by decide +kernel) rfl T.nS_walk_time hp9 (ev_var rfl) fun H10 hp10 f10 => ⟨_, _, rfl, ?_⟩
  refine g_new (n := 8) T (by decide) (by decide +kernel) (by decide +kernel) rfl T.nS_clear_time hp10 (ev_var rfl) fun H11 hp11 f11 => ⟨_, _, rfl, ?_⟩
  refine g_new (n := 9) T (by decide) (by decide +kernel) (by decide +kernel) rfl T.nS_mode hp11 (ev_var rfl) fun H12 hp12 f12 => ⟨rfl, ?_⟩
  have fb : Fr (· = a) H H12 := (((((fa.trans (Fr.of e7)).trans f8).trans f9).trans f10).trans f11).trans f12
  clear f8 f9 f10 f11 f12 hp7 hp8 hp9 hp10 hp11
  refine q_new (n := 10) (v := .int ((0 : Nat) : Int)) T (by decide) (by decide +kernel) (by decide +kernel) rfl T.nS_colour hp12 ev_c (ev_var rfl) fun H13 hp13 f13 => ?_
  refine q_new (n := 11) (v := .int ((0 : Nat) : Int)) T (by decide) (by decide +kernel) (by decide +kernel) rfl T.nS_time hp13 (ev_ceq rfl) (ev_var rfl) fun H14 hp14 f14 => ?_
  refine q_new (n := 12) (v := .int ((0 : Nat) : Int)) T (by decide) (by decide +kernel) (by decide +kernel) rfl T.nS_rest hp14 (ev_ceq rfl) (ev_var rfl) fun H15 hp15 f15 => ?_
  refine q_new (n := 13) (v := .int ((0 : Nat) : Int)) T (by decide) (by decide +kernel) (by decide +kernel) rfl T.nS_waited hp15 (ev_ceq rfl) (ev_var rfl) fun H16 hp16 f16 => ?_
  refine q_new (n := 14) (v := .bl false) T (by decide) (by decide +kernel) (by decide +kernel) rfl T.nS_let_go hp16 (ev_ceq rfl) (ev_var rfl) fun H17 hp17 f17 => ?_
  have em : Ev (tFld K (tVar 0) "mode") (start ["self", "row"] [.ref a, .ref r]) H17 (.int (c.mode : Int)) := ev_fld (ev_var rfl) hp17 T.cS T.nS_mode (pf_look (i := 9) (by decide +kernel) rfl)
  refine q_new (n := 15) (v := .bl c.remembers) T (by decide) (by decide +kernel) (by decide +kernel) rfl T.nS_car hp17 (ev_is (ev_op (ev_op em ev_c rv_I0) ev_c rv_I0) (congrArg V.bl (mode_bit c.mode 2))) (ev_var rfl) fun H18 hp18 f18 => ?_
  have ew : Ev (tFld K (tVar 0) "walk_time") (start ["self", "row"] [.ref a, .ref r]) H18 (.int (c.walk : Int)) := ev_fld (ev_var rfl) hp18 T.cS T.nS_walk_time (pf_look (i := 7) (by decide +kernel) rfl)
  have fc : Fr (· = a) H H18 := (((((fb.trans f13).trans f14).trans f15).trans f16).trans f17).trans f18
  refine s_new (n := 16) (v := .bl (decide (0 < c.walk))) T (by decide) (by decide +kernel) (by decide +kernel) rfl T.nS_button hp18 (ev_op ew ev_c rv_gt0) (ev_var rfl) fun H19 hp19 f19 => ?_
  exact q H19 hp19 (fc.trans f19)
/-! ### a crossing is made -/
def sp_C_init (CS CC : Addr) : Sp := fun vs H Q _ => ∃ p la as cs, vs = [.ref p, .ref la] ∧ ObjAt CC H p [] ∧ H la = some (.lst (as.map V.ref)) ∧ as.Nodup ∧ as.length = cs.length ∧ (∀ (k : Nat) (b : Addr) (c : Sa38.Stream), as[k]? = some b → cs[k]? = some c → StAt CS H b (SM.fresh c)) ∧ Sound cs ∧
  ∀ ls H', CrAt CS CC H' ⟨p, la, ls, as⟩ (CM.fresh cs) → H ls = none → Fr (· = p) H H' → Q .non H'
theorem len_C_init : ∀ vs H Q E, sp_C_init CS CC vs H Q E → vs.length = 2 := fun vs H Q E ⟨_, _, _, _, e, _⟩ => by rw [e]; rfl
theorem q_cnew {f : Str} {fs : List (Str × V)} {v : V} {tv : TE} {C : Addr} (cl : Cls K C) (na : NoAttr K C f) (hz : fs.length < 1000) (hp : ObjAt C H a fs) (hv : Ev tv σ H v) (ha : Ev ta σ H (.ref a))
    (q : ∀ H', ObjAt C H' a (putF f v fs) → Fr (· = a) H H' → tz D σ H') : tSeq (sFld K ta tv f) tz D σ H := by
  refine hv H (Ex.refl H) _ fun H1 e1 => ?_
  refine ha H1 e1 _ fun H2 e2 => ?_
  obtain ⟨dx, hp⟩ := hp
  refine ⟨a, C, dx, _, rfl, e2 _ _ (e1 _ _ hp), cl, na, hz, ?_⟩
  exact q _ ⟨dx, upd_same⟩ ((Fr.of (e1.trans e2)).trans (Fr.upd rfl))
theorem s_cnew {f : Str} {fs : List (Str × V)} {v : V} {tv : TE} {C : Addr} (cl : Cls K C) (na : NoAttr K C f) (hz : fs.length < 1000) (hp : ObjAt C H a fs) (hv : Ev tv σ H v) (ha : Ev ta σ H (.ref a))
    (q : ∀ H', ObjAt C H' a (putF f v fs) → Fr (· = a) H H' → D.nx σ H') : sFld K ta tv f D σ H := q_cnew (tz := fun D => D.nx) cl na hz hp hv ha q
theorem put_len {f : Str} {v : V} {fs : List (Str × V)} {n : Nat} (h : fs.length ≤ n) : (putF f v fs).length ≤ n + 1 := Nat.le_trans (length_putF f v fs) (Nat.succ_le_succ h)
abbrev s_C_init : Stmt := inClass (top 20) 0
theorem sc_C_init : FnScope ["self", "streams", "ring"] ["self", "streams"] (defScope s_C_init) := ⟨rfl, rfl, rfl, by decide +kernel, rfl, by decide +kernel, by decide +kernel⟩
theorem ok_C_init {f : Addr} {fd : FuncData} (F : Fun K "__init__" "Crossing.__init__" s_C_init f fd) (hk : Mk K CC f) (hm : mg "Crossing" = some (.ref CC)) (T : Txt K mg CS CC CX) : Mak P w K mg base 1 "Crossing" CC (sp_C_init CS CC) := by
  have b : Binds K fd ["self", "streams"] [] := F.binds (ps := ["self", "streams"]) fun _ _ _ _ _ _ us hl => match us, hl with | [_, _], _ => rfl
  refine mak_of hk hm F b sc_C_init len_C_init (fun cdv A outer s H vs Q E hr h => ?_)
  obtain ⟨p, la, as, cs, rfl, hp, hla, hnd, hlen, hst, hs, q⟩ := h
  refine ⟨_, (pss_cons (ps_fld (pv 0) (pv 1) rfl)
      (pss_cons (ps_fld (pv 0) (pe_op op_sub (pe_k T.k_GROUPS (by rfl)) pe_int) rfl)
      (pss_cons (ps_fld (pv 0) (pe_lc (own := [("ring", 2)]) (g := gName 2) rfl sc_C_init.nd (pi_range1 (by rfl) T.b_range (pa_cons (pe_k T.k_RINGS (by rfl)) pa_nil)) (blkOk_by (own := [("ring", 2)]) (N := ["self", "streams", "ring"]) (sc := defScope s_C_init) (by decide +kernel)) (fun _ _ _ _ _ => pg_name (i := 2) sc_C_init.nd rfl (Or.inl rfl)) (fun _ _ _ _ _ => pts_nil) (fun _ _ _ _ _ => (pe_k T.k_NONE (by rfl)))) rfl)
      (pss_cons (ps_fld (pv 0) pe_int rfl)
      (pss_one (ps_fld (pv 0) (pe_k T.k_NONE (by rfl)) rfl)))))), ?_⟩
  dsimp only [cxOf, Cx.nox, Cx.wish]
  refine q_cnew (v := .ref la) T.cC T.nC_streams (by decide) hp (ev_var rfl) (ev_var rfl) fun H1 hp1 f1 => ?_
  refine q_cnew (v := .int ((7 : Nat) : Int)) T.cC T.nC_group (Nat.lt_of_le_of_lt (put_len (Nat.le_refl 0)) (by decide)) hp1 (ev_is (ev_op ev_c ev_c rv_I0) rfl) (ev_var rfl) fun H2 hp2 f2 => ?_
  refine q_fldNew (xs := (List.replicate 4 (none : Option Nat)).map nV) (el_is (el_lcR (σ := start ["self", "streams", "ring"] [.ref p, .ref la]) (n := 4) (fun _ => true) (fun _ => nV none) (ea_one ev_c) (by decide) (fun _ => rfl) (fun _ _ => et_yes) (fun _ _ _ => ev_ceq rfl)) rfl) (fun _ => ev_var rfl) fun l H3 hl e3 h3 => ?_
  obtain ⟨dx, hd3⟩ := hp2.mono e3
  refine ⟨CC, dx, _, hd3, T.cC, T.nC_lasts, Nat.lt_of_le_of_lt (put_len (put_len (Nat.le_refl 0))) (by decide), ?_⟩
  have hp4 : ObjAt CC (upd H3 p (.ins CC dx (putF "lasts" (.ref l) (putF "group" (.int ((7 : Nat) : Int)) (putF "streams" (.ref la) []))))) p (putF "lasts" (.ref l) (putF "group" (.int ((7 : Nat) : Int)) (putF "streams" (.ref la) []))) := ⟨dx, upd_same⟩
  have f4 : Fr (· = p) H (upd H3 p (.ins CC dx (putF "lasts" (.ref l) (putF "group" (.int ((7 : Nat) : Int)) (putF "streams" (.ref la) []))))) := ((f1.trans f2).trans (Fr.of e3)).trans (Fr.upd rfl)
  have hl4 : (upd H3 p (.ins CC dx (putF "lasts" (.ref l) (putF "group" (.int ((7 : Nat) : Int)) (putF "streams" (.ref la) []))))) l = some (.lst ((List.replicate 4 (none : Option Nat)).map nV)) := by
    rw [upd_ne (ne_of h3 hd3 (by intro z; cases z))]
    exact h3
  have hlp : l ≠ p := ne_of h3 hd3 (by intro z; cases z)
  have hlH : H l = none := (f1.trans f2).dom _ hl
  generalize (upd H3 p (.ins CC dx (putF "lasts" (.ref l) (putF "group" (.int ((7 : Nat) : Int)) (putF "streams" (.ref la) []))))) = H4 at hp4 f4 hl4
  refine q_cnew (v := .int ((0 : Nat) : Int)) T.cC T.nC_cars (Nat.lt_of_le_of_lt (put_len (put_len (put_len (Nat.le_refl 0)))) (by decide)) hp4 (ev_ceq rfl) (ev_var rfl) fun H5 hp5 f5 => ?_
  refine s_cnew (v := nV none) T.cC T.nC_first (Nat.lt_of_le_of_lt (put_len (put_len (put_len (put_len (Nat.le_refl 0))))) (by decide)) hp5 (ev_ceq rfl) (ev_var rfl) fun H6 hp6 f6 => ?_
  have f7 : Fr (· = p) H H6 := (f4.trans f5).trans f6
  have neI : ∀ {b o}, H b = some o → (∀ C d fs, o = .ins C d fs → fs ≠ []) → b ≠ p := fun h1 h2 z => by
    obtain ⟨d, hd⟩ := hp
    rw [z, hd] at h1
    cases h1
    exact h2 _ _ _ rfl rfl
  refine q l H6 ⟨?_, f7.keep _ _ hla (neI hla (by intro C d fs z; cases z)), (f5.trans f6).keep _ _ hl4 hlp, hnd, by rw [hlen]; exact (List.length_map _).symm, fun k b s hb hs' => ?_, fresh_ok hs, fun z => ?_⟩ hlH f7
  · exact hp6
  · have hs' : (cs.map SM.fresh)[k]? = some s := hs'
    rw [List.getElem?_map] at hs'
    cases e : cs[k]? with
    | none => rw [e] at hs'; cases hs'
    | some c =>
      rw [e] at hs'
      cases hs'
      obtain ⟨d, hd⟩ := hst k b c hb e
      exact ⟨d, f7.keep _ _ hd (neI hd (by intro C d fs z; cases z; intro y; have := congrArg List.length y; rw [sF_len] at this; cases this))⟩
  · have z : la = l := z
    rw [z, hlH] at hla
    cases hla
end
end Cg

/-! Two crossings: begin. -/
namespace Cg
open PySem PySem.Spec PyProof.Rows L2 Evl
local macro_rules | `(tactic| walk_at "rv") => `(tactic| first
  | with_reducible exact rv_eqn | with_reducible exact rv_nen | with_reducible exact rv_ltn | with_reducible exact rv_len | with_reducible exact rv_gtn | with_reducible exact rv_gen | with_reducible exact rv_addn
  | with_reducible exact rv_eq0 | with_reducible exact rv_eq1 | with_reducible exact rv_gt0 | with_reducible exact rv_noneEq | with_reducible exact rv_noneNe | with_reducible exact rv_firstEq | with_reducible exact rv_firstNe | exact rv_I0)
local macro_rules | `(tactic| walk_at "fld") => `(tactic| first
  | with_reducible apply ev_s_colour (by assumption) | with_reducible apply ev_s_time (by assumption) | with_reducible apply ev_s_let_go (by assumption) | with_reducible apply ev_s_mode (by assumption) | with_reducible apply ev_s_ring (by assumption) | with_reducible apply ev_s_group (by assumption)
  | with_reducible apply ev_s_walk_time (by assumption) | with_reducible apply ev_s_clear_time (by assumption) | with_reducible apply ev_s_rest (by assumption) | with_reducible apply ev_s_waited (by assumption) | with_reducible apply ev_s_car (by assumption) | with_reducible apply ev_s_button (by assumption)
  | with_reducible apply ev_s_least (by assumption) | with_reducible apply ev_s_gap (by assumption) | with_reducible apply ev_s_most (by assumption) | with_reducible apply ev_s_yellow_time (by assumption) | with_reducible apply ev_s_red_time (by assumption))
local macro_rules | `(tactic| walk_at "ev") => `(tactic| first
  | with_reducible exact ev_c
  | ((with_reducible apply ev_ceq); exact rfl)
  | ((with_reducible apply ev_var); exact rfl)
  | ((with_reducible apply ev_andV); walk_at "ev"; (intro _; walk_at "ev"))
  | ((with_reducible apply ev_orV); walk_at "ev"; (intro _; walk_at "ev"))
  | ((with_reducible apply ev_notV); walk_at "ev")
  | walk_at "evm"
  | ((with_reducible apply ev_op); walk_at "ev"; walk_at "ev"; walk_at "rv")
  | ((with_reducible apply ev_chain); walk_at "ev"; walk_at "ev"; walk_at "rv"; (intro _; walk_at "ev"); (intro _; walk_at "rv"))
  | (walk_at "fld"; walk_at "ev"; assumption))
local macro_rules | `(tactic| walk_at "et") => `(tactic| first
  | with_reducible exact et_yes
  | ((with_reducible apply et_and); walk_at "et"; (intro _; walk_at "et"))
  | ((with_reducible apply et_or); walk_at "et"; (intro _; walk_at "et"))
  | ((with_reducible apply et_not); walk_at "et")
  | ((with_reducible apply et_test); walk_at "ev")
  | ((with_reducible apply et_B); walk_at "ev"))
local macro_rules | `(tactic| walk_at "evm") => `(tactic| first
  | ((with_reducible apply fv_c_stream); assumption; assumption; walk_at "ev"; walk_at "ev"; assumption)
  | ((with_reducible apply fv_c_last); assumption; assumption; walk_at "ev"; walk_at "ev"; assumption)
  | ((with_reducible apply fv_c_first); assumption; assumption; walk_at "ev")
  | ((with_reducible apply fv_c_cars); assumption; assumption; walk_at "ev")
  | ((with_reducible apply fv_c_streams); assumption; assumption; walk_at "ev")
  | ((with_reducible apply fv_c_lasts); assumption; assumption; walk_at "ev")
  | ((with_reducible apply fv_c_group); assumption; assumption; walk_at "ev")
  | ((with_reducible apply em_f_has_bit); walk_at "ev"; walk_at "ev")
  | ((with_reducible apply em_is_always_called); walk_at "ev"; assumption)
  | ((with_reducible apply em_are_people_over); walk_at "ev"; assumption)
  | ((with_reducible apply em_is_due); walk_at "ev"; assumption)
  | ((with_reducible apply em_has_walkers); walk_at "ev"; assumption)
  | ((with_reducible apply em_has_clearers); walk_at "ev"; assumption)
  | ((with_reducible apply fm_C_is_called); assumption; walk_at "ev"; walk_at "ev"; assumption)
  | ((with_reducible apply fm_C_is_barred); assumption; walk_at "ev"; walk_at "ev"; assumption)
  | ((with_reducible apply fm_C_is_stuck); assumption; walk_at "ev"; walk_at "ev"; assumption)
  | ((with_reducible apply fm_C_is_ready); assumption; walk_at "ev"; walk_at "ev"; assumption)
  | ((with_reducible apply fm_C_is_over); assumption; walk_at "ev"; walk_at "ev"; assumption)
  | ((with_reducible apply fm_C_heir); assumption; walk_at "ev"; walk_at "ev"; assumption)
  | ((with_reducible apply fm_C_in_colour); assumption; walk_at "ev"; walk_at "ev"; assumption)
  | ((with_reducible apply fm_C_are_crossing); assumption; walk_at "ev"; walk_at "ev"; walk_at "ev"; assumption; assumption)
  | ((with_reducible apply fm_C_is_beside); assumption; walk_at "ev"; walk_at "ev"; walk_at "ev"; assumption; assumption)
  | ((with_reducible apply fm_C_first_called); assumption; walk_at "ev"; walk_at "ev"; walk_at "ev")
  | ((with_reducible apply fm_C_is_all_red); assumption; walk_at "ev")
  | ((with_reducible apply fm_C_is_pressed); assumption; walk_at "ev")
  | ((with_reducible apply fm_C_next_group); assumption; walk_at "ev"))
/-! ### the two crossings in the heap -/
def pk {α : Type} (o : α × α) (e : Int) : α := if e = 0 then o.1 else o.2
def pt {α : Type} (o : α × α) (e : Int) (x : α) : α × α := if e = 0 then (x, o.2) else (o.1, x)
def vO : Option Ad → V
  | none => .non
  | some A => .ref A.p
def CrO (CS CC : Addr) (H : Hp) : Option Ad → Option CM → Prop
  | none, none => True
  | some A, some m => CrAt CS CC H A m
  | _, _ => False
def part (A : Ad) (x : Addr) : Prop := foot A x ∨ x = A.la
def bF (bl : Addr) : List (Str × V) := [("both", .ref bl)]
structure BAt (CS CC CX : Addr) (H : Hp) (p bl : Addr) (o : Option Ad × Option Ad) (b : Bth) : Prop where
  obj : ObjAt CX H p (bF bl)
  lst : H bl = some (.lst [vO o.1, vO o.2])
  cr : ∀ e, CrO CS CC H (pk o e) (pickB b e)
  dis : ∀ A0 A1 x, o.1 = some A0 → o.2 = some A1 → part A0 x → part A1 x → False
  nin : ∀ e A x, pk o e = some A → part A x → x ≠ p ∧ x ≠ bl
def bfoot (p bl : Addr) (o : Option Ad × Option Ad) (x : Addr) : Prop := x = p ∨ x = bl ∨ ∃ e A, pk o e = some A ∧ part A x
structure BTr (p bl : Addr) (o : Option Ad × Option Ad) (H : Hp) (o' : Option Ad × Option Ad) (H' : Hp) : Prop where
  fr : Fr (bfoot p bl o) H H'
  sub : ∀ x, bfoot p bl o' x → bfoot p bl o x ∨ H x = none
section
variable {P : Program} {w : World} {K : PySem.W.Frag} {mg : Str → Option Value} {base : Heap} {CS CC CX a p bl : Addr} {A A1 A2 : Ad} {m m' : CM} {k j r : Nat} {σ : L2.St} {H H' H1 H2 : Hp} {ta tb te ti t1 t2 : TE} {tz : TS} {t : TT} {E : XK} {D : Ends} {o o' : Option Ad × Option Ad} {b b' : Bth} {e : Int}
theorem pk_pt {α : Type} (o : α × α) (e e' : Int) (x : α) (h : e = 0 ∨ e = 1) (h' : e' = 0 ∨ e' = 1) : pk (pt o e x) e' = if e' = e then x else pk o e' := by
  unfold pk pt
  rcases h with rfl | rfl <;> rcases h' with rfl | rfl <;> rfl
theorem pk_one {α : Type} (o : α × α) (e : Int) : pk o e = pk o 0 ∨ pk o e = pk o 1 := by
  unfold pk
  by_cases h : e = 0
  · rw [if_pos h]
    exact .inl rfl
  · rw [if_neg h]
    exact .inr rfl
theorem CrO.mono {oa : Option Ad} {om : Option CM} (ex : Ex H H') (h : CrO CS CC H oa om) : CrO CS CC H' oa om := by
  cases oa <;> cases om
  · trivial
  · exact h
  · exact h
  · exact CrAt.mono ex h
theorem BAt.mono (ex : Ex H H') (h : BAt CS CC CX H p bl o b) : BAt CS CC CX H' p bl o b := ⟨h.obj.mono ex, ex _ _ h.lst, fun e => (h.cr e).mono ex, h.dis, h.nin⟩
theorem BTr.of (ex : Ex H H') : BTr p bl o H o H' := ⟨Fr.of ex, fun _ h => .inl h⟩
theorem BTr.ex {H2 : Hp} (t : BTr p bl o H o' H') (ex : Ex H' H2) : BTr p bl o H o' H2 := ⟨t.fr.trans (Fr.of ex), t.sub⟩
theorem BTr.pre {H0 : Hp} (ex : Ex H0 H) (t : BTr p bl o H o' H') : BTr p bl o H0 o' H' := ⟨(Fr.of ex).trans t.fr, fun x h => (t.sub x h).imp id fun z => fresh_back ex z⟩
theorem CrAt.frame {F : Addr → Prop} (hC : CrAt CS CC H A m) (fr : Fr F H H') (hF : ∀ x, part A x → ¬ F x) : CrAt CS CC H' A m := by
  refine ⟨?_, fr.keep _ _ hC.lst (hF _ (.inr rfl)), fr.keep _ _ hC.las (hF _ (.inl (.inr (.inl rfl)))), hC.nd, hC.len, fun k a s h1 h2 => ?_, hC.ok, hC.ne⟩
  · obtain ⟨d, h⟩ := hC.obj
    exact ⟨d, fr.keep _ _ h (hF _ (.inl (.inl rfl)))⟩
  · obtain ⟨d, h⟩ := hC.at_ k a s h1 h2
    exact ⟨d, fr.keep _ _ h (hF _ (.inl (.inr (.inr (List.mem_of_getElem? h1)))))⟩
theorem CrAt.there (hC : CrAt CS CC H A m) {x : Addr} (h : part A x) : H x ≠ none := by
  intro z
  rcases h with (rfl | rfl | h) | rfl
  · obtain ⟨d, hd⟩ := hC.obj
    rw [z] at hd
    cases hd
  · have := hC.las
    rw [z] at this
    cases this
  · obtain ⟨k, hk⟩ := List.mem_iff_getElem?.mp h
    have lt := (List.getElem?_eq_some_iff.mp hk).1
    have hl := hC.len
    obtain ⟨d, hd⟩ := hC.at_ k x _ hk (sat_lt (by omega))
    rw [z] at hd
    cases hd
  · have := hC.lst
    rw [z] at this
    cases this
theorem pk_other (he : e = 0 ∨ e = 1) {e' : Int} (he' : e' = 0 ∨ e' = 1) (ne : e' ≠ e) : (e = 0 ∧ e' = 1) ∨ (e = 1 ∧ e' = 0) := by omega
theorem BAt.apart (h : BAt CS CC CX H p bl o b) (he : e = 0 ∨ e = 1) {e' : Int} (he' : e' = 0 ∨ e' = 1) (ne : e' ≠ e) (h1 : pk o e = some A1) (h2 : pk o e' = some A2) {x : Addr} (p1 : part A1 x) (p2 : part A2 x) : False := by
  rcases pk_other he he' ne with ⟨rfl, rfl⟩ | ⟨rfl, rfl⟩
  · exact h.dis A1 A2 x h1 h2 p1 p2
  · exact h.dis A2 A1 x h2 h1 p2 p1
/-- one of the two is another: what must hold of it -/
theorem BAt.change {l' : List V} {m' : CM} (h : BAt CS CC CX H p bl o b) (he : e = 0 ∨ e = 1) (hobj : ObjAt CX H' p (bF bl)) (hl : H' bl = some (.lst [vO (pt o e (some A)).1, vO (pt o e (some A)).2])) (hC : CrAt CS CC H' A m')
    (hoth : ∀ e', (e' = 0 ∨ e' = 1) → e' ≠ e → CrO CS CC H' (pk o e') (pickB b e')) (hp : ∀ x, part A x → (∃ A0, pk o e = some A0 ∧ part A0 x) ∨ H x = none) : BAt CS CC CX H' p bl (pt o e (some A)) (putB b e (some m')) := by
  have hpkb : ∀ e', (e' = 0 ∨ e' = 1) → pickB (putB b e (some m')) e' = if e' = e then some m' else pickB b e' := fun e' he' => pk_pt b e e' (some m') he he'
  have key : ∀ e', (e' = 0 ∨ e' = 1) → CrO CS CC H' (pk (pt o e (some A)) e') (pickB (putB b e (some m')) e') := fun e' he' => by
    rw [pk_pt o e e' _ he he', hpkb e' he']
    by_cases q : e' = e
    · rw [if_pos q, if_pos q]
      exact hC
    · rw [if_neg q, if_neg q]
      exact hoth e' he' q
  have tracked : ∀ e' A' x, (e' = 0 ∨ e' = 1) → pk o e' = some A' → part A' x → H x ≠ none := fun e' A' x he' h1 h2 => by
    have hc := h.cr e'
    rw [h1] at hc
    cases q : pickB b e' with
    | none => rw [q] at hc; exact hc.elim
    | some mm => rw [q] at hc; exact CrAt.there hc h2
  have disE : ∀ e' A' x, (e' = 0 ∨ e' = 1) → e' ≠ e → pk o e' = some A' → part A x → part A' x → False := fun e' A' x he' ne h1 h2 h3 => by
    rcases hp x h2 with ⟨A0, h4, h5⟩ | z
    · exact h.apart he he' ne h4 h1 h5 h3
    · exact tracked e' A' x he' h1 h3 z
  refine ⟨hobj, hl, fun e' => ?_, fun A0 A1 x h0 h1 p0 p1 => ?_, fun e' A' x h1 h2 => ?_⟩
  · have e2 : pickB (putB b e (some m')) e' = pk (putB b e (some m')) e' := rfl
    by_cases q : e' = 0
    · rw [q]
      exact key 0 (.inl rfl)
    · have e3 : pk (pt o e (some A)) e' = pk (pt o e (some A)) 1 := by unfold pk; rw [if_neg q, if_neg (by decide)]
      have e4 : pickB (putB b e (some m')) e' = pickB (putB b e (some m')) 1 := by unfold pickB; rw [if_neg q, if_neg (by decide)]
      rw [e3, e4]
      exact key 1 (.inr rfl)
  · have h0' : pk (pt o e (some A)) 0 = some A0 := h0
    have h1' : pk (pt o e (some A)) 1 = some A1 := h1
    rw [pk_pt o e 0 _ he (.inl rfl)] at h0'
    rw [pk_pt o e 1 _ he (.inr rfl)] at h1'
    rcases he with rfl | rfl
    · rw [if_pos rfl] at h0'
      rw [if_neg (by decide)] at h1'
      cases h0'
      exact disE 1 A1 x (.inr rfl) (by decide) h1' p0 p1
    · rw [if_neg (by decide)] at h0'
      rw [if_pos rfl] at h1'
      cases h1'
      exact disE 0 A0 x (.inl rfl) (by decide) h0' p1 p0
  · have main : ∀ e', (e' = 0 ∨ e' = 1) → pk (pt o e (some A)) e' = some A' → x ≠ p ∧ x ≠ bl := fun e' he' h1 => by
      rw [pk_pt o e e' _ he he'] at h1
      by_cases q : e' = e
      · rw [if_pos q] at h1
        cases h1
        rcases hp x h2 with ⟨A0, h4, h5⟩ | z
        · exact h.nin e A0 x h4 h5
        · obtain ⟨d, hd⟩ := h.obj
          exact ⟨fun y => (by rw [← y, z] at hd; cases hd), fun y => (by have := h.lst; rw [← y, z] at this; cases this)⟩
      · rw [if_neg q] at h1
        exact h.nin e' A' x h1 h2
    rcases pk_one (pt o e (some A)) e' with q | q
    · exact main 0 (.inl rfl) (q ▸ h1)
    · exact main 1 (.inr rfl) (q ▸ h1)
theorem BTr.change {H' : Hp} (he : e = 0 ∨ e = 1) (hp : ∀ x, part A x → (∃ A0, pk o e = some A0 ∧ part A0 x) ∨ H x = none) (fr : Fr (bfoot p bl o) H H') : BTr p bl o H (pt o e (some A)) H' := by
  refine ⟨fr, fun x hx => ?_⟩
  rcases hx with h | h | ⟨e', A', h1, h2⟩
  · exact .inl (.inl h)
  · exact .inl (.inr (.inl h))
  · have main : ∀ e', (e' = 0 ∨ e' = 1) → pk (pt o e (some A)) e' = some A' → bfoot p bl o x ∨ H x = none := fun e' he' h1 => by
      rw [pk_pt o e e' _ he he'] at h1
      by_cases q : e' = e
      · rw [if_pos q] at h1
        cases h1
        rcases hp x h2 with ⟨A0, h4, h5⟩ | z
        · exact .inl (.inr (.inr ⟨e, A0, h4, h5⟩))
        · exact .inr z
      · rw [if_neg q] at h1
        exact .inl (.inr (.inr ⟨e', A', h1, h2⟩))
    rcases pk_one (pt o e (some A)) e' with q | q
    · exact main 0 (.inl rfl) (q ▸ h1)
    · exact main 1 (.inr rfl) (q ▸ h1)
/-- behind a step of one of them -/
theorem BAt.stepped {l : Addr} (h : BAt CS CC CX H p bl o b) (he : e = 0 ∨ e = 1) (ho : pk o e = some A) (hC : CrAt CS CC H' { A with ls := l } m') (t : Tr A H l H') :
    BAt CS CC CX H' p bl (pt o e (some { A with ls := l })) (putB b e (some m')) ∧ BTr p bl o H (pt o e (some { A with ls := l })) H' := by
  have hp : ∀ x, part { A with ls := l } x → (∃ A0, pk o e = some A0 ∧ part A0 x) ∨ H x = none := fun x hx => by
    rcases hx with (z | z | z) | z
    · exact .inl ⟨A, ho, .inl (.inl z)⟩
    · have z : x = l := z
      rcases t.ls with y | y
      · exact .inl ⟨A, ho, .inl (.inr (.inl (z.trans y)))⟩
      · rw [z]
        exact .inr y
    · exact .inl ⟨A, ho, .inl (.inr (.inr z))⟩
    · exact .inl ⟨A, ho, .inr z⟩
  have nf : ∀ x, foot A x → bfoot p bl o x := fun x hx => .inr (.inr ⟨e, A, ho, .inl hx⟩)
  have np : ¬ foot A p := fun z => (h.nin e A p ho (.inl z)).1 rfl
  have nb : ¬ foot A bl := fun z => (h.nin e A bl ho (.inl z)).2 rfl
  refine ⟨h.change (l' := []) he ?_ ?_ hC (fun e' he' ne => ?_) hp, BTr.change he hp (t.fr.mono nf)⟩
  · obtain ⟨d, hd⟩ := h.obj
    exact ⟨d, t.fr.keep _ _ hd np⟩
  · have e1 : [vO (pt o e (some { A with ls := l })).1, vO (pt o e (some { A with ls := l })).2] = [vO o.1, vO o.2] := by
      rcases he with rfl | rfl
      · have ho : o.1 = some A := ho
        rw [ho] <;> rfl
      · have ho : o.2 = some A := ho
        rw [ho] <;> rfl
    rw [e1]
    exact t.fr.keep _ _ h.lst nb
  · have hc := h.cr e'
    cases q : pk o e' with
    | none =>
      rw [q] at hc
      cases q2 : pickB b e' with
      | none => trivial
      | some m2 => rw [q2] at hc; exact hc.elim
    | some A2 =>
      rw [q] at hc
      cases q2 : pickB b e' with
      | none => rw [q2] at hc; exact hc.elim
      | some m2 =>
        rw [q2] at hc
        exact CrAt.frame hc t.fr fun x h1 h2 => h.apart he he' ne ho q (.inl h2) h1
theorem s_fldNew {f : Str} {tv : TE} {xs : List V} {p : Addr} (hv : EvL tv σ H xs) (ha : ∀ H, Ev ta σ H (.ref p)) (q : ∀ l H2, H l = none → Ex H H2 → H2 l = some (.lst xs) → ∃ C dx fs, H2 p = some (.ins C dx fs) ∧ Cls K C ∧ NoAttr K C f ∧ fs.length < 1000 ∧ D.nx σ (upd H2 p (.ins C dx (putF f (.ref l) fs)))) : sFld K ta tv f D σ H := q_fldNew (tz := fun D => D.nx) hv ha q
theorem q_callS {sp : Sp} {tr : TA} {vs : List V} {i : Nat} (h : EvA tr σ H vs) (k : ∀ H1, Ex H H1 → sp vs H1 (fun v H2 => tz D (σ.set i (some v)) H2) E) : tSeq (tAsg (tCall sp [] E tr) (gName i)) tz D σ H := h H (Ex.refl H) _ fun H1 e1 => by
  rw [List.append_nil]
  exact k H1 e1
theorem q_make1 {sp : Sp} {C : Addr} {tlc : TE} {g : TG} (h : tlc σ H fun x H1 => ∀ y dy, H1 y = none → H1 dy = none → dy ≠ y → sp [.ref y, x] (upd (upd H1 dy (.own y)) y (.ins C dy [])) (fun v H2 => v = .non ∧ g (.ref y) σ H2 (tz D)) E) : tSeq (tAsg (tMake C sp [] E (tCons tlc tNil)) g) tz D σ H := h
/-! ### rows -/
/-- new objects made in turns: as so far, each as Pr says -/
def Ow (H1 : Hp) (Dl : Addr) (Pr : Nat → Addr → Hp → Prop) (i : Nat) (H' : Hp) : Prop := ∃ as : List Addr, as.length = i ∧ as.Nodup ∧ (∀ b ∈ as, H1 b = none ∧ b ≠ Dl ∧ H' b ≠ none) ∧ H1 Dl = none ∧ Ex H1 H' ∧ H' Dl = some (.lst (as.map V.ref)) ∧ ∀ (k : Nat) (b : Addr), as[k]? = some b → Pr k b H'
theorem ow_turn {Pr : Nat → Addr → Hp → Prop} {Dl : Addr} {i : Nat} (mono : ∀ i b H H', Pr i b H → (∀ o, H b = some o → H' b = some o) → Pr i b H') (p : Ow H1 Dl Pr i H') (hi : i < 40000) (he : ∀ Q : VK, (∀ b H2, H' b = none → H2 b ≠ none → Ex H' H2 → Pr i b H2 → Q (.ref b) H2) → te σ H' Q) :
    te σ H' fun y H4 => ∃ acc, H4 Dl = some (.lst acc) ∧ acc.length < sizeLine ∧ Ow H1 Dl Pr (i + 1) (upd H4 Dl (.lst (acc ++ [y]))) := by
  obtain ⟨as, hl, nd, h1, hD, ex, h2, h3⟩ := p
  refine he _ fun b H4 hb hb4 e4 hP => ?_
  have nb : b ∉ as := fun z => (h1 b z).2.2 hb
  have nD : b ≠ Dl := fun z => by rw [z, h2] at hb; cases hb
  have keep : ∀ c o, c ≠ Dl → H4 c = some o → upd H4 Dl (.lst (as.map V.ref ++ [.ref b])) c = some o := fun c o hc ho => by rw [upd_ne hc]; exact ho
  refine ⟨as.map V.ref, e4 _ _ h2, sz_lt (by rw [List.length_map]; omega), as ++ [b], by rw [List.length_append, hl]; rfl, ?_, fun c hc => ?_, hD, Ex.mut (ex.trans e4) hD, by rw [upd_same, List.map_append]; rfl, fun k c hk => ?_⟩
  · exact List.nodup_append.mpr ⟨nd, List.nodup_cons.mpr ⟨List.not_mem_nil, List.nodup_nil⟩, fun x hx y hy z => nb (by rw [List.mem_singleton.mp hy] at z; rw [← z]; exact hx)⟩
  · rcases List.mem_append.mp hc with z | z
    · obtain ⟨q1, q2, q3⟩ := h1 c z
      refine ⟨q1, q2, ?_⟩
      rw [upd_ne q2]
      intro y
      cases q : H' c with
      | none => exact q3 q
      | some u => rw [e4 c u q] at y; cases y
    · rw [List.mem_singleton.mp z]
      refine ⟨fresh_back ex hb, nD, ?_⟩
      rw [upd_ne nD]
      exact hb4
  · rcases Nat.lt_or_ge k as.length with q | q
    · rw [List.getElem?_append_left q] at hk
      exact mono k c H' _ (h3 k c hk) fun o ho => keep c o (h1 c (List.mem_of_getElem? hk)).2.1 (e4 c o ho)
    · rw [List.getElem?_append_right q] at hk
      have lt := (List.getElem?_eq_some_iff.mp hk).1
      have ek : k = i := by
        have : k - as.length < 1 := lt
        omega
      subst ek
      rw [hl, Nat.sub_self] at hk
      cases hk
      exact mono k b H4 _ hP fun o ho => keep b o nD ho
theorem ow_start {Pr : Nat → Addr → Hp → Prop} {Dl : Addr} (h : H1 Dl = none) : Ow H1 Dl Pr 0 (upd H1 Dl (.lst [])) := ⟨[], rfl, List.nodup_nil, (fun _ h => absurd h List.not_mem_nil), h, Ex.new h, upd_same, fun _ _ h => by cases h⟩
/-- [.. new ones .. for k in range(n)] -/
theorem lc_newR {n : Nat} {tr : TA} {j : Nat} {vs : List Nat} (Pr : Nat → Addr → Hp → Prop) (mono : ∀ i b H H', Pr i b H → (∀ o, H b = some o → H' b = some o) → Pr i b H') (h : EvA tr σ H [.int (n : Int)]) (hn : n ≤ 40000) (hw : ∀ x, wipe ((wipe σ vs).set j (some x)) vs = wipe σ vs)
    (he : ∀ i H1, Ex H H1 → i < n → ∀ Q : VK, (∀ b H2, H1 b = none → H2 b ≠ none → Ex H1 H2 → Pr i b H2 → Q (.ref b) H2) → te ((wipe σ vs).set j (some (.int (i : Int)))) H1 Q)
    (Q : VK) (q : ∀ (p : Addr) (as : List Addr) (H2 : Hp), H p = none → Ex H H2 → H2 p = some (.lst (as.map V.ref)) → as.length = n → as.Nodup → (∀ b ∈ as, H b = none) → (∀ (k : Nat) (b : Addr), as[k]? = some b → Pr k b H2) → Q (.ref p) H2) :
    tLc (iRng1 tr) (gName j) tYes te vs σ H Q := h H (Ex.refl H) _ fun H1 e1 => ⟨(n : Int), rfl, by omega, by omega, fun Dl hD =>
  lc_range (lo := 0) (n := ((n : Int)).toNat) (Ow H1 Dl Pr) (ow_start hD) (fun i H' hi p => by
    have hi : i < n := by omega
    have e0 : (0 : Int) + (i : Int) = (i : Int) := Int.zero_add _
    have ex : Ex H1 H' := by obtain ⟨_, _, _, _, _, z, _⟩ := p; exact z
    refine ⟨hw _, ?_⟩
    rw [e0]
    show te ((wipe σ vs).set j (some (.int (i : Int)))) H' _
    exact ow_turn mono p (by omega) (he i H' (e1.trans ex) hi)) fun H' p => by
      obtain ⟨as, hl, nd, h1, _, ex, h2, h3⟩ := p
      exact q Dl as H' (fresh_back e1 hD) (e1.trans ex) h2 (by rw [hl]; omega) nd (fun b hb => fresh_back e1 (h1 b hb).1) h3⟩
/-- [.. new ones .. for x in a list that stands] -/
theorem lc_newL {xs : List V} {tl : TE} {j : Nat} {vs : List Nat} (Pr : Nat → Addr → Hp → Prop) (mono : ∀ i b H H', Pr i b H → (∀ o, H b = some o → H' b = some o) → Pr i b H') (h : Ev tl σ H (.ref a)) (hs : SqL K H a xs) (hn : xs.length ≤ 40000) (hw : ∀ x, wipe ((wipe σ vs).set j (some x)) vs = wipe σ vs)
    (he : ∀ (i : Nat) x H1, Ex H H1 → xs[i]? = some x → ∀ Q : VK, (∀ b H2, H1 b = none → H2 b ≠ none → Ex H1 H2 → Pr i b H2 → Q (.ref b) H2) → te ((wipe σ vs).set j (some x)) H1 Q)
    (Q : VK) (q : ∀ (p : Addr) (as : List Addr) (H2 : Hp), H p = none → Ex H H2 → H2 p = some (.lst (as.map V.ref)) → as.length = xs.length → as.Nodup → (∀ b ∈ as, H b = none) → (∀ (k : Nat) (b : Addr), as[k]? = some b → Pr k b H2) → Q (.ref p) H2) :
    tLc (iList K tl) (gName j) tYes te vs σ H Q := h H (Ex.refl H) _ fun H1 e1 => ⟨a, rfl, ⟨xs, ex_l e1 hs⟩, fun Dl hD =>
  lc_list (xs := xs) (Ow H1 Dl Pr) (ow_start hD) (fun i H' _ p => by obtain ⟨_, _, _, _, _, z, _⟩ := p; exact ex_l (e1.trans z) hs) (fun i x H' hx p => by
    have lt := (List.getElem?_eq_some_iff.mp hx).1
    have ex : Ex H1 H' := by obtain ⟨_, _, _, _, _, z, _⟩ := p; exact z
    refine ⟨hw _, ?_⟩
    show te ((wipe σ vs).set j (some x)) H' _
    exact ow_turn mono p (by omega) (he i x H' (e1.trans ex) hx)) fun H' p => by
      obtain ⟨as, hl, nd, h1, _, ex, h2, h3⟩ := p
      exact q Dl as H' (fresh_back e1 hD) (e1.trans ex) h2 hl nd (fun b hb => fresh_back e1 (h1 b hb).1) h3⟩
theorem cut_nat (xs : List V) (lo n : Nat) : cutV xs (some (lo : Int)) (some ((lo + n : Nat) : Int)) = (xs.drop lo).take n := by
  unfold cutV
  rw [HT.sIx_nat, HT.sIx_nat]
  rcases Nat.lt_or_ge lo xs.length with q | q
  · rw [Nat.min_eq_left (Nat.le_of_lt q)]
    rcases Nat.lt_or_ge (lo + n) xs.length with z | z
    · rw [Nat.min_eq_left (Nat.le_of_lt z)]
      congr 1
      omega
    · rw [Nat.min_eq_right z, List.take_of_length_le (by rw [List.length_drop]; omega), List.take_of_length_le (by rw [List.length_drop]; omega)]
  · rw [Nat.min_eq_right q, List.drop_eq_nil_of_le (Nat.le_refl _), List.drop_eq_nil_of_le q, List.take_nil, List.take_nil]
def sp_f_rows_of (K : PySem.W.Frag) : Sp := fun vs H Q _ => ∃ (a : Addr) (ns : List Int) (n : Nat), vs = [.ref a, .int ((n : Nat) : Int)] ∧ SqL K H a (ns.map V.int) ∧ n ≤ 16 ∧
  ∀ (p : Addr) (as : List Addr) (H' : Hp), H p = none → Ex H H' → H' p = some (.lst (as.map V.ref)) → as.length = n → (∀ (k : Nat) (b : Addr), as[k]? = some b → H' b = some (.lst (((ns.drop (10 * k)).take 10).map V.int))) → Q (.ref p) H'
theorem len_f_rows_of : ∀ vs H Q E, sp_f_rows_of K vs H Q E → vs.length = 2 := fun vs H Q E ⟨_, _, _, e, _⟩ => by rw [e]; rfl
abbrev s_f_rows_of : Stmt := top 28
theorem sc_f_rows_of : FnScope ["numbers", "many", "k"] ["numbers", "many"] (defScope s_f_rows_of) := ⟨rfl, rfl, rfl, by decide +kernel, rfl, by decide +kernel, by decide +kernel⟩
theorem ok_f_rows_of {f : Addr} {fd : FuncData} (F : Fun K "rows_of" "rows_of" s_f_rows_of f fd) (hm : mg "rows_of" = some (.ref f)) (T : Txt K mg CS CC CX) : Cal P w K mg base 1 "rows_of" (sp_f_rows_of K) := by
  have b : Binds K fd ["numbers", "many"] [] := F.binds (ps := ["numbers", "many"]) fun _ _ _ _ _ _ us hl => match us, hl with | [_, _], _ => rfl
  refine cal_of hm F b sc_f_rows_of len_f_rows_of (fun cdv A outer s H vs Q E hr h => ?_)
  obtain ⟨a, ns, n, rfl, hS, hn, q⟩ := h
  refine ⟨_, (pss_one (ps_ret (pe_lc (own := [("k", 2)]) (g := gName 2) (te := (tSl (rSlL K) (tVar 0) (tPart (tOp (rI CMul fun i j => .int (i * j)) (tC (.int ((10 : Nat) : Int))) (tVar 2))) (tPart (tOp (rI0 fun i j => .int (i + j)) (tOp (rI CMul fun i j => .int (i * j)) (tC (.int ((10 : Nat) : Int))) (tVar 2)) (tC (.int ((10 : Nat) : Int))))))) rfl sc_f_rows_of.nd (pi_range1 (by rfl) T.b_range (pa_cons (pv 1) pa_nil)) (blkOk_by (own := [("k", 2)]) (N := ["numbers", "many", "k"]) (sc := defScope s_f_rows_of) (by decide +kernel)) (fun _ _ _ _ _ => pg_name (i := 2) sc_f_rows_of.nd rfl (Or.inl rfl)) (fun _ _ _ _ _ => pts_nil) (fun _ _ _ _ _ => (pe_slice sl_list (pv 0) (po_some (pe_op op_mul (pe_k T.k_NUMBERS (by rfl)) (pv 2))) (po_some (pe_op op_add (pe_op op_mul (pe_k T.k_NUMBERS (by rfl)) (pv 2)) (pe_k T.k_NUMBERS (by rfl))))))))), ?_⟩
  try dsimp only [cxOf, Cx.nox, Cx.wish]
  refine lc_newR (n := n) (fun k b H' => H' b = some (.lst (((ns.drop (10 * k)).take 10).map V.int))) (fun i b H H' h k => k _ h) (ea_one (ev_var rfl)) (by omega) (fun _ => rfl) (fun i H1 e1 hi Q2 q2 => ?_) _ fun p as H2 hp e2 h2 hl _ _ h3 => q p as H2 hp e2 h2 hl h3
  have mulB : ∀ i : Nat, i < 16 → CMul ((10 : Nat) : Int) (i : Int) := fun i hi => .inl ⟨by decide, by decide⟩
  have em : Ev (tOp (rI CMul fun i j => .int (i * j)) (tC (.int ((10 : Nat) : Int))) (tVar 2)) ((wipe (start ["numbers", "many", "k"] [.ref a, .int (n : Int)]) [2]).set 2 (some (.int (i : Int)))) H1 (.int ((10 * i : Nat) : Int)) := ev_is (ev_op ev_c (ev_var rfl) (rv_I (mulB i (by omega)))) rfl
  refine el_is (el_sl (ev_var rfl) (eo_some em) (eo_some (ev_op em ev_c rv_addn)) (ex_l e1 hS)) (cut_nat _ _ _) H1 (Ex.refl H1) _ fun b H2 hb e2 h2 => ?_
  refine q2 b H2 hb (by rw [h2]; exact fun z => by cases z) e2 ?_
  rw [h2, List.map_take, List.map_drop]
/-! ### the crossings are made -/
def sp_X_init (CS CC CX : Addr) : Sp := fun vs H Q _ => ∃ p, vs = [.ref p] ∧ ObjAt CX H p [] ∧ ∀ bl H', H bl = none → ObjAt CX H' p (bF bl) → H' bl = some (.lst [.non, .non]) → Fr (· = p) H H' → Q .non H'
theorem len_X_init : ∀ vs H Q E, sp_X_init CS CC CX vs H Q E → vs.length = 1 := fun vs H Q E ⟨_, e, _⟩ => by rw [e]; rfl
abbrev s_X_init : Stmt := inClass (top 29) 0
theorem sc_X_init : FnScope ["self"] ["self"] (defScope s_X_init) := ⟨rfl, rfl, rfl, by decide +kernel, rfl, by decide +kernel, by decide +kernel⟩
theorem ok_X_init {f : Addr} {fd : FuncData} (F : Fun K "__init__" "Crossings.__init__" s_X_init f fd) (hk : Mk K CX f) (hm : mg "Crossings" = some (.ref CX)) (T : Txt K mg CS CC CX) : Mak P w K mg base 1 "Crossings" CX (sp_X_init CS CC CX) := by
  have b : Binds K fd ["self"] [] := F.binds (ps := ["self"]) fun _ _ _ _ _ _ us hl => match us, hl with | [_], _ => rfl
  refine mak_of hk hm F b sc_X_init len_X_init (fun cdv A outer s H vs Q E hr h => ?_)
  obtain ⟨p, rfl, hp, q⟩ := h
  refine ⟨_, (pss_one (ps_fld (pv 0) (pe_lst (pa_cons pe_non (pa_cons pe_non pa_nil))) rfl)), ?_⟩
  try dsimp only [cxOf, Cx.nox, Cx.wish]
  refine s_fldNew (xs := [.non, .non]) (el_lst (ea_cons ev_c (ea_one ev_c)) (by show 2 ≤ 100000; decide)) (fun _ => ev_var rfl) fun l H1 hl e1 h1 => ?_
  obtain ⟨dx, hd⟩ := hp.mono e1
  refine ⟨CX, dx, _, hd, T.cX, T.nX_both, (by decide), ?_⟩
  refine q l _ hl ⟨dx, upd_same⟩ ?_ ((Fr.of e1).trans (Fr.upd rfl))
  rw [upd_ne (ne_of h1 hd (by intro z; cases z))]
  exact h1
/-! ### begin -/
/-- what the three methods of the crossings hand back: a new list -/
def spX (CS CC CX : Addr) (n : Nat) (pr : Bth → List V → Hp → Bth → List Int → Prop) : Sp := fun vs H Q _ => ∃ p bl o b xs b' out, vs = .ref p :: xs ∧ xs.length = n ∧ BAt CS CC CX H p bl o b ∧ pr b xs H b' out ∧
  ∀ o' H' r, BAt CS CC CX H' p bl o' b' → BTr p bl o H o' H' → H r = none → H' r = some (.lst (out.map V.int)) → Q (.ref r) H'
theorem len_spX {n : Nat} {pr : Bth → List V → Hp → Bth → List Int → Prop} : ∀ vs H Q E, spX CS CC CX n pr vs H Q E → vs.length = n + 1 := fun vs H Q E ⟨_, _, _, _, _, _, _, e, hn, _⟩ => by rw [e, List.length_cons, hn]
def prBegin (K : PySem.W.Frag) (b : Bth) (xs : List V) (H : Hp) (b' : Bth) (out : List Int) : Prop := ∃ (e n : Int) (la : Addr) (l : List Int), xs = [.int e, .int n, .ref la] ∧ (e = 0 ∨ e = 1) ∧ SqL K H la (l.map V.int) ∧ ((1 ≤ n ∧ n ≤ 16) → (l.length : Int) = 10 * n) ∧ b' = (beginM b e n l).1 ∧ out = (beginM b e n l).2
def prStep (b : Bth) (xs : List V) (_ : Hp) (b' : Bth) (out : List Int) : Prop := ∃ (e cars people first : Int), xs = [.int e, .int cars, .int people, .int first] ∧ (e = 0 ∨ e = 1) ∧ 0 ≤ cars ∧ 0 ≤ people ∧ b' = (stepM b e cars people first).1 ∧ out = (stepM b e cars people first).2
def prCalls (b : Bth) (xs : List V) (_ : Hp) (b' : Bth) (out : List Int) : Prop := ∃ (e : Int), xs = [.int e] ∧ (e = 0 ∨ e = 1) ∧ b' = b ∧ out = callsM b e
abbrev sp_X_begin (CS CC CX : Addr) (K : PySem.W.Frag) : Sp := spX CS CC CX 3 (prBegin K)
abbrev sp_X_step (CS CC CX : Addr) : Sp := spX CS CC CX 4 prStep
abbrev sp_X_remembered (CS CC CX : Addr) : Sp := spX CS CC CX 1 prCalls
theorem len_X_begin : ∀ vs H Q E, sp_X_begin CS CC CX K vs H Q E → vs.length = 4 := len_spX
theorem len_X_step : ∀ vs H Q E, sp_X_step CS CC CX vs H Q E → vs.length = 5 := len_spX
theorem len_X_remembered : ∀ vs H Q E, sp_X_remembered CS CC CX vs H Q E → vs.length = 2 := len_spX
theorem ev_x_both (T : Txt K mg CS CC CX) (hB : BAt CS CC CX H p bl o b) (h : Ev ta σ H (.ref p)) : Ev (tFld K ta "both") σ H (.ref bl) := ev_fld h hB.obj T.cX T.nX_both rfl
theorem both_at (o : Option Ad × Option Ad) (he : e = 0 ∨ e = 1) : atI [vO o.1, vO o.2] e = some (vO (pk o e)) := by
  rcases he with rfl | rfl <;> rfl
theorem ev_x_at (T : Txt K mg CS CC CX) (hB : BAt CS CC CX H p bl o b) (he : e = 0 ∨ e = 1) (h : Ev ta σ H (.ref p)) (hi : Ev ti σ H (.int e)) : Ev (tOp (rIxL K) (tFld K ta "both") ti) σ H (vO (pk o e)) :=
  ev_op (ev_x_both T hB h) hi (rv_ixL (sq_of hB.lst) (both_at o he))
theorem x_one (out : List Int) (hB : BAt CS CC CX H p bl o b) {xs : List V} (h : EvL te σ H xs) (hx : xs = out.map V.int) {Q : VK} (q : ∀ o' H' r, BAt CS CC CX H' p bl o' b → BTr p bl o H o' H' → H r = none → H' r = some (.lst (out.map V.int)) → Q (.ref r) H') (hD : D.rt = Q) : tRet te D σ H :=
  s_retL h fun r H1 hr e1 h1 => by
    rw [hD]
    exact q o H1 r (hB.mono e1) (BTr.of e1) hr (by rw [h1, hx])
theorem row_vals {l : List Int} {c : Sa38.Stream} (h : Sa38.streamOf l = some c) : l.map V.int = cRow c := by
  unfold Sa38.streamOf at h
  split at h
  · split at h
    · rename_i q
      cases h
      simp only [Bool.and_eq_true, within_iff, decide_eq_true_eq] at q
      obtain ⟨h1, h2, h3, h4, h5, h6, h7, h8, h9, h10, h11⟩ := q
      unfold cRow
      simp only [List.map_cons, List.map_nil]
      congr 1
      · exact congrArg V.int (by omega)
      congr 1
      · exact congrArg V.int (by omega)
      congr 1
      · exact congrArg V.int (by omega)
      congr 1
      · exact congrArg V.int (by omega)
      congr 1
      · exact congrArg V.int (by omega)
      congr 1
      · exact congrArg V.int (by omega)
      congr 1
      · exact congrArg V.int (by omega)
      congr 1
      · exact congrArg V.int (by omega)
      congr 1
      · exact congrArg V.int (by omega)
      congr 1
      · exact congrArg V.int (by omega)
    · cases h
  · cases h
theorem mapM_all : ∀ (l : List (List Int)), (l.all fun r => (Sa38.streamOf r).isSome) = (l.mapM Sa38.streamOf).isSome
  | [] => rfl
  | r :: l => by
    rw [List.all_cons, List.mapM_cons, mapM_all l]
    cases Sa38.streamOf r with
    | none => rfl
    | some c =>
      cases l.mapM Sa38.streamOf <;> rfl
theorem mapM_at : ∀ {l : List (List Int)} {s : List Sa38.Stream}, l.mapM Sa38.streamOf = some s → ∀ (k : Nat) (c : Sa38.Stream), s[k]? = some c → ∃ r, l[k]? = some r ∧ Sa38.streamOf r = some c
  | [], s, h, k, c, hk => by
    cases h
    cases hk
  | r :: l, s, h, k, c, hk => by
    rw [List.mapM_cons] at h
    cases e1 : Sa38.streamOf r with
    | none => rw [e1] at h; cases h
    | some y =>
      rw [e1] at h
      cases e2 : l.mapM Sa38.streamOf with
      | none => rw [e2] at h; cases h
      | some t =>
        rw [e2] at h
        cases h
        cases k with
        | zero =>
          cases hk
          exact ⟨r, rfl, e1⟩
        | succ k => exact mapM_at e2 k c hk
theorem rowsM_at (l : List Int) {n k : Nat} (h : k < n) : (rowsM l n)[k]? = some ((l.drop (10 * k)).take 10) := by
  unfold rowsM
  rw [List.getElem?_map, List.getElem?_range h]
  rfl
theorem ex_made {H3 H4 : Hp} {x dx C : Addr} (hx : H3 x = none) (hdx : H3 dx = none) (fr : Fr (· = x) (upd (upd H3 dx (.own x)) x (.ins C dx [])) H4) : Ex H3 H4 := fun b o h => fr.keep b o (by rw [upd_ne (ne_of_none h hx), upd_ne (ne_of_none h hdx)]; exact h) (ne_of_none h hx)
abbrev s_X_begin : Stmt := inClass (top 29) 1
theorem sc_X_begin : FnScope ["self", "at", "many", "numbers", "rows", "row"] ["self", "at", "many", "numbers"] (defScope s_X_begin) := ⟨rfl, rfl, rfl, by decide +kernel, rfl, by decide +kernel, by decide +kernel⟩
theorem ok_X_begin {f : Addr} {fd : FuncData} (F : Fun K "begin" "Crossings.begin" s_X_begin f fd) (me : Meth K CX "begin" f) (T : Txt K mg CS CC CX) (g_f_rows_of : Cal P w K mg base 1 "rows_of" (sp_f_rows_of K)) (g_C_init : Mak P w K mg base 1 "Crossing" CC (sp_C_init CS CC)) (g_S_init : Mak P w K mg base 1 "Stream" CS (sp_S_init CS)) (g_f_are_good : Cal P w K mg base 1 "are_good" (sp_f_are_good K)) : Met P w K mg base 3 CX "begin" (sp_X_begin CS CC CX K) := by
  have b : Binds K fd ["self", "at", "many", "numbers"] [] := F.binds (ps := ["self", "at", "many", "numbers"]) fun _ _ _ _ _ _ us hl => match us, hl with | [_, _, _, _], _ => rfl
  refine met_of T.cX me F b sc_X_begin len_X_begin (fun cdv A outer s H vs Q E hr h => ?_)
  obtain ⟨p, bl, o, bb, xs, b', out, rfl, hxs, hB, ⟨e, n, la, l, rfl, he, hS, hlen, rfl, rfl⟩, q⟩ := h
  refine ⟨_, (pss_cons (ps_if (pt_not (pt_chain op_le op_le pe_int (pv 2) (pe_k T.k_MOST_STREAMS (by rfl)))) (pss_one (ps_ret (pe_lst (pa_cons (pe_k T.k_NO_STREAMS (by rfl)) pa_nil)))) pss_nil)
      (pss_cons (ps_set (i := 4) sc_X_begin.nd rfl (Or.inl rfl) (pe_f g_f_rows_of hr (by decide) (by rfl) (pa_cons (pv 3) (pa_cons (pv 2) pa_nil))))
      (pss_cons (ps_if (pt_not (pt_val (pe_callB (cr_all rfl) (by rfl) T.b_all (by decide +kernel) (pa_cons (pe_lc (own := [("row", 5)]) (g := gName 5) rfl sc_X_begin.nd (pi_list (pv 4)) (blkOk_by (own := [("row", 5)]) (N := ["self", "at", "many", "numbers", "rows", "row"]) (sc := defScope s_X_begin) (by decide +kernel)) (fun _ _ _ _ _ => pg_name (i := 5) sc_X_begin.nd rfl (Or.inl rfl)) (fun _ _ _ _ _ => pts_nil) (fun _ _ _ _ _ => (pe_f g_f_are_good hr (by decide) (by rfl) (pa_cons (pv 5) pa_nil)))) pa_nil)))) (pss_one (ps_ret (pe_lst (pa_cons (pe_k T.k_NO_STREAMS (by rfl)) pa_nil)))) pss_nil)
      (pss_cons (ps_asg (pe_mk g_C_init hr (by decide) (by rfl) (pa_cons (pe_lc (own := [("row", 5)]) (g := gName 5) rfl sc_X_begin.nd (pi_list (pv 4)) (blkOk_by (own := [("row", 5)]) (N := ["self", "at", "many", "numbers", "rows", "row"]) (sc := defScope s_X_begin) (by decide +kernel)) (fun _ _ _ _ _ => pg_name (i := 5) sc_X_begin.nd rfl (Or.inl rfl)) (fun _ _ _ _ _ => pts_nil) (fun _ _ _ _ _ => (pe_mk g_S_init hr (by decide) (by rfl) (pa_cons (pv 5) pa_nil)))) pa_nil)) (pg_sub (pe_fld (pv 0) rfl) (pv 1) set_list))
      (pss_one (ps_ret (pe_lst (pa_cons pe_int pa_nil)))))))), ?_⟩
  try dsimp only [cxOf, Cx.nox, Cx.wish]
  unfold beginM at q
  by_cases hn : 1 ≤ n ∧ n ≤ 16
  · rw [if_pos hn] at q
    have hlen := hlen hn
    obtain ⟨N, rfl⟩ : ∃ N : Nat, n = (N : Int) := ⟨n.toNat, by omega⟩
    rw [Int.toNat_natCast] at q
    have hN : 1 ≤ N ∧ N ≤ 16 := by omega
    refine q_when (b := false) (et_is (et_not (et_test (ev_chn ev_c (ev_var rfl) ev_c))) ?_) (fun hb => by cases hb) fun _ H1 e1 => ?_
    · unfold chn
      rw [decide_eq_true hn.1, decide_eq_true (show (N : Int) ≤ ((16 : Nat) : Int) from hn.2)]
      rfl
    have hB1 := hB.mono e1
    have hS1 := ex_l e1 hS
    have len10 : ∀ k, k < N → ((l.drop (10 * k)).take 10).length = 10 := fun k hk => by
      rw [List.length_take, List.length_drop]
      omega
    -- rows = rows_of(numbers, many)
    refine q_callS (ea_cons (ev_var rfl) (ea_one (ev_var rfl))) fun H1' e1' => ?_
    refine ⟨la, l, N, rfl, ex_l e1' hS1, by omega, fun pr as H2 hpr e2 h2 hl2 hr2 => ?_⟩
    have e12 : Ex H H2 := (e1.trans e1').trans e2
    have hB2 := hB.mono e12
    -- if not all([are_good(row) for row in rows])
    have el : as = (List.range N).map fun k => as.getD k 0 := by
      apply List.ext_getElem?
      intro i
      rw [List.getElem?_map]
      rcases Nat.lt_or_ge i N with z | z
      · rw [List.getElem?_range z, List.getElem?_eq_getElem (by omega)]
        show _ = some (as.getD i 0)
        rw [List.getD_eq_getElem?_getD, List.getElem?_eq_getElem (by omega)]
        rfl
      · rw [List.getElem?_eq_none_iff.mpr (by omega), List.getElem?_eq_none_iff.mpr (by rw [List.length_range]; exact z)]
        rfl
    have hs2 : H2 pr = some (.lst ((List.range N).map (V.ref ∘ fun k => as.getD k 0))) := by
      rw [h2]
      conv => lhs; rw [el]
      rw [List.map_map]
    have hra : ∀ k, k < N → H2 (as.getD k 0) = some (.lst (((l.drop (10 * k)).take 10).map V.int)) := fun k hk => hr2 k _ (by
      rw [List.getD_eq_getElem?_getD, List.getElem?_eq_getElem (by omega)]
      rfl)
    have eg : Ev (tCB (rAll K) (tCons (tLc (iList K (tVar 4)) (gName 5) tYes (tCall (sp_f_are_good K) [] E0 (tCons (tVar 5) tNil)) [5]) tNil)) [some (.ref p), some (.int e), some (.int (N : Int)), some (.ref la), some (.ref pr), none] H2 (.bl ((rowsM l N).all fun r => (Sa38.streamOf r).isSome)) := by
      refine ev_is (ev_all (bs := (List.range N).map fun k => (Sa38.streamOf ((l.drop (10 * k)).take 10)).isSome) (el_is (el_lcAt (l := List.range N) (enc := V.ref ∘ fun k => as.getD k 0) (fun _ => true) (fun k => .bl (Sa38.streamOf ((l.drop (10 * k)).take 10)).isSome) (ev_var rfl) (sq_of hs2) (by rw [List.length_range]; omega) (fun _ => rfl) (fun _ _ => et_yes) (fun k hk _ => ?_)) ?_)) (congrArg V.bl ?_)
      · have hk := List.mem_range.mp hk
        exact ev_callV (ea_one (ev_var rfl)) fun H3 e3 => ⟨_, _, rfl, sq_of (e3 _ _ (hra k hk)), len10 k hk, rfl⟩
      · rw [filter_yes, List.map_map]
        rfl
      · unfold rowsM
        rw [all_map_id, List.all_map]
        rfl
    refine q_when (b := !((rowsM l N).all fun r => (Sa38.streamOf r).isSome)) (et_not (et_B eg)) (fun hb H3 e3 => ?_) (fun hb H3 e3 => ?_)
    · have em : (rowsM l N).mapM Sa38.streamOf = none := by
        have := mapM_all (rowsM l N)
        rw [show ((rowsM l N).all fun r => (Sa38.streamOf r).isSome) = false by simpa using hb] at this
        exact Option.isSome_eq_false_iff.mp this.symm |> Option.isNone_iff_eq_none.mp
      rw [em] at q
      exact s_retL (el_lst (ea_one ev_c) (by show 1 ≤ 100000; decide)) fun r H4 hr4 e4 h4 => q o H4 r (hB2.mono (e3.trans e4)) (BTr.of ((e12.trans e3).trans e4)) (fresh_back (e12.trans e3) hr4) h4
    · obtain ⟨cs, hcs⟩ : ∃ cs, (rowsM l N).mapM Sa38.streamOf = some cs := by
        have := mapM_all (rowsM l N)
        rw [show ((rowsM l N).all fun r => (Sa38.streamOf r).isSome) = true by simpa using hb] at this
        exact Option.isSome_iff_exists.mp this.symm
      rw [hcs] at q
      have snd := sound_of hN.1 hN.2 hcs
      have hcl : cs.length = N := by
        rw [(mapM_mem hcs).1]
        unfold rowsM
        rw [List.length_map, List.length_range]
      have hB3 := hB2.mono e3
      have h3 := e3 _ _ h2
      -- Crossing([Stream(row) for row in rows])
      refine q_make1 ?_
      refine lc_newL (xs := as.map V.ref) (te := tMake CS (sp_S_init CS) [] E0 (tCons (tVar 5) tNil)) (fun k b H' => ∀ c, cs[k]? = some c → StAt CS H' b (SM.fresh c)) (fun i b H H' h k c hc => by obtain ⟨d, hd⟩ := h c hc; exact ⟨d, k _ hd⟩) (ev_var rfl) (sq_of h3) (by rw [List.length_map]; omega) (fun _ => rfl) (fun i x H4 e4 hx Q2 q2 => ?_) _ fun ps bs H4 hps e4 h4 hl4 nd4 fr4 hst4 => ?_
      · have hx' : ∃ b, as[i]? = some b ∧ x = .ref b := by
          rw [List.getElem?_map] at hx
          cases z : as[i]? with
          | none => rw [z] at hx; cases hx
          | some b => rw [z] at hx; exact ⟨b, rfl, (Option.some.inj hx).symm⟩
        obtain ⟨rb, hrb, rfl⟩ := hx'
        have hi : i < N := by
          have := (List.getElem?_eq_some_iff.mp hrb).1
          omega
        obtain ⟨c, hc⟩ : ∃ c, cs[i]? = some c := ⟨_, List.getElem?_eq_getElem (by omega)⟩
        obtain ⟨r, hr1, hr3⟩ := mapM_at hcs i c hc
        rw [rowsM_at l hi] at hr1
        cases hr1
        refine ea_one (ev_var rfl) H4 (Ex.refl H4) _ fun H5 e5 => ?_
        intro y dy ny ndy ney
        have hrow : H5 rb = some (.lst (cRow c)) := by
          rw [← row_vals hr3]
          exact e5 _ _ (e4 _ _ (e3 _ _ (hr2 i rb hrb)))
        refine ⟨y, rb, c, rfl, ⟨dy, upd_same⟩, ?_, fun H6 h6 f6 => ⟨rfl, ?_⟩⟩
        · rw [upd_ne (ne_of_none hrow ny), upd_ne (ne_of_none hrow ndy)]
          exact hrow
        · refine q2 y H6 (fresh_back e5 ny) ?_ (e5.trans (ex_made ny ndy f6)) fun c' hc' => ?_
          · obtain ⟨d, hd⟩ := h6
            rw [hd]
            exact fun z => by cases z
          · rw [hc] at hc'
            cases hc'
            exact h6
      · rw [List.length_map, hl2] at hl4
        intro y dy ny ndy ney
        have hps5 : (upd (upd H4 dy (.own y)) y (.ins CC dy [])) ps = some (.lst (bs.map V.ref)) := by
          rw [upd_ne (ne_of_none h4 ny), upd_ne (ne_of_none h4 ndy)]
          exact h4
        refine ⟨y, ps, bs, cs, rfl, ⟨dy, upd_same⟩, hps5, nd4, by omega, fun k b c hb' hc' => ?_, snd, fun ls H6 hC6 hls f6 => ⟨rfl, ?_⟩⟩
        · obtain ⟨d, hd⟩ := hst4 k b hb' c hc'
          exact ⟨d, by rw [upd_ne (ne_of_none hd ny), upd_ne (ne_of_none hd ndy)]; exact hd⟩
        · -- self.both[at] = ..
          have e46 : Ex H4 H6 := ex_made ny ndy f6
          have e06 : Ex H H6 := ((e12.trans e3).trans e4).trans e46
          have hB6 := hB.mono e06
          have e36 : Ex H H3 := e12.trans e3
          have frs : ∀ x, part ⟨y, ps, ls, bs⟩ x → H x = none := fun x hx => by
            have z : H4 ls = none := by
              by_cases q1 : ls = y
              · rw [q1]; exact ny
              · by_cases q2 : ls = dy
                · rw [q2]; exact ndy
                · rw [upd_ne q1, upd_ne q2] at hls
                  exact hls
            have e34 : Ex H H4 := e36.trans e4
            rcases hx with (hx | hx | hx) | hx
            · rw [show x = y from hx]
              exact fresh_back e34 ny
            · rw [show x = ls from hx]
              exact fresh_back e34 z
            · exact fresh_back e36 (fr4 x hx)
            · rw [show x = ps from hx]
              exact fresh_back e36 hps
          have hbl6 := hB6.lst
          refine (ev_x_both (σ := [some (.ref p), some (.int e), some (.int (N : Int)), some (.ref la), some (.ref pr), none]) T hB6 (ev_var rfl)) H6 (Ex.refl H6) _ fun H7 e7 => ?_
          refine ev_var (v := .int e) rfl H7 (Ex.refl H7) _ fun H8 e8 => ?_
          have e68 : Ex H6 H8 := e7.trans e8
          have ix : ixN [vO o.1, vO o.2].length e = some e.toNat := by rcases he with rfl | rfl <;> rfl
          refine ⟨bl, _, e, e.toNat, rfl, rfl, e68 _ _ hbl6, ix, ?_⟩
          have hC8 := hC6.mono e68
          have hB8 := hB6.mono e68
          have e08 : Ex H H8 := e06.trans e68
          have nbl : ∀ x, part ⟨y, ps, ls, bs⟩ x → x ≠ bl := fun x hx z => by
            have h1 := frs x hx
            have h2 := hB.lst
            rw [← z, h1] at h2
            cases h2
          have fu : Fr (· = bl) H8 (upd H8 bl (.lst ([vO o.1, vO o.2].set e.toNat (.ref y)))) := Fr.upd rfl
          have hC9 : CrAt CS CC (upd H8 bl (.lst ([vO o.1, vO o.2].set e.toNat (.ref y)))) ⟨y, ps, ls, bs⟩ (CM.fresh cs) := CrAt.frame hC8 fu fun x hx z => nbl x hx z
          have hpp : ∀ x, part ⟨y, ps, ls, bs⟩ x → (∃ A0, pk o e = some A0 ∧ part A0 x) ∨ H8 x = none ∨ H x = none := fun x hx => .inr (.inr (frs x hx))
          have hB9 : BAt CS CC CX (upd H8 bl (.lst ([vO o.1, vO o.2].set e.toNat (.ref y)))) p bl (pt o e (some ⟨y, ps, ls, bs⟩)) (putB bb e (some (CM.fresh cs))) := by
            refine hB.change (l' := []) he ?_ ?_ hC9 (fun e' he' ne => ?_) fun x hx => .inr (frs x hx)
            · obtain ⟨d, hd⟩ := hB8.obj
              exact ⟨d, fu.keep _ _ hd (ne_of hd hB8.lst (by intro z; cases z))⟩
            · rw [upd_same]
              rcases he with rfl | rfl <;> rfl
            · have hc := hB8.cr e'
              cases z : pk o e' with
              | none =>
                rw [z] at hc
                cases z2 : pickB bb e' with
                | none => trivial
                | some m2 => rw [z2] at hc; exact hc.elim
              | some A2 =>
                rw [z] at hc
                cases z2 : pickB bb e' with
                | none => rw [z2] at hc; exact hc.elim
                | some m2 =>
                  rw [z2] at hc
                  exact CrAt.frame hc fu fun x hx z3 => (hB8.nin e' A2 x z hx).2 z3
          have tr9 : BTr p bl o H (pt o e (some ⟨y, ps, ls, bs⟩)) (upd H8 bl (.lst ([vO o.1, vO o.2].set e.toNat (.ref y)))) := BTr.change he (fun x hx => .inr (frs x hx)) ((Fr.of e08).trans (fu.mono fun x z => .inr (.inl z)))
          exact s_retL (el_lst (ea_one ev_c) (by show 1 ≤ 100000; decide)) fun r H10 hr10 e10 h10 => q _ H10 r (hB9.mono e10) (tr9.ex e10) (tr9.fr.dom _ hr10) h10
  · rw [if_neg hn] at q
    refine q_when (b := true) (et_is (et_not (et_test (ev_chn ev_c (ev_var rfl) ev_c))) ?_) (fun _ H1 e1 => ?_) fun hb => by cases hb
    · unfold chn
      by_cases h1 : 1 ≤ n
      · rw [decide_eq_true h1, decide_eq_false (show ¬ n ≤ ((16 : Nat) : Int) from fun z => hn ⟨h1, z⟩)]
        rfl
      · rw [decide_eq_false h1]
        rfl
    · exact s_retL (el_lst (ea_one ev_c) (by show 1 ≤ 100000; decide)) fun r H2 hr2 e2 h2 => q o H2 r (hB.mono (e1.trans e2)) (BTr.of (e1.trans e2)) (fresh_back e1 hr2) h2
end
end Cg

/-! Two crossings: step, calls; all calls. -/
namespace Cg
open PySem PySem.Spec PyProof.Rows L2 Evl
local macro_rules | `(tactic| walk_at "rv") => `(tactic| first
  | with_reducible exact rv_eqn | with_reducible exact rv_nen | with_reducible exact rv_ltn | with_reducible exact rv_len | with_reducible exact rv_gtn | with_reducible exact rv_gen | with_reducible exact rv_addn
  | with_reducible exact rv_eq0 | with_reducible exact rv_eq1 | with_reducible exact rv_gt0 | with_reducible exact rv_noneEq | with_reducible exact rv_noneNe | with_reducible exact rv_firstEq | with_reducible exact rv_firstNe | exact rv_I0)
local macro_rules | `(tactic| walk_at "fld") => `(tactic| first
  | with_reducible apply ev_s_colour (by assumption) | with_reducible apply ev_s_time (by assumption) | with_reducible apply ev_s_let_go (by assumption) | with_reducible apply ev_s_mode (by assumption) | with_reducible apply ev_s_ring (by assumption) | with_reducible apply ev_s_group (by assumption)
  | with_reducible apply ev_s_walk_time (by assumption) | with_reducible apply ev_s_clear_time (by assumption) | with_reducible apply ev_s_rest (by assumption) | with_reducible apply ev_s_waited (by assumption) | with_reducible apply ev_s_car (by assumption) | with_reducible apply ev_s_button (by assumption)
  | with_reducible apply ev_s_least (by assumption) | with_reducible apply ev_s_gap (by assumption) | with_reducible apply ev_s_most (by assumption) | with_reducible apply ev_s_yellow_time (by assumption) | with_reducible apply ev_s_red_time (by assumption))
local macro_rules | `(tactic| walk_at "ev") => `(tactic| first
  | with_reducible exact ev_c
  | ((with_reducible apply ev_ceq); exact rfl)
  | ((with_reducible apply ev_var); exact rfl)
  | ((with_reducible apply ev_andV); walk_at "ev"; (intro _; walk_at "ev"))
  | ((with_reducible apply ev_orV); walk_at "ev"; (intro _; walk_at "ev"))
  | ((with_reducible apply ev_notV); walk_at "ev")
  | walk_at "evm"
  | ((with_reducible apply ev_op); walk_at "ev"; walk_at "ev"; walk_at "rv")
  | ((with_reducible apply ev_chain); walk_at "ev"; walk_at "ev"; walk_at "rv"; (intro _; walk_at "ev"); (intro _; walk_at "rv"))
  | (walk_at "fld"; walk_at "ev"; assumption))
local macro_rules | `(tactic| walk_at "et") => `(tactic| first
  | with_reducible exact et_yes
  | ((with_reducible apply et_and); walk_at "et"; (intro _; walk_at "et"))
  | ((with_reducible apply et_or); walk_at "et"; (intro _; walk_at "et"))
  | ((with_reducible apply et_not); walk_at "et")
  | ((with_reducible apply et_test); walk_at "ev")
  | ((with_reducible apply et_B); walk_at "ev"))
local macro_rules | `(tactic| walk_at "evm") => `(tactic| first
  | ((with_reducible apply fv_c_stream); assumption; assumption; walk_at "ev"; walk_at "ev"; assumption)
  | ((with_reducible apply fv_c_last); assumption; assumption; walk_at "ev"; walk_at "ev"; assumption)
  | ((with_reducible apply fv_c_first); assumption; assumption; walk_at "ev")
  | ((with_reducible apply fv_c_cars); assumption; assumption; walk_at "ev")
  | ((with_reducible apply fv_c_streams); assumption; assumption; walk_at "ev")
  | ((with_reducible apply fv_c_lasts); assumption; assumption; walk_at "ev")
  | ((with_reducible apply fv_c_group); assumption; assumption; walk_at "ev")
  | ((with_reducible apply em_f_has_bit); walk_at "ev"; walk_at "ev")
  | ((with_reducible apply em_is_always_called); walk_at "ev"; assumption)
  | ((with_reducible apply em_are_people_over); walk_at "ev"; assumption)
  | ((with_reducible apply em_is_due); walk_at "ev"; assumption)
  | ((with_reducible apply em_has_walkers); walk_at "ev"; assumption)
  | ((with_reducible apply em_has_clearers); walk_at "ev"; assumption)
  | ((with_reducible apply fm_C_is_called); assumption; walk_at "ev"; walk_at "ev"; assumption)
  | ((with_reducible apply fm_C_is_barred); assumption; walk_at "ev"; walk_at "ev"; assumption)
  | ((with_reducible apply fm_C_is_stuck); assumption; walk_at "ev"; walk_at "ev"; assumption)
  | ((with_reducible apply fm_C_is_ready); assumption; walk_at "ev"; walk_at "ev"; assumption)
  | ((with_reducible apply fm_C_is_over); assumption; walk_at "ev"; walk_at "ev"; assumption)
  | ((with_reducible apply fm_C_heir); assumption; walk_at "ev"; walk_at "ev"; assumption)
  | ((with_reducible apply fm_C_in_colour); assumption; walk_at "ev"; walk_at "ev"; assumption)
  | ((with_reducible apply fm_C_are_crossing); assumption; walk_at "ev"; walk_at "ev"; walk_at "ev"; assumption; assumption)
  | ((with_reducible apply fm_C_is_beside); assumption; walk_at "ev"; walk_at "ev"; walk_at "ev"; assumption; assumption)
  | ((with_reducible apply fm_C_first_called); assumption; walk_at "ev"; walk_at "ev"; walk_at "ev")
  | ((with_reducible apply fm_C_is_all_red); assumption; walk_at "ev")
  | ((with_reducible apply fm_C_is_pressed); assumption; walk_at "ev")
  | ((with_reducible apply fm_C_next_group); assumption; walk_at "ev"))
section
variable {P : Program} {w : World} {K : PySem.W.Frag} {mg : Str → Option Value} {base : Heap} {CS CC CX a p bl : Addr} {A A1 A2 : Ad} {m m' : CM} {k j r : Nat} {σ : L2.St} {H H' H1 H2 : Hp} {ta tb te ti t1 t2 : TE} {tz : TS} {t : TT} {E : XK} {D : Ends} {o o' : Option Ad × Option Ad} {b b' : Bth} {e : Int}
theorem rv_isN {x : V} : RV (fun x y H Q => y = V.non ∧ Q (.bl (decide (x = .non))) H) x .non H (.bl (decide (x = .non))) := fun H1 _ _ q => ⟨rfl, q H1 (Ex.refl H1)⟩
theorem BAt.at_none (hB : BAt CS CC CX H p bl o b) (h : pickB b e = none) : pk o e = none := by
  have hc := hB.cr e
  rw [h] at hc
  cases q : pk o e with
  | none => rfl
  | some A => rw [q] at hc; exact hc.elim
theorem BAt.at_some (hB : BAt CS CC CX H p bl o b) (h : pickB b e = some m) : ∃ A, pk o e = some A ∧ CrAt CS CC H A m := by
  have hc := hB.cr e
  rw [h] at hc
  cases q : pk o e with
  | none => rw [q] at hc; exact hc.elim
  | some A => rw [q] at hc; exact ⟨A, rfl, hc⟩
theorem nV_first {f : Int} (h : -1 ≤ f) : nV (firstO f) = .int f := by
  unfold firstO
  by_cases q : f = -1
  · rw [if_pos q, q]
    rfl
  · rw [if_neg q]
    exact congrArg V.int (Int.toNat_of_nonneg (by omega))
theorem intV_map (l : List Nat) : intV l = (intsOf l).map V.int := by
  unfold intV intsOf
  rw [List.map_map]
  rfl
abbrev s_X_step : Stmt := inClass (top 29) 2
theorem sc_X_step : FnScope ["self", "at", "cars", "people", "first", "crossing"] ["self", "at", "cars", "people", "first"] (defScope s_X_step) := ⟨rfl, rfl, rfl, by decide +kernel, rfl, by decide +kernel, by decide +kernel⟩
theorem ok_X_step {f : Addr} {fd : FuncData} (F : Fun K "step" "Crossings.step" s_X_step f fd) (me : Meth K CX "step" f) (T : Txt K mg CS CC CX) (g_C_step : Met P w K mg base 6 CC "step" (sp_C_step CS CC)) (g_C_lights : Met P w K mg base 2 CC "lights" (sp_C_lights CS CC)) : Met P w K mg base 7 CX "step" (sp_X_step CS CC CX) := by
  have b : Binds K fd ["self", "at", "cars", "people", "first"] [] := F.binds (ps := ["self", "at", "cars", "people", "first"]) fun _ _ _ _ _ _ us hl => match us, hl with | [_, _, _, _, _], _ => rfl
  refine met_of T.cX me F b sc_X_step len_X_step (fun cdv A outer s H vs Q E hr h => ?_)
  obtain ⟨p, bl, o, bb, xs, b', out, rfl, hxs, hB, ⟨e, cars, people, first, rfl, he, hc0, hp0, hb', hout⟩, q⟩ := h
  refine ⟨_, (pss_cons (ps_set (i := 5) sc_X_step.nd rfl (Or.inl rfl) (pe_ix ix_list (pe_fld (pv 0) rfl) (pv 1) (fun _ _ => rfl)))
      (pss_cons (ps_if (pt_cmpR op_isN (pv 5) pe_non (nomark _)) (pss_one (ps_ret (pe_lst (pa_cons (pe_k T.k_NOT_BEGUN (by rfl)) pa_nil)))) pss_nil)
      (pss_cons (ps_if (pt_not (pt_chain op_le op_lt (pe_un un_neg pe_int) (pv 4) (pe_callB call_len_seq (by rfl) T.b_len PySem.boot_len (pa_cons (pe_fld (pv 5) rfl) pa_nil)))) (pss_one (ps_ret (pe_lst (pa_cons (pe_k T.k_NO_STREAMS (by rfl)) pa_nil)))) pss_nil)
      (pss_cons (ps_expr (pe_m g_C_step hr (by decide) (pv 5) (pa_cons (pv 2) (pa_cons (pv 3) (pa_cons (pv 4) pa_nil)))))
      (pss_one (ps_ret (pe_op op_cat (pe_lst (pa_cons pe_int pa_nil)) (pe_m0 g_C_lights hr (by decide) (pv 5))))))))), ?_⟩
  try dsimp only [cxOf, Cx.nox, Cx.wish]
  unfold stepM at hb' hout
  refine q_asg (ev_x_at T hB he (ev_var rfl) (ev_var rfl)) fun H1 e1 => ?_
  have hB1 := hB.mono e1
  cases hm : pickB bb e with
  | none =>
    rw [hm] at hb' hout
    have ho := hB.at_none hm
    subst hb'
    subst hout
    refine q_when (b := true) (et_test (ev_op (ev_is (ev_var rfl) (congrArg vO ho)) ev_c (rv_isN (x := V.non)))) (fun _ H2 e2 => ?_) fun hb => by cases hb
    exact s_retL (el_lst (ea_one ev_c) (by show 1 ≤ 100000; decide)) fun r H3 hr e3 h3 => q o H3 r (hB.mono ((e1.trans e2).trans e3)) (BTr.of ((e1.trans e2).trans e3)) (fresh_back (e1.trans e2) hr) h3
  | some m =>
    rw [hm] at hb' hout
    obtain ⟨A, ho, hC⟩ := hB.at_some hm
    have evc : ∀ H', Ev (tVar 5) (List.set (start ["self", "at", "cars", "people", "first", "crossing"] [.ref p, .int e, .int cars, .int people, .int first]) 5 (some (vO (pk o e)))) H' (.ref A.p) := fun H' => ev_is (ev_var rfl) (congrArg vO ho)
    refine q_when (b := false) (et_test (ev_op (evc H1) ev_c (rv_isN (x := V.ref A.p)))) (fun hb => by cases hb) fun _ H2 e2 => ?_
    have hC2 := hC.mono (e1.trans e2)
    have en : Ev (tCB (fun xs H Q => ∃ p ys, xs = [V.ref p] ∧ (SqL K H p ys ∨ SqT K H p ys) ∧ Q (.int (ys.length : Int)) H) (tCons (tFld K (tVar 5) "streams") tNil)) (List.set (start ["self", "at", "cars", "people", "first", "crossing"] [.ref p, .int e, .int cars, .int people, .int first]) 5 (some (vO (pk o e)))) H2 (.int (m.ss.length : Int)) :=
      ev_is (ev_lenS (fv_c_streams hC2 T (evc H2)) (sq_of hC2.lst)) (by rw [List.length_map, hC2.len])
    refine q_when (b := !(decide (-1 ≤ first) && decide (first < (m.ss.length : Int)))) (et_not (et_test (ev_chain (ev_un ev_c ru_neg) (ev_var rfl) rv_I0 (fun _ => en) fun _ => rv_I0))) (fun hb H3 e3 => ?_) (fun hb H3 e3 => ?_)
    · have hn : ¬ (-1 ≤ first ∧ first < (m.ss.length : Int)) := fun z => by
        rw [decide_eq_true z.1, decide_eq_true z.2] at hb
        cases hb
      simp only [] at hb' hout
      rw [if_neg hn] at hb' hout
      subst hb'
      subst hout
      exact s_retL (el_lst (ea_one ev_c) (by show 1 ≤ 100000; decide)) fun r H4 hr e4 h4 => q o H4 r (hB.mono (((e1.trans e2).trans e3).trans e4)) (BTr.of (((e1.trans e2).trans e3).trans e4)) (fresh_back ((e1.trans e2).trans e3) hr) h4
    · have hy : -1 ≤ first ∧ first < (m.ss.length : Int) := by
        have : (decide (-1 ≤ first) && decide (first < (m.ss.length : Int))) = true := by simpa using hb
        rw [Bool.and_eq_true, decide_eq_true_eq, decide_eq_true_eq] at this
        exact this
      simp only [] at hb' hout
      rw [if_pos hy] at hb' hout
      have hf : ∀ k, firstO first = some k → k < m.ss.length := fun k hk => by
        unfold firstO at hk
        split at hk
        · cases hk
        · cases hk
          omega
      have e13 : Ex H H3 := (e1.trans e2).trans e3
      have hB3 := hB.mono e13
      have hC3 := hC.mono e13
      refine q_cm (xs := [.int cars, .int people, .int first]) (m' := m.step cars.toNat people.toNat (firstO first)) (by decide +kernel) hC3 (evc H3) (ea_cons (ev_var rfl) (ea_cons (ev_var rfl) (ea_one (ev_var rfl)))) rfl (fun H4 _ => ⟨cars.toNat, people.toNat, firstO first, ?_, hf, rfl⟩) fun l4 H4 hC4 t4 => ?_
      · rw [nV_first hy.1, Int.toNat_of_nonneg hc0, Int.toNat_of_nonneg hp0]
      · obtain ⟨hB4, tr4⟩ := hB3.stepped he ho hC4 t4
        have tr5 : BTr p bl o H (pt o e (some { A with ls := l4 })) H4 := tr4.pre e13
        have hb2 : b' = putB bb e (some (m.step cars.toNat people.toNat (firstO first))) := hb'
        have hout2 : out = 0 :: intsOf (m.step cars.toNat people.toNat (firstO first)).lights := hout
        rw [hb2, hout2] at q
        generalize m.step cars.toNat people.toNat (firstO first) = m4 at hC4 hB4 q
        refine s_retL (el_cat (el_lst (ea_one ev_c) (by show 1 ≤ 100000; decide)) (fun H5 e5 => fl_C_lights (hC4.mono e5) (evc H5)) (by show 1 + 4 ≤ 100000; decide)) fun r H5 hr e5 h5 => q _ H5 r (hB4.mono e5) (tr5.ex e5) (tr5.fr.dom _ hr) ?_
        rw [h5, intV_map]
        rfl
abbrev s_X_remembered : Stmt := inClass (top 29) 3
theorem sc_X_remembered : FnScope ["self", "at", "crossing"] ["self", "at"] (defScope s_X_remembered) := ⟨rfl, rfl, rfl, by decide +kernel, rfl, by decide +kernel, by decide +kernel⟩
theorem ok_X_remembered {f : Addr} {fd : FuncData} (F : Fun K "remembered" "Crossings.remembered" s_X_remembered f fd) (me : Meth K CX "remembered" f) (T : Txt K mg CS CC CX) (g_C_remembered : Met P w K mg base 2 CC "remembered" (sp_C_remembered CS CC)) : Met P w K mg base 3 CX "remembered" (sp_X_remembered CS CC CX) := by
  have b : Binds K fd ["self", "at"] [] := F.binds (ps := ["self", "at"]) fun _ _ _ _ _ _ us hl => match us, hl with | [_, _], _ => rfl
  refine met_of T.cX me F b sc_X_remembered len_X_remembered (fun cdv A outer s H vs Q E hr h => ?_)
  obtain ⟨p, bl, o, bb, xs, b', out, rfl, hxs, hB, ⟨e, rfl, he, rfl, rfl⟩, q⟩ := h
  refine ⟨_, (pss_cons (ps_set (i := 2) sc_X_remembered.nd rfl (Or.inl rfl) (pe_ix ix_list (pe_fld (pv 0) rfl) (pv 1) (fun _ _ => rfl)))
      (pss_cons (ps_if (pt_cmpR op_isN (pv 2) pe_non (nomark _)) (pss_one (ps_ret (pe_lst (pa_cons (pe_k T.k_NOT_BEGUN (by rfl)) pa_nil)))) pss_nil)
      (pss_one (ps_ret (pe_op op_cat (pe_lst (pa_cons pe_int pa_nil)) (pe_m0 g_C_remembered hr (by decide) (pv 2))))))), ?_⟩
  try dsimp only [cxOf, Cx.nox, Cx.wish]
  unfold callsM at q
  refine q_asg (ev_x_at T hB he (ev_var rfl) (ev_var rfl)) fun H1 e1 => ?_
  cases hm : pickB b' e with
  | none =>
    rw [hm] at q
    have ho := hB.at_none hm
    refine q_when (b := true) (et_test (ev_op (ev_is (ev_var rfl) (congrArg vO ho)) ev_c (rv_isN (x := V.non)))) (fun _ H2 e2 => ?_) fun hb => by cases hb
    exact s_retL (el_lst (ea_one ev_c) (by show 1 ≤ 100000; decide)) fun r H3 hr e3 h3 => q o H3 r (hB.mono ((e1.trans e2).trans e3)) (BTr.of ((e1.trans e2).trans e3)) (fresh_back (e1.trans e2) hr) h3
  | some m =>
    rw [hm] at q
    obtain ⟨A, ho, hC⟩ := hB.at_some hm
    have evc : ∀ H', Ev (tVar 2) (List.set (start ["self", "at", "crossing"] [.ref p, .int e]) 2 (some (vO (pk o e)))) H' (.ref A.p) := fun H' => ev_is (ev_var rfl) (congrArg vO ho)
    refine q_when (b := false) (et_test (ev_op (evc H1) ev_c (rv_isN (x := V.ref A.p)))) (fun hb => by cases hb) fun _ H2 e2 => ?_
    have hC2 := hC.mono (e1.trans e2)
    refine s_retL (el_cat (el_lst (ea_one ev_c) (by show 1 ≤ 100000; decide)) (fun H5 e5 => fl_C_remembered (hC2.mono e5) (evc H5)) (by show 1 + 2 ≤ 100000; decide)) fun r H5 hr e5 h5 => q _ H5 r (hB.mono ((e1.trans e2).trans e5)) (BTr.of ((e1.trans e2).trans e5)) (fresh_back (e1.trans e2) hr) ?_
    rw [h5, intV_map]
    rfl
/-! ### one call of the list -/
def spD (CS CC CX : Addr) (K : PySem.W.Frag) (rc : List Int → Nat → List (List Int) → Nat → Prop) : Sp := fun vs H Q _ => ∃ (p bl : Addr) (o : Option Ad × Option Ad) (b : Bth) (ca : Addr) (ns : List Int) (i : Nat) (c : List (List Int)) (j : Nat),
  vs = [.ref p, .ref ca, .int (i : Int)] ∧ BAt CS CC CX H p bl o b ∧ SqL K H ca (ns.map V.int) ∧ rc ns i c j ∧ Sa38Neutral.asked1 c = true ∧
  ∀ o' H' T r, BAt CS CC CX H' p bl o' (doM b c).1 → BTr p bl o H o' H' → H' T = some (.tup [.ref r, .int (j : Int)]) → H r = none → H' r = some (.lst ((doM b c).2.map V.int)) → Q (.ref T) H'
theorem len_spD {rc : List Int → Nat → List (List Int) → Nat → Prop} : ∀ vs H Q E, spD CS CC CX K rc vs H Q E → vs.length = 3 := fun vs H Q E ⟨_, _, _, _, _, _, _, _, _, e, _⟩ => by rw [e]; rfl
abbrev sp_f_begun (CS CC CX : Addr) (K : PySem.W.Frag) : Sp := spD CS CC CX K fun ns i c j => Rec ns i c j ∧ ns[i]? = some 0
abbrev sp_f_done (CS CC CX : Addr) (K : PySem.W.Frag) : Sp := spD CS CC CX K Rec
theorem len_f_begun : ∀ vs H Q E, sp_f_begun CS CC CX K vs H Q E → vs.length = 3 := len_spD
theorem len_f_done : ∀ vs H Q E, sp_f_done CS CC CX K vs H Q E → vs.length = 3 := len_spD
theorem ev_at {ca : Addr} {ns : List Int} {i : Nat} {x : Int} (hS : SqL K H ca (ns.map V.int)) (hx : ns[i]? = some x) (h : Ev ta σ H (.ref ca)) (hi : Ev ti σ H (.int (i : Int))) : Ev (tOp (rIxL K) ta ti) σ H (.int x) :=
  ev_op h hi (rv_ixL hS (atI_nat (by rw [List.getElem?_map, hx] <;> rfl)))
theorem s_retS {sp : Sp} {tr : TA} {vs : List V} (h : EvA tr σ H vs) (k : ∀ H1, Ex H H1 → sp vs H1 D.rt E) : tRet (tCall sp [] E tr) D σ H := h H (Ex.refl H) _ fun H1 e1 => by
  rw [List.append_nil]
  exact k H1 e1
/-- return (crossings.m(..), j) -/
theorem ret_tup {n : Nat} {pr : Bth → List V → Hp → Bth → List Int → Prop} {mm : Str} {tr : TA} {out : List Int} {jj : Int} (hm : at1 ["both"] mm = none) (hB : BAt CS CC CX H p bl o b) (h : Ev ta σ H (.ref p))
    (ha : ∀ H1, Ex H H1 → ∀ Q : List V → Hp → Prop, (∀ xs H2, Ex H1 H2 → xs.length = n → pr b xs H2 b' out → Q xs H2) → tr σ H1 Q) (hi : ∀ H, Ev ti σ H (.int jj))
    (q : ∀ o' H' T r, BAt CS CC CX H' p bl o' b' → BTr p bl o H o' H' → H' T = some (.tup [.ref r, .int jj]) → H r = none → H' r = some (.lst (out.map V.int)) → D.rt (.ref T) H') :
    tRet (tTup (tCons (tMeth CX mm (spX CS CC CX n pr) [] E ta tr) (tCons ti tNil))) D σ H := by
  refine h H (Ex.refl H) _ fun H1 e1 => ?_
  obtain ⟨dx, hd⟩ := hB.obj
  refine ⟨p, dx, _, rfl, e1 _ _ hd, zip_none (ks := ["both"]) (vs := [.ref bl]) hm, ?_⟩
  refine ha H1 e1 _ fun xs H2 e2 hn hp => ?_
  rw [List.append_nil]
  refine ⟨p, bl, o, b, xs, b', out, rfl, hn, hB.mono (e1.trans e2), hp, fun o' H3 r hB3 tr3 hr h3 => ?_⟩
  refine hi H3 H3 (Ex.refl H3) _ fun H4 e4 => ?_
  refine ⟨by show 2 ≤ sizeLine; decide, fun T hT => ?_⟩
  have e5 : Ex H4 (upd H4 T (.tup [.ref r, .int jj])) := Ex.new hT
  exact q o' _ T r (hB3.mono (e4.trans e5)) ((tr3.pre (e1.trans e2)).ex (e4.trans e5)) upd_same (fresh_back (e1.trans e2) hr) (e5 _ _ (e4 _ _ h3))
abbrev s_f_begun : Stmt := top 30
theorem sc_f_begun : FnScope ["crossings", "calls", "at", "first", "end"] ["crossings", "calls", "at"] (defScope s_f_begun) := ⟨rfl, rfl, rfl, by decide +kernel, rfl, by decide +kernel, by decide +kernel⟩
theorem ok_f_begun {f : Addr} {fd : FuncData} (F : Fun K "begun" "begun" s_f_begun f fd) (hm : mg "begun" = some (.ref f)) (T : Txt K mg CS CC CX) (g_X_begin : Met P w K mg base 3 CX "begin" (sp_X_begin CS CC CX K)) : Cal P w K mg base 4 "begun" (sp_f_begun CS CC CX K) := by
  have b : Binds K fd ["crossings", "calls", "at"] [] := F.binds (ps := ["crossings", "calls", "at"]) fun _ _ _ _ _ _ us hl => match us, hl with | [_, _, _], _ => rfl
  refine cal_of hm F b sc_f_begun len_f_begun (fun cdv A outer s H vs Q E hr h => ?_)
  obtain ⟨p, bl, o, bb, ca, ns, i, c, j, rfl, hB, hS, ⟨hrec, h0⟩, hask, q⟩ := h
  refine ⟨_, (pss_cons (ps_set (i := 3) sc_f_begun.nd rfl (Or.inl rfl) (pe_op op_add (pv 2) pe_int))
      (pss_cons (ps_set (i := 4) sc_f_begun.nd rfl (Or.inl rfl) (pe_op op_add (pv 3) (pe_ix ix_list (pv 1) (pe_op op_add (pv 2) pe_int) (fun _ _ => rfl))))
      (pss_one (ps_ret (pe_tup (pa_cons (pe_m g_X_begin hr (by decide) (pv 0) (pa_cons (pe_ix ix_list (pv 1) (pe_op op_add (pv 2) pe_int) (fun _ _ => rfl)) (pa_cons (pe_ix ix_list (pv 1) (pe_op op_add (pv 2) pe_int) (fun _ _ => rfl)) (pa_cons (pe_slice sl_list (pv 1) (po_some (pv 3)) (po_some (pv 4))) pa_nil)))) (pa_cons (pv 4) pa_nil))))))), ?_⟩
  try dsimp only [cxOf, Cx.nox, Cx.wish]
  cases hrec with
  | stp e cars people first h1 => rw [h0] at h1; cases h1
  | cal e h1 => rw [h0] at h1; cases h1
  | beg e n k h1 h2 h3 h4 h5 =>
    obtain ⟨he, hlen⟩ := asked_beg hask
    refine q_asg (v := .int ((i + 4 : Nat) : Int)) (ev_op (ev_var rfl) ev_c (rv_addn (b := 4))) fun H1 e1 => ?_
    refine q_asg (v := .int ((i + 4 + k : Nat) : Int)) (ev_op (ev_var rfl) (ev_at (ex_l e1 hS) h4 (ev_var rfl) (ev_op (ev_var rfl) ev_c (rv_addn (b := 3)))) rv_addn) fun H2 e2 => ?_
    have hS2 := ex_l (e1.trans e2) hS
    refine ret_tup (n := 3) (pr := prBegin K) (b' := (doM bb [[0, e, n], (ns.drop (i + 4)).take k]).1) (out := (doM bb [[0, e, n], (ns.drop (i + 4)).take k]).2) (by decide +kernel) (hB.mono (e1.trans e2)) (ev_var rfl) (fun H3 e3 Q2 q2 => ?_) (fun _ => ev_var rfl) fun o' H' T r hB' tr hT hr h6 => q o' H' T r hB' (tr.pre (e1.trans e2)) hT (fresh_back (e1.trans e2) hr) h6
    have hS3 := ex_l e3 hS2
    refine ev_at hS3 h2 (ev_var rfl) (ev_op (ev_var rfl) ev_c (rv_addn (b := 1))) H3 (Ex.refl H3) _ fun H4 e4 => ?_
    refine ev_at (ex_l e4 hS3) h3 (ev_var rfl) (ev_op (ev_var rfl) ev_c (rv_addn (b := 2))) H4 (Ex.refl H4) _ fun H5 e5 => ?_
    refine el_is (el_sl (ev_var rfl) (eo_some (ev_var rfl)) (eo_some (ev_var rfl)) (ex_l (e4.trans e5) hS3)) (cut_nat _ _ _) H5 (Ex.refl H5) _ fun la H6 _ e6 h6 => ?_
    refine q2 _ H6 ((e4.trans e5).trans e6) rfl ⟨e, n, la, (ns.drop (i + 4)).take k, rfl, he, sq_of ?_, hlen, rfl, rfl⟩
    rw [h6, List.map_take, List.map_drop]
theorem three_at {ns : List Int} {i : Nat} {x y z : Int} (h1 : ns[i]? = some x) (h2 : ns[i + 1]? = some y) (h3 : ns[i + 2]? = some z) : ((ns.map V.int).drop i).take 3 = [.int x, .int y, .int z] := by
  rw [← List.map_drop, ← List.map_take]
  have e1 : (ns.drop i).take 3 = [x, y, z] := by
    apply List.ext_getElem?
    intro k
    rw [List.getElem?_take]
    match k with
    | 0 => rw [if_pos (by decide), List.getElem?_drop]; exact h1
    | 1 => rw [if_pos (by decide), List.getElem?_drop]; exact h2
    | 2 => rw [if_pos (by decide), List.getElem?_drop]; exact h3
    | k + 3 =>
      rw [if_neg (by omega)]
      rfl
  rw [e1]
  rfl
abbrev s_f_done : Stmt := top 31
theorem sc_f_done : FnScope ["crossings", "calls", "at", "cars", "people", "first"] ["crossings", "calls", "at"] (defScope s_f_done) := ⟨rfl, rfl, rfl, by decide +kernel, rfl, by decide +kernel, by decide +kernel⟩
theorem ok_f_done {f : Addr} {fd : FuncData} (F : Fun K "done" "done" s_f_done f fd) (hm : mg "done" = some (.ref f)) (T : Txt K mg CS CC CX) (g_f_begun : Cal P w K mg base 4 "begun" (sp_f_begun CS CC CX K)) (g_X_remembered : Met P w K mg base 3 CX "remembered" (sp_X_remembered CS CC CX)) (g_X_step : Met P w K mg base 7 CX "step" (sp_X_step CS CC CX)) : Cal P w K mg base 8 "done" (sp_f_done CS CC CX K) := by
  have b : Binds K fd ["crossings", "calls", "at"] [] := F.binds (ps := ["crossings", "calls", "at"]) fun _ _ _ _ _ _ us hl => match us, hl with | [_, _, _], _ => rfl
  refine cal_of hm F b sc_f_done len_f_done (fun cdv A outer s H vs Q E hr h => ?_)
  obtain ⟨p, bl, o, bb, ca, ns, i, c, j, rfl, hB, hS, hrec, hask, q⟩ := h
  refine ⟨_, (pss_cons (ps_if (pt_cmpR op_eq (pe_ix ix_list (pv 1) (pv 2) (fun _ _ => rfl)) (pe_k T.k_BEGIN (by rfl)) (nomark _)) (pss_one (ps_ret (pe_f g_f_begun hr (by decide) (by rfl) (pa_cons (pv 0) (pa_cons (pv 1) (pa_cons (pv 2) pa_nil)))))) pss_nil)
      (pss_cons (ps_if (pt_cmpR op_eq (pe_ix ix_list (pv 1) (pv 2) (fun _ _ => rfl)) (pe_k T.k_STEP (by rfl)) (nomark _)) (pss_cons (ps_asg (pe_slice sl_list (pv 1) (po_some (pe_op op_add (pv 2) pe_int)) (po_some (pe_op op_add (pv 2) pe_int))) (pg_lst rfl (pgs_cons (pg_name (i := 3) sc_f_done.nd rfl (Or.inl rfl)) (pgs_cons (pg_name (i := 4) sc_f_done.nd rfl (Or.inl rfl)) (pgs_cons (pg_name (i := 5) sc_f_done.nd rfl (Or.inl rfl)) pgs_nil)))))
        (pss_one (ps_ret (pe_tup (pa_cons (pe_m g_X_step hr (by decide) (pv 0) (pa_cons (pe_ix ix_list (pv 1) (pe_op op_add (pv 2) pe_int) (fun _ _ => rfl)) (pa_cons (pv 3) (pa_cons (pv 4) (pa_cons (pv 5) pa_nil))))) (pa_cons (pe_op op_add (pv 2) pe_int) pa_nil)))))) pss_nil)
      (pss_one (ps_ret (pe_tup (pa_cons (pe_m g_X_remembered hr (by decide) (pv 0) (pa_cons (pe_ix ix_list (pv 1) (pe_op op_add (pv 2) pe_int) (fun _ _ => rfl)) pa_nil)) (pa_cons (pe_op op_add (pv 2) pe_int) pa_nil))))))), ?_⟩
  try dsimp only [cxOf, Cx.nox, Cx.wish]
  have hrec0 := hrec
  cases hrec with
  | beg e n k h1 h2 h3 h4 h5 =>
    refine q_when (b := true) (et_test (ev_op (ev_at hS h1 (ev_var rfl) (ev_var rfl)) ev_c (rv_eq rfl))) (fun _ H1 e1 => ?_) fun hb => by cases hb
    exact s_retS (ea_cons (ev_var rfl) (ea_cons (ev_var rfl) (ea_one (ev_var rfl)))) fun H2 e2 => ⟨p, bl, o, bb, ca, ns, i, _, _, rfl, hB.mono (e1.trans e2), ex_l (e1.trans e2) hS, ⟨hrec0, h1⟩, hask, fun o' H' T r hB' tr hT hr h6 => q o' H' T r hB' (tr.pre (e1.trans e2)) hT (fresh_back (e1.trans e2) hr) h6⟩
  | stp e cars people first h1 h2 h3 h4 h5 =>
    obtain ⟨he, hc0, hp0⟩ := asked_stp hask
    refine q_when (b := false) (et_test (ev_op (ev_at hS h1 (ev_var rfl) (ev_var rfl)) ev_c (rv_eq rfl))) (fun hb => by cases hb) fun _ H1 e1 => ?_
    have hS1 := ex_l e1 hS
    refine q_when (b := true) (et_test (ev_op (ev_at hS1 h1 (ev_var rfl) (ev_var rfl)) ev_c (rv_eq rfl))) (fun _ H2 e2 => ?_) fun hb => by cases hb
    have hS2 := ex_l e2 hS1
    have esl : EvL (tSl (rSlL K) (tVar 1) (tPart (tOp (rI0 fun i j => .int (i + j)) (tVar 2) (tC (.int 2)))) (tPart (tOp (rI0 fun i j => .int (i + j)) (tVar 2) (tC (.int 5))))) (start ["crossings", "calls", "at", "cars", "people", "first"] [.ref p, .ref ca, .int (i : Int)]) H2 [.int cars, .int people, .int first] :=
      el_is (el_sl (ev_var rfl) (eo_some (ev_op (ev_var rfl) ev_c (rv_addn (b := 2)))) (eo_some (ev_is (ev_op (ev_var rfl) ev_c (rv_addn (b := 5))) (show V.int ((i + 5 : Nat) : Int) = V.int ((i + 2 + 3 : Nat) : Int) from rfl))) hS2) ((cut_nat _ _ _).trans (three_at h3 h4 h5))
    refine esl H2 (Ex.refl H2) _ fun p3 H3 _ e3 hp3 => ?_
    refine ⟨p3, _, rfl, sq_of hp3, rfl, _, _, rfl, _, _, rfl, _, _, rfl, rfl, ?_⟩
    have e13 : Ex H H3 := (e1.trans e2).trans e3
    have hS3 := ex_l e13 hS
    refine ret_tup (n := 4) (pr := prStep) (b' := (doM bb [[1, e, cars, people, first]]).1) (out := (doM bb [[1, e, cars, people, first]]).2) (by decide +kernel) (hB.mono e13) (ev_var rfl) (fun H4 e4 Q2 q2 => ?_) (fun _ => ev_op (ev_var rfl) ev_c (rv_addn (b := 5))) fun o' H' T r hB' tr hT hr h6 => q o' H' T r hB' (tr.pre e13) hT (fresh_back e13 hr) h6
    refine ea_cons (ev_at (ex_l e4 hS3) h2 (ev_var rfl) (ev_op (ev_var rfl) ev_c (rv_addn (b := 1)))) (ea_cons (ev_var rfl) (ea_cons (ev_var rfl) (ea_one (ev_var rfl)))) H4 (Ex.refl H4) _ fun H5 e5 => ?_
    exact q2 _ H5 e5 rfl ⟨e, cars, people, first, rfl, he, hc0, hp0, rfl, rfl⟩
  | cal e h1 h2 =>
    have he := asked_cal hask
    refine q_when (b := false) (et_test (ev_op (ev_at hS h1 (ev_var rfl) (ev_var rfl)) ev_c (rv_eq rfl))) (fun hb => by cases hb) fun _ H1 e1 => ?_
    have hS1 := ex_l e1 hS
    refine q_when (b := false) (et_test (ev_op (ev_at hS1 h1 (ev_var rfl) (ev_var rfl)) ev_c (rv_eq rfl))) (fun hb => by cases hb) fun _ H2 e2 => ?_
    have e12 : Ex H H2 := e1.trans e2
    refine ret_tup (n := 1) (pr := prCalls) (b' := (doM bb [[2, e]]).1) (out := (doM bb [[2, e]]).2) (by decide +kernel) (hB.mono e12) (ev_var rfl) (fun H4 e4 Q2 q2 => ?_) (fun _ => ev_op (ev_var rfl) ev_c (rv_addn (b := 2))) fun o' H' T r hB' tr hT hr h6 => q o' H' T r hB' (tr.pre e12) hT (fresh_back e12 hr) h6
    refine ea_one (ev_at (ex_l (e12.trans e4) hS) h2 (ev_var rfl) (ev_op (ev_var rfl) ev_c (rv_addn (b := 1)))) H4 (Ex.refl H4) _ fun H5 e5 => ?_
    exact q2 _ H5 e5 rfl ⟨e, rfl, he, rfl, rfl⟩
/-! ### all calls -/
theorem s_ext {l c : Addr} {xs zs : List V} (hl : H l = some (.lst xs)) (hb : H c = some (.lst zs)) (ha : Ev ta σ H (.ref l)) (h : Ev te σ H (.ref c)) (hz : xs.length + zs.length ≤ 100000) (q : ∀ H1, Ex H H1 → D.nx σ (upd H1 l (.lst (xs ++ zs)))) :
    tDrop (tBM K "list" rExtend ta (tCons te tNil)) D σ H := ha H (Ex.refl H) _ fun H1 e1 =>
  ⟨Or.inl ⟨rfl, xs, sq_of (e1 l _ hl)⟩, h H1 e1 _ fun H2 e2 => ⟨l, c, xs, zs, rfl, rfl, e2 l _ (e1 l _ hl), e2 c _ (e1 c _ hb), sz_of hz, q H2 (e1.trans e2)⟩⟩
theorem BAt.frame {F : Addr → Prop} (hB : BAt CS CC CX H p bl o b) (fr : Fr F H H') (hF : ∀ x, bfoot p bl o x → ¬ F x) : BAt CS CC CX H' p bl o b := by
  refine ⟨?_, fr.keep _ _ hB.lst (hF _ (.inr (.inl rfl))), fun e => ?_, hB.dis, hB.nin⟩
  · obtain ⟨d, hd⟩ := hB.obj
    exact ⟨d, fr.keep _ _ hd (hF _ (.inl rfl))⟩
  · have hc := hB.cr e
    cases z : pk o e with
    | none =>
      rw [z] at hc
      cases z2 : pickB b e with
      | none => trivial
      | some m2 => rw [z2] at hc; exact hc.elim
    | some A2 =>
      rw [z] at hc
      cases z2 : pickB b e with
      | none => rw [z2] at hc; exact hc.elim
      | some m2 =>
        rw [z2] at hc
        exact CrAt.frame hc fr fun x hx => hF x (.inr (.inr ⟨e, A2, z, hx⟩))
def sp_f_answers (K : PySem.W.Frag) : Sp := fun vs H Q _ => ∃ (a : Addr) (ns : List Int), vs = [.ref a] ∧ SqL K H a (ns.map V.int) ∧ PySa38.answers_asked ns = true ∧ ∀ (H' : Hp) (p : Addr), H' p = some (.lst ((PySa38.answers ns).map V.int)) → Q (.ref p) H'
theorem len_f_answers : ∀ vs H Q E, sp_f_answers K vs H Q E → vs.length = 1 := fun vs H Q E ⟨_, _, e, _⟩ => by rw [e]; rfl
theorem q_make0 {sp : Sp} {C : Addr} {i : Nat} (h : ∀ y dy, H y = none → H dy = none → dy ≠ y → sp [.ref y] (upd (upd H dy (.own y)) y (.ins C dy [])) (fun v H2 => v = .non ∧ tz D (σ.set i (some (.ref y))) H2) E) : tSeq (tAsg (tMake C sp [] E tNil) (gName i)) tz D σ H := h
theorem q_callT {sp : Sp} {tr : TA} {vs : List V} {g : TG} (h : EvA tr σ H vs) (k : ∀ H1, Ex H H1 → sp vs H1 (fun v H2 => g v σ H2 (tz D)) E) : tSeq (tAsg (tCall sp [] E tr) g) tz D σ H := h H (Ex.refl H) _ fun H1 e1 => by
  rw [List.append_nil]
  exact k H1 e1
abbrev s_f_answers : Stmt := top 32
theorem sc_f_answers : FnScope ["calls", "crossings", "told", "at", "answered"] ["calls"] (defScope s_f_answers) := ⟨rfl, rfl, rfl, by decide +kernel, rfl, by decide +kernel, by decide +kernel⟩
theorem ok_f_answers {f : Addr} {fd : FuncData} (F : Fun K "answers" "answers" s_f_answers f fd) (T : Txt K mg CS CC CX) (g_X_init : Mak P w K mg base 1 "Crossings" CX (sp_X_init CS CC CX)) (g_f_done : Cal P w K mg base 8 "done" (sp_f_done CS CC CX K)) : FnOk P w K mg base CX0 9 f fd ["calls"] (sp_f_answers K) := by
  refine F.ok sc_f_answers len_f_answers (fun cdv A outer s H vs Q E hr h => ?_)
  obtain ⟨ca, ns, rfl, hS, hask, q⟩ := h
  refine ⟨_, (pss_cons (ps_set (i := 1) sc_f_answers.nd rfl (Or.inl rfl) (pe_mk0 g_X_init hr (by decide) (by rfl)))
      (pss_cons (ps_set (i := 2) sc_f_answers.nd rfl (Or.inl rfl) (pe_lst pa_nil))
      (pss_cons (ps_set (i := 3) sc_f_answers.nd rfl (Or.inl rfl) pe_int)
      (pss_cons (ps_while PassesOwn.never (pt_cmpR op_lt (pv 3) (pe_callB call_len_seq (by rfl) T.b_len PySem.boot_len (pa_cons (pv 0) pa_nil)) (nomark _)) (pss_cons (ps_asg (pe_f g_f_done hr (by decide) (by rfl) (pa_cons (pv 1) (pa_cons (pv 0) (pa_cons (pv 3) pa_nil)))) (pg_tup rfl (pgs_cons (pg_name (i := 4) sc_f_answers.nd rfl (Or.inl rfl)) (pgs_cons (pg_name (i := 3) sc_f_answers.nd rfl (Or.inl rfl)) pgs_nil))))
        (pss_cons (ps_expr (pe_bm PySem.F.plainAttrs_list PySem.F.slot_list_append PySem.F.type_list_append mt_append (pv 2) (pa_cons (pe_callB call_len_seq (by rfl) T.b_len PySem.boot_len (pa_cons (pv 4) pa_nil)) pa_nil)))
        (pss_one (ps_expr (pe_bm PySem.F.plainAttrs_list PySem.F.slot_list_extend PySem.F.type_list_extend mt_extend (pv 2) (pa_cons (pv 4) pa_nil)))))))
      (pss_one (ps_ret (pv 2))))))), ?_⟩
  try dsimp only [cxOf, Cx.nox, Cx.wish]
  obtain ⟨left, hleft, way0⟩ := way_start hask
  -- crossings = Crossings()
  refine q_make0 fun p dp np ndp nep => ?_
  refine ⟨p, rfl, ⟨dp, upd_same⟩, fun bl H1 hbl hobj hlst f1 => ⟨rfl, ?_⟩⟩
  have e01 : Ex H H1 := ex_made np ndp f1
  have hblH : H bl = none := by
    by_cases q1 : bl = p
    · rw [q1]; exact np
    · by_cases q2 : bl = dp
      · rw [q2]; exact ndp
      · rw [upd_ne q1, upd_ne q2] at hbl
        exact hbl
  have hB1 : BAt CS CC CX H1 p bl (none, none) (none, none) := by
    refine ⟨hobj, hlst, fun e => ?_, fun A0 A1 x h0 => (by cases h0), fun e A x h0 => ?_⟩
    · have e1 : pk ((none, none) : Option Ad × Option Ad) e = none := by unfold pk; split <;> rfl
      have e2 : pickB (none, none) e = none := by unfold pickB; split <;> rfl
      rw [e1, e2]
      trivial
    · have e1 : pk ((none, none) : Option Ad × Option Ad) e = none := by unfold pk; split <;> rfl
      rw [e1] at h0
      cases h0
  -- told = []
  refine q_asgL (xs := []) (el_lst ea_nil (by decide)) fun t H2 ht2 e2 hT2 => ?_
  -- at = 0
  refine q_asg (v := .int ((0 : Nat) : Int)) (ev_ceq rfl) fun H3 e3 => ?_
  have e13 : Ex H1 H3 := e2.trans e3
  have ht : H t = none := fresh_back e01 ht2
  have hfoot0 : ∀ x, bfoot p bl (none, none) x → H x = none ∧ x ≠ t := fun x hx => by
    rcases hx with h | h | ⟨e, A, h, _⟩
    · rw [h]
      refine ⟨np, fun z => ?_⟩
      obtain ⟨d, hd⟩ := hobj
      rw [z, ht2] at hd
      cases hd
    · rw [h]
      refine ⟨hblH, fun z => ?_⟩
      rw [z, ht2] at hlst
      cases hlst
    · have e1 : pk ((none, none) : Option Ad × Option Ad) e = none := by unfold pk; split <;> rfl
      rw [e1] at h
      cases h
  refine q_while (fun m σ' H' => ∃ (i : Nat) (o : Option Ad × Option Ad) (b : Bth) (told : List Int) (x : Option V), σ' = [some (.ref ca), some (.ref p), some (.ref t), some (.int (i : Int)), x] ∧ BAt CS CC CX H' p bl o b ∧ Way ns i b told m ∧ H' t = some (.lst (told.map V.int)) ∧ Ex H H' ∧ (∀ x, bfoot p bl o x → H x = none ∧ x ≠ t) ∧ told.length + 6 * m ≤ 2400)
    left ⟨0, (none, none), (none, none), [], none, rfl, hB1.mono e13, way0, e3 _ _ hT2, e01.trans e13, hfoot0, by show 0 + 6 * left ≤ 2400; omega⟩ ?_
  rintro m σ' H' ⟨i, o, bb, told, x, rfl, hB, way, hT, ex, hfoot, hlen⟩
  have hS' := ex_l ex hS
  refine ⟨decide (i < ns.length), et_test (ev_op (ev_var rfl) (ev_is (ev_lenS (ev_var rfl) hS') (by rw [List.length_map])) rv_ltn), fun hb H4 e4 => ?_, fun hb H4 e4 => ?_⟩
  · obtain ⟨c, j, hrec, hij, hm, hask1, hway⟩ := way_turn way (of_decide_eq_true hb)
    refine ⟨fun σ2 H2 => ∃ (i : Nat) (o : Option Ad × Option Ad) (b : Bth) (told : List Int) (x : Option V), σ2 = [some (.ref ca), some (.ref p), some (.ref t), some (.int (i : Int)), x] ∧ BAt CS CC CX H2 p bl o b ∧ Way ns i b told (m - 1) ∧ H2 t = some (.lst (told.map V.int)) ∧ Ex H H2 ∧ (∀ x, bfoot p bl o x → H x = none ∧ x ≠ t) ∧ told.length + 6 * (m - 1) ≤ 2400, fun σ2 H2 h2 => ⟨m - 1, by omega, h2⟩, ?_⟩
    have hB4 := hB.mono e4
    have e04 : Ex H H4 := ex.trans e4
    refine q_callT (ea_cons (ev_var rfl) (ea_cons (ev_var rfl) (ea_one (ev_var rfl)))) fun H5 e5 => ?_
    have e05 : Ex H H5 := e04.trans e5
    refine ⟨p, bl, o, bb, ca, ns, i, c, j, rfl, hB4.mono e5, ex_l e05 hS, hrec, hask1, fun o' H6 T r hB6 tr6 hT6 hr6 h6 => ?_⟩
    refine ⟨T, [.ref r, .int (j : Int)], rfl, st_of hT6, rfl, _, _, rfl, _, _, rfl, rfl, ?_⟩
    have hTt5 : H5 t = some (.lst (told.map V.int)) := e5 _ _ (e4 _ _ hT)
    have hTt6 : H6 t = some (.lst (told.map V.int)) := tr6.fr.keep _ _ hTt5 fun z => (hfoot t z).2 rfl
    have hfoot6 : ∀ x, bfoot p bl o' x → H x = none ∧ x ≠ t := fun x hx => by
      rcases tr6.sub x hx with z | z
      · exact hfoot x z
      · exact ⟨fresh_back e05 z, fun y => by rw [y, hTt5] at z; cases z⟩
    have e06 : Ex H H6 := fun b u hu => tr6.fr.keep _ _ (e05 b u hu) fun z => by rw [(hfoot b z).1] at hu; cases hu
    have hrt : r ≠ t := fun z => by rw [z, hTt5] at hr6; cases hr6
    have hlen5 := doM_len hrec bb
    refine q_app hTt6 (ev_var rfl) (ev_lenS (ev_var rfl) (sq_of h6)) (by rw [List.length_map]; omega) fun H7 e7 => ?_
    have hr7 : (upd H7 t (.lst (told.map V.int ++ [.int (((doM bb c).2.map V.int).length : Int)]))) r = some (.lst ((doM bb c).2.map V.int)) := by
      rw [upd_ne hrt]
      exact e7 _ _ h6
    have hB7 : BAt CS CC CX (upd H7 t (.lst (told.map V.int ++ [.int (((doM bb c).2.map V.int).length : Int)]))) p bl o' (doM bb c).1 := BAt.frame (hB6.mono e7) (Fr.upd (F := (· = t)) rfl) fun x hx z => (hfoot6 x hx).2 z
    have e07 : Ex H (upd H7 t (.lst (told.map V.int ++ [.int (((doM bb c).2.map V.int).length : Int)]))) := Ex.mut (e06.trans e7) ht
    refine s_ext upd_same hr7 (ev_var rfl) (ev_var rfl) (by rw [List.length_append, List.length_map, List.length_map]; show told.length + 1 + _ ≤ _; omega) fun H8 e8 => ?_
    refine ⟨j, o', (doM bb c).1, told ++ (((doM bb c).2.length : Int) :: (doM bb c).2), _, rfl, BAt.frame (hB7.mono e8) (Fr.upd (F := (· = t)) rfl) fun x hx z => (hfoot6 x hx).2 z, hway _ _ fun s R => doM_is hrec hask1 bb s R, ?_, Ex.mut (e07.trans e8) ht, hfoot6, ?_⟩
    · rw [upd_same, List.length_map, List.map_append, List.append_assoc]
      rfl
    · rw [List.length_append, List.length_cons]
      omega
  · have e0 := way_end way (Nat.le_of_not_lt (of_decide_eq_false hb))
    refine s_ret (ev_var rfl) fun H5 e5 => q H5 t ?_
    rw [e0]
    exact e5 _ _ (e4 _ _ hT)
end
end Cg

/-! The end: what the top has written; all calls' promises, one after the other. -/
namespace Cg
open PySem PySem.Spec PyProof.Rows L2 Evl
section
variable {K : PySem.W.Frag}
def HasM (K : PySem.W.Frag) (C : Addr) (m qual : Str) (st : Stmt) : Prop := ∃ (f : Addr) (fd : FuncData), Fun K m qual st f fd ∧ Meth K C m f
def HasI (K : PySem.W.Frag) (C : Addr) (qual : Str) (st : Stmt) : Prop := ∃ (f : Addr) (fd : FuncData), Fun K "__init__" qual st f fd ∧ Mk K C f
def HasD (K : PySem.W.Frag) (m : Str) (st : Stmt) : Prop := ∃ (f : Addr) (fd : FuncData), Fun K m m st f fd ∧ PySem.W.nsIn K mainGlobals m = some (some (.ref f))
def HasK (K : PySem.W.Frag) (m : Str) (i : Int) : Prop := ∃ t, PySem.W.nsIn K mainGlobals m = some (some (.int i t))
theorem hasM {C : Addr} {m qual : Str} {st : Stmt} {f : Addr} {od an : Option Addr} {sl : Array (Option Value)} {oc kV dc pm cd ct : Value} (a : PySem.W.findIn K (.ref C) m = some (some (.ref f))) (i : PySem.W.isFn K (.ref f) = true) (l : K.lookup f = some ⟨oc, od, .func (PySem.W.fnOf m qual (defArgs st) (defBody st) (defScope st) .none kV dc pm an cd ct), sl⟩) (c : PySem.W.codeIn K cd qual = true) (k : PySem.W.keepIn K (.ref f) = true) : HasM K C m qual st := ⟨f, _, fun_mk l c k, ⟨a, i, k⟩⟩
theorem hasI {C : Addr} {qual : Str} {st : Stmt} {f : Addr} {od an : Option Addr} {sl : Array (Option Value)} {oc kV dc pm cd ct : Value} (mk : PySem.W.makesIn K C = true) (kc : PySem.W.keepIn K (.ref C) = true) (a : PySem.W.findIn K (.ref C) "__init__" = some (some (.ref f))) (i : PySem.W.isFn K (.ref f) = true) (l : K.lookup f = some ⟨oc, od, .func (PySem.W.fnOf "__init__" qual (defArgs st) (defBody st) (defScope st) .none kV dc pm an cd ct), sl⟩) (c : PySem.W.codeIn K cd qual = true) (k : PySem.W.keepIn K (.ref f) = true) : HasI K C qual st := ⟨f, _, fun_mk l c k, ⟨mk, a, i, kc⟩⟩
theorem hasD {m : Str} {st : Stmt} {f : Addr} {od an : Option Addr} {sl : Array (Option Value)} {oc kV dc pm cd ct : Value} (a : PySem.W.nsIn K mainGlobals m = some (some (.ref f))) (l : K.lookup f = some ⟨oc, od, .func (PySem.W.fnOf m m (defArgs st) (defBody st) (defScope st) .none kV dc pm an cd ct), sl⟩) (c : PySem.W.codeIn K cd m = true) (k : PySem.W.keepIn K (.ref f) = true) : HasD K m st := ⟨f, _, fun_mk l c k, a⟩
theorem hasK {m : Str} {i : Int} {t : _} (a : PySem.W.nsIn K mainGlobals m = some (some (.int i t))) : HasK K m i := ⟨t, a⟩
theorem HasK.val {m : Str} {i : Int} {h : Heap} {mg : Str → Option Value} (a : HasK K m i) (X : K.In h) (G : h.Ns mainGlobals mg) : ∃ u, mg m = some u ∧ RelV (.int i) u := by
  obtain ⟨t, a⟩ := a
  exact ⟨_, PySem.W.mg_of X G a, t, rfl⟩
end
structure NoS (K : PySem.W.Frag) (C : Addr) : Prop where
  ring : PySem.W.findIn K (.ref C) "ring" = some none
  group : PySem.W.findIn K (.ref C) "group" = some none
  least : PySem.W.findIn K (.ref C) "least" = some none
  gap : PySem.W.findIn K (.ref C) "gap" = some none
  most : PySem.W.findIn K (.ref C) "most" = some none
  yellow_time : PySem.W.findIn K (.ref C) "yellow_time" = some none
  red_time : PySem.W.findIn K (.ref C) "red_time" = some none
  walk_time : PySem.W.findIn K (.ref C) "walk_time" = some none
  clear_time : PySem.W.findIn K (.ref C) "clear_time" = some none
  mode : PySem.W.findIn K (.ref C) "mode" = some none
  colour : PySem.W.findIn K (.ref C) "colour" = some none
  time : PySem.W.findIn K (.ref C) "time" = some none
  rest : PySem.W.findIn K (.ref C) "rest" = some none
  waited : PySem.W.findIn K (.ref C) "waited" = some none
  let_go : PySem.W.findIn K (.ref C) "let_go" = some none
  car : PySem.W.findIn K (.ref C) "car" = some none
  button : PySem.W.findIn K (.ref C) "button" = some none
structure NoC (K : PySem.W.Frag) (C : Addr) : Prop where
  streams : PySem.W.findIn K (.ref C) "streams" = some none
  group : PySem.W.findIn K (.ref C) "group" = some none
  lasts : PySem.W.findIn K (.ref C) "lasts" = some none
  cars : PySem.W.findIn K (.ref C) "cars" = some none
  first : PySem.W.findIn K (.ref C) "first" = some none
structure NoX (K : PySem.W.Frag) (C : Addr) : Prop where
  both : PySem.W.findIn K (.ref C) "both" = some none
structure Ks (K : PySem.W.Frag) : Prop where
  RED : HasK K "RED" ((0 : Nat) : Int)
  GREEN : HasK K "GREEN" ((1 : Nat) : Int)
  YELLOW : HasK K "YELLOW" ((2 : Nat) : Int)
  CLEARING : HasK K "CLEARING" ((3 : Nat) : Int)
  MOST_RING : HasK K "MOST_RING" ((3 : Nat) : Int)
  MOST_GROUP : HasK K "MOST_GROUP" ((7 : Nat) : Int)
  MOST_MODE : HasK K "MOST_MODE" ((7 : Nat) : Int)
  ALWAYS : HasK K "ALWAYS" ((1 : Nat) : Int)
  TILL_MOST : HasK K "TILL_MOST" ((2 : Nat) : Int)
  CARS_KEPT : HasK K "CARS_KEPT" ((4 : Nat) : Int)
  RINGS : HasK K "RINGS" ((4 : Nat) : Int)
  GROUPS : HasK K "GROUPS" ((8 : Nat) : Int)
  NONE : HasK K "NONE" (-1)
  BEGIN : HasK K "BEGIN" ((0 : Nat) : Int)
  STEP : HasK K "STEP" ((1 : Nat) : Int)
  MOST_STREAMS : HasK K "MOST_STREAMS" ((16 : Nat) : Int)
  NUMBERS : HasK K "NUMBERS" ((10 : Nat) : Int)
  NO_STREAMS : HasK K "NO_STREAMS" (-2)
  NOT_BEGUN : HasK K "NOT_BEGUN" (-9)
structure Bs (K : PySem.W.Frag) : Prop where
  all_ : PySem.W.nsIn K mainGlobals "all" = some none
  any_ : PySem.W.nsIn K mainGlobals "any" = some none
  enumerate_ : PySem.W.nsIn K mainGlobals "enumerate" = some none
  int_ : PySem.W.nsIn K mainGlobals "int" = some none
  len_ : PySem.W.nsIn K mainGlobals "len" = some none
  list_ : PySem.W.nsIn K mainGlobals "list" = some none
  max_ : PySem.W.nsIn K mainGlobals "max" = some none
  range_ : PySem.W.nsIn K mainGlobals "range" = some none
  sum_ : PySem.W.nsIn K mainGlobals "sum" = some none
structure MsS (K : PySem.W.Frag) (C : Addr) : Prop where
  init : HasI K C "Stream.__init__" s_S_init
  is_always_called : HasM K C "is_always_called" "Stream.is_always_called" s_S_is_always_called
  is_till_most : HasM K C "is_till_most" "Stream.is_till_most" s_S_is_till_most
  has_walkers : HasM K C "has_walkers" "Stream.has_walkers" s_S_has_walkers
  has_clearers : HasM K C "has_clearers" "Stream.has_clearers" s_S_has_clearers
  remember : HasM K C "remember" "Stream.remember" s_S_remember
  run_clocks : HasM K C "run_clocks" "Stream.run_clocks" s_S_run_clocks
  end_walk : HasM K C "end_walk" "Stream.end_walk" s_S_end_walk
  end_old_colours : HasM K C "end_old_colours" "Stream.end_old_colours" s_S_end_old_colours
  are_people_over : HasM K C "are_people_over" "Stream.are_people_over" s_S_are_people_over
  is_due : HasM K C "is_due" "Stream.is_due" s_S_is_due
  turn_yellow : HasM K C "turn_yellow" "Stream.turn_yellow" s_S_turn_yellow
  turn_green : HasM K C "turn_green" "Stream.turn_green" s_S_turn_green
structure MsC (K : PySem.W.Frag) (C : Addr) : Prop where
  init : HasI K C "Crossing.__init__" s_C_init
  numbers : HasM K C "numbers" "Crossing.numbers" s_C_numbers
  are_crossing : HasM K C "are_crossing" "Crossing.are_crossing" s_C_are_crossing
  is_barred : HasM K C "is_barred" "Crossing.is_barred" s_C_is_barred
  is_called : HasM K C "is_called" "Crossing.is_called" s_C_is_called
  greens : HasM K C "greens" "Crossing.greens" s_C_greens
  in_colour : HasM K C "in_colour" "Crossing.in_colour" s_C_in_colour
  is_all_red : HasM K C "is_all_red" "Crossing.is_all_red" s_C_is_all_red
  is_stuck : HasM K C "is_stuck" "Crossing.is_stuck" s_C_is_stuck
  is_pressed : HasM K C "is_pressed" "Crossing.is_pressed" s_C_is_pressed
  take_calls : HasM K C "take_calls" "Crossing.take_calls" s_C_take_calls
  run_clocks : HasM K C "run_clocks" "Crossing.run_clocks" s_C_run_clocks
  is_ready : HasM K C "is_ready" "Crossing.is_ready" s_C_is_ready
  is_beside : HasM K C "is_beside" "Crossing.is_beside" s_C_is_beside
  heir : HasM K C "heir" "Crossing.heir" s_C_heir
  is_over : HasM K C "is_over" "Crossing.is_over" s_C_is_over
  turn_yellow : HasM K C "turn_yellow" "Crossing.turn_yellow" s_C_turn_yellow
  end_colours : HasM K C "end_colours" "Crossing.end_colours" s_C_end_colours
  turn_green : HasM K C "turn_green" "Crossing.turn_green" s_C_turn_green
  first_called : HasM K C "first_called" "Crossing.first_called" s_C_first_called
  begin_in : HasM K C "begin_in" "Crossing.begin_in" s_C_begin_in
  next_group : HasM K C "next_group" "Crossing.next_group" s_C_next_group
  begin_group : HasM K C "begin_group" "Crossing.begin_group" s_C_begin_group
  begin_colours : HasM K C "begin_colours" "Crossing.begin_colours" s_C_begin_colours
  step : HasM K C "step" "Crossing.step" s_C_step
  lights : HasM K C "lights" "Crossing.lights" s_C_lights
  remembered : HasM K C "remembered" "Crossing.remembered" s_C_remembered
structure MsX (K : PySem.W.Frag) (C : Addr) : Prop where
  init : HasI K C "Crossings.__init__" s_X_init
  begin : HasM K C "begin" "Crossings.begin" s_X_begin
  step : HasM K C "step" "Crossings.step" s_X_step
  remembered : HasM K C "remembered" "Crossings.remembered" s_X_remembered
structure Ds (K : PySem.W.Frag) : Prop where
  has_bit : HasD K "has_bit" s_f_has_bit
  bits_of : HasD K "bits_of" s_f_bits_of
  are_good : HasD K "are_good" s_f_are_good
  rows_of : HasD K "rows_of" s_f_rows_of
  begun : HasD K "begun" s_f_begun
  done : HasD K "done" s_f_done
  answers : HasD K "answers" s_f_answers
theorem all_mk {P : Program} {w : World} {K : PySem.W.Frag} {h : Heap} {mg : Str → Option Value} {fa CS CC CX : Addr} (X : K.In h) (G : h.Ns mainGlobals mg) (hfa : mg "answers" = some (.ref fa))
    (aS : PySem.W.nsIn K mainGlobals "Stream" = some (some (.ref CS))) (aC : PySem.W.nsIn K mainGlobals "Crossing" = some (some (.ref CC))) (aX : PySem.W.nsIn K mainGlobals "Crossings" = some (some (.ref CX)))
    (cS : Cls K CS) (cC : Cls K CC) (cX : Cls K CX) (nS : NoS K CS) (nC : NoC K CC) (nX : NoX K CX) (ks : Ks K) (bs : Bs K) (mS : MsS K CS) (mC : MsC K CC) (mX : MsX K CX) (ds : Ds K) :
    ∃ fd : FuncData, (∀ (s : Shared) (us : List Value), us.length = (["calls"] : List Str).length → BindsTo s fd ⟨us, []⟩ ((["calls"] : List Str).zip us)) ∧ ∀ base : Heap, K.In base → base.Ns mainGlobals mg → FnOk P w K mg base CX0 9 fa fd ["calls"] (sp_f_answers K) := by
  have T : Txt K mg CS CC CX := ⟨cS, cC, cX, nS.ring, nS.group, nS.least, nS.gap, nS.most, nS.yellow_time, nS.red_time, nS.walk_time, nS.clear_time, nS.mode, nS.colour, nS.time, nS.rest, nS.waited, nS.let_go, nS.car, nS.button, nC.streams, nC.group, nC.lasts, nC.cars, nC.first, nX.both, ks.RED.val X G, ks.GREEN.val X G, ks.YELLOW.val X G, ks.CLEARING.val X G, ks.MOST_RING.val X G, ks.MOST_GROUP.val X G, ks.MOST_MODE.val X G, ks.ALWAYS.val X G, ks.TILL_MOST.val X G, ks.CARS_KEPT.val X G, ks.RINGS.val X G, ks.GROUPS.val X G, ks.NONE.val X G, ks.BEGIN.val X G, ks.STEP.val X G, ks.MOST_STREAMS.val X G, ks.NUMBERS.val X G, ks.NO_STREAMS.val X G, ks.NOT_BEGUN.val X G, PySem.W.mg_none_of X G bs.all_, PySem.W.mg_none_of X G bs.any_, PySem.W.mg_none_of X G bs.enumerate_, PySem.W.mg_none_of X G bs.int_, PySem.W.mg_none_of X G bs.len_, PySem.W.mg_none_of X G bs.list_, PySem.W.mg_none_of X G bs.max_, PySem.W.mg_none_of X G bs.range_, PySem.W.mg_none_of X G bs.sum_⟩
  obtain ⟨f_f_has_bit, fd_f_has_bit, F_f_has_bit, a_f_has_bit⟩ := ds.has_bit
  obtain ⟨f_f_bits_of, fd_f_bits_of, F_f_bits_of, a_f_bits_of⟩ := ds.bits_of
  obtain ⟨f_f_are_good, fd_f_are_good, F_f_are_good, a_f_are_good⟩ := ds.are_good
  obtain ⟨f_S_init, fd_S_init, F_S_init, a_S_init⟩ := mS.init
  obtain ⟨f_S_is_always_called, fd_S_is_always_called, F_S_is_always_called, a_S_is_always_called⟩ := mS.is_always_called
  obtain ⟨f_S_is_till_most, fd_S_is_till_most, F_S_is_till_most, a_S_is_till_most⟩ := mS.is_till_most
  obtain ⟨f_S_has_walkers, fd_S_has_walkers, F_S_has_walkers, a_S_has_walkers⟩ := mS.has_walkers
  obtain ⟨f_S_has_clearers, fd_S_has_clearers, F_S_has_clearers, a_S_has_clearers⟩ := mS.has_clearers
  obtain ⟨f_S_run_clocks, fd_S_run_clocks, F_S_run_clocks, a_S_run_clocks⟩ := mS.run_clocks
  obtain ⟨f_S_end_old_colours, fd_S_end_old_colours, F_S_end_old_colours, a_S_end_old_colours⟩ := mS.end_old_colours
  obtain ⟨f_S_are_people_over, fd_S_are_people_over, F_S_are_people_over, a_S_are_people_over⟩ := mS.are_people_over
  obtain ⟨f_S_turn_yellow, fd_S_turn_yellow, F_S_turn_yellow, a_S_turn_yellow⟩ := mS.turn_yellow
  obtain ⟨f_C_init, fd_C_init, F_C_init, a_C_init⟩ := mC.init
  obtain ⟨f_C_numbers, fd_C_numbers, F_C_numbers, a_C_numbers⟩ := mC.numbers
  obtain ⟨f_C_are_crossing, fd_C_are_crossing, F_C_are_crossing, a_C_are_crossing⟩ := mC.are_crossing
  obtain ⟨f_C_is_beside, fd_C_is_beside, F_C_is_beside, a_C_is_beside⟩ := mC.is_beside
  obtain ⟨f_f_rows_of, fd_f_rows_of, F_f_rows_of, a_f_rows_of⟩ := ds.rows_of
  obtain ⟨f_X_init, fd_X_init, F_X_init, a_X_init⟩ := mX.init
  obtain ⟨f_S_remember, fd_S_remember, F_S_remember, a_S_remember⟩ := mS.remember
  obtain ⟨f_S_end_walk, fd_S_end_walk, F_S_end_walk, a_S_end_walk⟩ := mS.end_walk
  obtain ⟨f_S_is_due, fd_S_is_due, F_S_is_due, a_S_is_due⟩ := mS.is_due
  obtain ⟨f_S_turn_green, fd_S_turn_green, F_S_turn_green, a_S_turn_green⟩ := mS.turn_green
  obtain ⟨f_C_is_barred, fd_C_is_barred, F_C_is_barred, a_C_is_barred⟩ := mC.is_barred
  obtain ⟨f_C_is_called, fd_C_is_called, F_C_is_called, a_C_is_called⟩ := mC.is_called
  obtain ⟨f_C_greens, fd_C_greens, F_C_greens, a_C_greens⟩ := mC.greens
  obtain ⟨f_C_in_colour, fd_C_in_colour, F_C_in_colour, a_C_in_colour⟩ := mC.in_colour
  obtain ⟨f_C_turn_yellow, fd_C_turn_yellow, F_C_turn_yellow, a_C_turn_yellow⟩ := mC.turn_yellow
  obtain ⟨f_C_lights, fd_C_lights, F_C_lights, a_C_lights⟩ := mC.lights
  obtain ⟨f_C_remembered, fd_C_remembered, F_C_remembered, a_C_remembered⟩ := mC.remembered
  obtain ⟨f_C_is_all_red, fd_C_is_all_red, F_C_is_all_red, a_C_is_all_red⟩ := mC.is_all_red
  obtain ⟨f_C_is_stuck, fd_C_is_stuck, F_C_is_stuck, a_C_is_stuck⟩ := mC.is_stuck
  obtain ⟨f_C_take_calls, fd_C_take_calls, F_C_take_calls, a_C_take_calls⟩ := mC.take_calls
  obtain ⟨f_C_is_ready, fd_C_is_ready, F_C_is_ready, a_C_is_ready⟩ := mC.is_ready
  obtain ⟨f_C_heir, fd_C_heir, F_C_heir, a_C_heir⟩ := mC.heir
  obtain ⟨f_C_turn_green, fd_C_turn_green, F_C_turn_green, a_C_turn_green⟩ := mC.turn_green
  obtain ⟨f_C_first_called, fd_C_first_called, F_C_first_called, a_C_first_called⟩ := mC.first_called
  obtain ⟨f_C_next_group, fd_C_next_group, F_C_next_group, a_C_next_group⟩ := mC.next_group
  obtain ⟨f_X_begin, fd_X_begin, F_X_begin, a_X_begin⟩ := mX.begin
  obtain ⟨f_X_remembered, fd_X_remembered, F_X_remembered, a_X_remembered⟩ := mX.remembered
  obtain ⟨f_C_is_pressed, fd_C_is_pressed, F_C_is_pressed, a_C_is_pressed⟩ := mC.is_pressed
  obtain ⟨f_C_is_over, fd_C_is_over, F_C_is_over, a_C_is_over⟩ := mC.is_over
  obtain ⟨f_C_begin_in, fd_C_begin_in, F_C_begin_in, a_C_begin_in⟩ := mC.begin_in
  obtain ⟨f_C_begin_group, fd_C_begin_group, F_C_begin_group, a_C_begin_group⟩ := mC.begin_group
  obtain ⟨f_f_begun, fd_f_begun, F_f_begun, a_f_begun⟩ := ds.begun
  obtain ⟨f_C_run_clocks, fd_C_run_clocks, F_C_run_clocks, a_C_run_clocks⟩ := mC.run_clocks
  obtain ⟨f_C_end_colours, fd_C_end_colours, F_C_end_colours, a_C_end_colours⟩ := mC.end_colours
  obtain ⟨f_C_begin_colours, fd_C_begin_colours, F_C_begin_colours, a_C_begin_colours⟩ := mC.begin_colours
  obtain ⟨f_C_step, fd_C_step, F_C_step, a_C_step⟩ := mC.step
  obtain ⟨f_X_step, fd_X_step, F_X_step, a_X_step⟩ := mX.step
  obtain ⟨f_f_done, fd_f_done, F_f_done, a_f_done⟩ := ds.done
  obtain ⟨f_f_answers, fd_f_answers, F_f_answers, a_f_answers⟩ := ds.answers
  have e := hfa.symm.trans (PySem.W.mg_of X G a_f_answers)
  cases e
  refine ⟨fd_f_answers, fun s us hu => ?_, fun base _ _ => ?_⟩
  · obtain ⟨oc, od, kV, doc, pm, an, cdv, ct, osl, rfl, lk, hcd⟩ := F_f_answers.ex
    exact match us, hu with | [_], _ => .of_eq rfl
  have g_f_has_bit : Cal P w K mg base 1 "has_bit" (sp_f_has_bit) := ok_f_has_bit F_f_has_bit (PySem.W.mg_of X G a_f_has_bit) T
  have g_f_bits_of : Cal P w K mg base 1 "bits_of" (sp_f_bits_of K) := ok_f_bits_of F_f_bits_of (PySem.W.mg_of X G a_f_bits_of) T
  have g_f_are_good : Cal P w K mg base 1 "are_good" (sp_f_are_good K) := ok_f_are_good F_f_are_good (PySem.W.mg_of X G a_f_are_good) T
  have g_S_init : Mak P w K mg base 1 "Stream" CS (sp_S_init CS) := ok_S_init F_S_init a_S_init (PySem.W.mg_of X G aS) T
  have g_S_is_always_called : Met P w K mg base 1 CS "is_always_called" (sp_S_is_always_called CS) := ok_S_is_always_called F_S_is_always_called a_S_is_always_called T
  have g_S_is_till_most : Met P w K mg base 1 CS "is_till_most" (sp_S_is_till_most CS) := ok_S_is_till_most F_S_is_till_most a_S_is_till_most T
  have g_S_has_walkers : Met P w K mg base 1 CS "has_walkers" (sp_S_has_walkers CS) := ok_S_has_walkers F_S_has_walkers a_S_has_walkers T
  have g_S_has_clearers : Met P w K mg base 1 CS "has_clearers" (sp_S_has_clearers CS) := ok_S_has_clearers F_S_has_clearers a_S_has_clearers T
  have g_S_run_clocks : Met P w K mg base 1 CS "run_clocks" (sp_S_run_clocks CS) := ok_S_run_clocks F_S_run_clocks a_S_run_clocks T
  have g_S_end_old_colours : Met P w K mg base 1 CS "end_old_colours" (sp_S_end_old_colours CS) := ok_S_end_old_colours F_S_end_old_colours a_S_end_old_colours T
  have g_S_are_people_over : Met P w K mg base 1 CS "are_people_over" (sp_S_are_people_over CS) := ok_S_are_people_over F_S_are_people_over a_S_are_people_over T
  have g_S_turn_yellow : Met P w K mg base 1 CS "turn_yellow" (sp_S_turn_yellow CS) := ok_S_turn_yellow F_S_turn_yellow a_S_turn_yellow T
  have g_C_init : Mak P w K mg base 1 "Crossing" CC (sp_C_init CS CC) := ok_C_init F_C_init a_C_init (PySem.W.mg_of X G aC) T
  have g_C_numbers : Met P w K mg base 1 CC "numbers" (sp_C_numbers CS CC) := ok_C_numbers F_C_numbers a_C_numbers T
  have g_C_are_crossing : Met P w K mg base 1 CC "are_crossing" (sp_C_are_crossing CS CC) := ok_C_are_crossing F_C_are_crossing a_C_are_crossing T
  have g_C_is_beside : Met P w K mg base 1 CC "is_beside" (sp_C_is_beside CS CC) := ok_C_is_beside F_C_is_beside a_C_is_beside T
  have g_f_rows_of : Cal P w K mg base 1 "rows_of" (sp_f_rows_of K) := ok_f_rows_of F_f_rows_of (PySem.W.mg_of X G a_f_rows_of) T
  have g_X_init : Mak P w K mg base 1 "Crossings" CX (sp_X_init CS CC CX) := ok_X_init F_X_init a_X_init (PySem.W.mg_of X G aX) T
  have g_S_remember : Met P w K mg base 2 CS "remember" (sp_S_remember CS) := ok_S_remember F_S_remember a_S_remember T g_S_has_walkers
  have g_S_end_walk : Met P w K mg base 2 CS "end_walk" (sp_S_end_walk CS) := ok_S_end_walk F_S_end_walk a_S_end_walk T g_S_has_walkers
  have g_S_is_due : Met P w K mg base 2 CS "is_due" (sp_S_is_due CS) := ok_S_is_due F_S_is_due a_S_is_due T g_S_is_till_most
  have g_S_turn_green : Met P w K mg base 2 CS "turn_green" (sp_S_turn_green CS) := ok_S_turn_green F_S_turn_green a_S_turn_green T g_S_is_till_most
  have g_C_is_barred : Met P w K mg base 2 CC "is_barred" (sp_C_is_barred CS CC) := ok_C_is_barred F_C_is_barred a_C_is_barred T g_C_are_crossing
  have g_C_is_called : Met P w K mg base 2 CC "is_called" (sp_C_is_called CS CC) := ok_C_is_called F_C_is_called a_C_is_called T g_S_is_always_called g_f_has_bit
  have g_C_greens : Met P w K mg base 2 CC "greens" (sp_C_greens CS CC) := ok_C_greens F_C_greens a_C_greens T g_C_numbers
  have g_C_in_colour : Met P w K mg base 2 CC "in_colour" (sp_C_in_colour CS CC) := ok_C_in_colour F_C_in_colour a_C_in_colour T g_C_numbers
  have g_C_turn_yellow : Met P w K mg base 2 CC "turn_yellow" (sp_C_turn_yellow CS CC) := ok_C_turn_yellow F_C_turn_yellow a_C_turn_yellow T g_S_turn_yellow
  have g_C_lights : Met P w K mg base 2 CC "lights" (sp_C_lights CS CC) := ok_C_lights F_C_lights a_C_lights T g_f_bits_of g_S_has_walkers g_S_has_clearers
  have g_C_remembered : Met P w K mg base 2 CC "remembered" (sp_C_remembered CS CC) := ok_C_remembered F_C_remembered a_C_remembered T g_f_bits_of
  have g_C_is_all_red : Met P w K mg base 3 CC "is_all_red" (sp_C_is_all_red CS CC) := ok_C_is_all_red F_C_is_all_red a_C_is_all_red T g_C_in_colour
  have g_C_is_stuck : Met P w K mg base 3 CC "is_stuck" (sp_C_is_stuck CS CC) := ok_C_is_stuck F_C_is_stuck a_C_is_stuck T g_C_is_called g_C_in_colour
  have g_C_take_calls : Met P w K mg base 3 CC "take_calls" (sp_C_take_calls CS CC) := ok_C_take_calls F_C_take_calls a_C_take_calls T g_S_remember g_f_has_bit
  have g_C_is_ready : Met P w K mg base 3 CC "is_ready" (sp_C_is_ready CS CC) := ok_C_is_ready F_C_is_ready a_C_is_ready T g_S_is_due g_C_is_barred g_S_are_people_over
  have g_C_heir : Met P w K mg base 3 CC "heir" (sp_C_heir CS CC) := ok_C_heir F_C_heir a_C_heir T g_C_is_barred g_C_is_beside g_C_is_called
  have g_C_turn_green : Met P w K mg base 3 CC "turn_green" (sp_C_turn_green CS CC) := ok_C_turn_green F_C_turn_green a_C_turn_green T g_S_turn_green
  have g_C_first_called : Met P w K mg base 3 CC "first_called" (sp_C_first_called CS CC) := ok_C_first_called F_C_first_called a_C_first_called T g_C_numbers g_C_is_called g_C_is_barred
  have g_C_next_group : Met P w K mg base 3 CC "next_group" (sp_C_next_group CS CC) := ok_C_next_group F_C_next_group a_C_next_group T g_C_is_called g_C_numbers
  have g_X_begin : Met P w K mg base 3 CX "begin" (sp_X_begin CS CC CX K) := ok_X_begin F_X_begin a_X_begin T g_f_rows_of g_C_init g_S_init g_f_are_good
  have g_X_remembered : Met P w K mg base 3 CX "remembered" (sp_X_remembered CS CC CX) := ok_X_remembered F_X_remembered a_X_remembered T g_C_remembered
  have g_C_is_pressed : Met P w K mg base 4 CC "is_pressed" (sp_C_is_pressed CS CC) := ok_C_is_pressed F_C_is_pressed a_C_is_pressed T g_C_greens g_C_numbers g_C_is_called g_C_is_stuck g_C_are_crossing
  have g_C_is_over : Met P w K mg base 4 CC "is_over" (sp_C_is_over CS CC) := ok_C_is_over F_C_is_over a_C_is_over T g_C_in_colour g_C_heir g_C_is_ready
  have g_C_begin_in : Met P w K mg base 4 CC "begin_in" (sp_C_begin_in CS CC) := ok_C_begin_in F_C_begin_in a_C_begin_in T g_C_turn_green g_C_heir g_C_first_called
  have g_C_begin_group : Met P w K mg base 4 CC "begin_group" (sp_C_begin_group CS CC) := ok_C_begin_group F_C_begin_group a_C_begin_group T g_C_next_group g_C_turn_green g_C_first_called
  have g_f_begun : Cal P w K mg base 4 "begun" (sp_f_begun CS CC CX K) := ok_f_begun F_f_begun (PySem.W.mg_of X G a_f_begun) T g_X_begin
  have g_C_run_clocks : Met P w K mg base 5 CC "run_clocks" (sp_C_run_clocks CS CC) := ok_C_run_clocks F_C_run_clocks a_C_run_clocks T g_C_is_pressed g_S_run_clocks g_C_is_barred g_f_has_bit g_S_end_walk
  have g_C_end_colours : Met P w K mg base 5 CC "end_colours" (sp_C_end_colours CS CC) := ok_C_end_colours F_C_end_colours a_C_end_colours T g_C_turn_yellow g_S_end_old_colours g_C_is_pressed g_C_is_over g_C_greens g_C_is_ready g_C_heir
  have g_C_begin_colours : Met P w K mg base 5 CC "begin_colours" (sp_C_begin_colours CS CC) := ok_C_begin_colours F_C_begin_colours a_C_begin_colours T g_C_is_all_red g_C_begin_group g_C_greens g_C_in_colour g_C_begin_in g_C_is_called g_C_numbers
  have g_C_step : Met P w K mg base 6 CC "step" (sp_C_step CS CC) := ok_C_step F_C_step a_C_step T g_C_take_calls g_C_run_clocks g_C_end_colours g_C_begin_colours
  have g_X_step : Met P w K mg base 7 CX "step" (sp_X_step CS CC CX) := ok_X_step F_X_step a_X_step T g_C_step g_C_lights
  have g_f_done : Cal P w K mg base 8 "done" (sp_f_done CS CC CX K) := ok_f_done F_f_done (PySem.W.mg_of X G a_f_done) T g_f_begun g_X_remembered g_X_step
  exact ok_f_answers F_f_answers T g_X_init g_f_done
end Cg

open PySem PySem.W PyProof.Rows
set_option maxRecDepth 100000 in
set_option maxHeartbeats 0 in
theorem PySem.Challenge.cw_crossgreen_s01_answers_holds : PySem.Challenge.rw_crossgreen_s01_answers.Holds := by
  w_on; k_headS; (case hw => exact ⟨[.list [.int 2, .int 0]], by decide +kernel, by decide +kernel⟩)
  k_fillS
  refine L2.walk_specK (r := PySem.Challenge.rw_crossgreen_s01_answers) (k := 9) (CX := L2.CX0) (ps := ["calls"]) (sp := Cg.sp_f_answers) (by decide +kernel) rfl rfl ⟨rfl, by decide, by decide⟩ (fun w h Y => PySem.W.kIn_of Y) ?F ?S (fun _ _ _ _ z => z)
  case F =>
    intro w mg fa h Y KX G hmg
    refine' Cg.all_mk KX G hmg ?aS ?aC ?aX ?cS ?cC ?cX ?nS ?nC ?nX ?ks ?bs ?mS ?mC ?mX ?ds
    (case aS => k_is)
    (case aC => k_is)
    (case aX => k_is)
    (case cS => refine' ⟨?pg, ?hd, ?po, ?sa⟩; (case pg => k_is); (case hd => k_is); (case po => k_is); (case sa => k_is))
    (case cC => refine' ⟨?pg, ?hd, ?po, ?sa⟩; (case pg => k_is); (case hd => k_is); (case po => k_is); (case sa => k_is))
    (case cX => refine' ⟨?pg, ?hd, ?po, ?sa⟩; (case pg => k_is); (case hd => k_is); (case po => k_is); (case sa => k_is))
    (case nS => refine' ⟨?_, ?_, ?_, ?_, ?_, ?_, ?_, ?_, ?_, ?_, ?_, ?_, ?_, ?_, ?_, ?_, ?_⟩; all_goals k_is)
    (case nC => refine' ⟨?_, ?_, ?_, ?_, ?_⟩; all_goals k_is)
    (case nX => refine' ⟨?_⟩; all_goals k_is)
    (case ks => refine' ⟨?_, ?_, ?_, ?_, ?_, ?_, ?_, ?_, ?_, ?_, ?_, ?_, ?_, ?_, ?_, ?_, ?_, ?_, ?_⟩; all_goals (refine' Cg.hasK ?ka; (case ka => k_is)))
    (case bs => refine' ⟨?_, ?_, ?_, ?_, ?_, ?_, ?_, ?_, ?_⟩; all_goals k_is)
    (case mS =>
      refine' ⟨?m0, ?m1, ?m2, ?m3, ?m4, ?m5, ?m6, ?m7, ?m8, ?m9, ?m10, ?m11, ?m12⟩
      (case m0 => refine' Cg.hasI ?mk ?kc ?a ?i ?l ?c ?k; (case mk => k_is); (case kc => k_is); (case a => k_is); (case i => k_is); (case l => k_is); (case c => k_is); (case k => k_is))
      (case m1 => refine' Cg.hasM ?a ?i ?l ?c ?k; (case a => k_is); (case i => k_is); (case l => k_is); (case c => k_is); (case k => k_is))
      (case m2 => refine' Cg.hasM ?a ?i ?l ?c ?k; (case a => k_is); (case i => k_is); (case l => k_is); (case c => k_is); (case k => k_is))
      (case m3 => refine' Cg.hasM ?a ?i ?l ?c ?k; (case a => k_is); (case i => k_is); (case l => k_is); (case c => k_is); (case k => k_is))
      (case m4 => refine' Cg.hasM ?a ?i ?l ?c ?k; (case a => k_is); (case i => k_is); (case l => k_is); (case c => k_is); (case k => k_is))
      (case m5 => refine' Cg.hasM ?a ?i ?l ?c ?k; (case a => k_is); (case i => k_is); (case l => k_is); (case c => k_is); (case k => k_is))
      (case m6 => refine' Cg.hasM ?a ?i ?l ?c ?k; (case a => k_is); (case i => k_is); (case l => k_is); (case c => k_is); (case k => k_is))
      (case m7 => refine' Cg.hasM ?a ?i ?l ?c ?k; (case a => k_is); (case i => k_is); (case l => k_is); (case c => k_is); (case k => k_is))
      (case m8 => refine' Cg.hasM ?a ?i ?l ?c ?k; (case a => k_is); (case i => k_is); (case l => k_is); (case c => k_is); (case k => k_is))
      (case m9 => refine' Cg.hasM ?a ?i ?l ?c ?k; (case a => k_is); (case i => k_is); (case l => k_is); (case c => k_is); (case k => k_is))
      (case m10 => refine' Cg.hasM ?a ?i ?l ?c ?k; (case a => k_is); (case i => k_is); (case l => k_is); (case c => k_is); (case k => k_is))
      (case m11 => refine' Cg.hasM ?a ?i ?l ?c ?k; (case a => k_is); (case i => k_is); (case l => k_is); (case c => k_is); (case k => k_is))
      (case m12 => refine' Cg.hasM ?a ?i ?l ?c ?k; (case a => k_is); (case i => k_is); (case l => k_is); (case c => k_is); (case k => k_is)))
    (case mC =>
      refine' ⟨?m0, ?m1, ?m2, ?m3, ?m4, ?m5, ?m6, ?m7, ?m8, ?m9, ?m10, ?m11, ?m12, ?m13, ?m14, ?m15, ?m16, ?m17, ?m18, ?m19, ?m20, ?m21, ?m22, ?m23, ?m24, ?m25, ?m26⟩
      (case m0 => refine' Cg.hasI ?mk ?kc ?a ?i ?l ?c ?k; (case mk => k_is); (case kc => k_is); (case a => k_is); (case i => k_is); (case l => k_is); (case c => k_is); (case k => k_is))
      (case m1 => refine' Cg.hasM ?a ?i ?l ?c ?k; (case a => k_is); (case i => k_is); (case l => k_is); (case c => k_is); (case k => k_is))
      (case m2 => refine' Cg.hasM ?a ?i ?l ?c ?k; (case a => k_is); (case i => k_is); (case l => k_is); (case c => k_is); (case k => k_is))
      (case m3 => refine' Cg.hasM ?a ?i ?l ?c ?k; (case a => k_is); (case i => k_is); (case l => k_is); (case c => k_is); (case k => k_is))
      (case m4 => refine' Cg.hasM ?a ?i ?l ?c ?k; (case a => k_is); (case i => k_is); (case l => k_is); (case c => k_is); (case k => k_is))
      (case m5 => refine' Cg.hasM ?a ?i ?l ?c ?k; (case a => k_is); (case i => k_is); (case l => k_is); (case c => k_is); (case k => k_is))
      (case m6 => refine' Cg.hasM ?a ?i ?l ?c ?k; (case a => k_is); (case i => k_is); (case l => k_is); (case c => k_is); (case k => k_is))
      (case m7 => refine' Cg.hasM ?a ?i ?l ?c ?k; (case a => k_is); (case i => k_is); (case l => k_is); (case c => k_is); (case k => k_is))
      (case m8 => refine' Cg.hasM ?a ?i ?l ?c ?k; (case a => k_is); (case i => k_is); (case l => k_is); (case c => k_is); (case k => k_is))
      (case m9 => refine' Cg.hasM ?a ?i ?l ?c ?k; (case a => k_is); (case i => k_is); (case l => k_is); (case c => k_is); (case k => k_is))
      (case m10 => refine' Cg.hasM ?a ?i ?l ?c ?k; (case a => k_is); (case i => k_is); (case l => k_is); (case c => k_is); (case k => k_is))
      (case m11 => refine' Cg.hasM ?a ?i ?l ?c ?k; (case a => k_is); (case i => k_is); (case l => k_is); (case c => k_is); (case k => k_is))
      (case m12 => refine' Cg.hasM ?a ?i ?l ?c ?k; (case a => k_is); (case i => k_is); (case l => k_is); (case c => k_is); (case k => k_is))
      (case m13 => refine' Cg.hasM ?a ?i ?l ?c ?k; (case a => k_is); (case i => k_is); (case l => k_is); (case c => k_is); (case k => k_is))
      (case m14 => refine' Cg.hasM ?a ?i ?l ?c ?k; (case a => k_is); (case i => k_is); (case l => k_is); (case c => k_is); (case k => k_is))
      (case m15 => refine' Cg.hasM ?a ?i ?l ?c ?k; (case a => k_is); (case i => k_is); (case l => k_is); (case c => k_is); (case k => k_is))
      (case m16 => refine' Cg.hasM ?a ?i ?l ?c ?k; (case a => k_is); (case i => k_is); (case l => k_is); (case c => k_is); (case k => k_is))
      (case m17 => refine' Cg.hasM ?a ?i ?l ?c ?k; (case a => k_is); (case i => k_is); (case l => k_is); (case c => k_is); (case k => k_is))
      (case m18 => refine' Cg.hasM ?a ?i ?l ?c ?k; (case a => k_is); (case i => k_is); (case l => k_is); (case c => k_is); (case k => k_is))
      (case m19 => refine' Cg.hasM ?a ?i ?l ?c ?k; (case a => k_is); (case i => k_is); (case l => k_is); (case c => k_is); (case k => k_is))
      (case m20 => refine' Cg.hasM ?a ?i ?l ?c ?k; (case a => k_is); (case i => k_is); (case l => k_is); (case c => k_is); (case k => k_is))
      (case m21 => refine' Cg.hasM ?a ?i ?l ?c ?k; (case a => k_is); (case i => k_is); (case l => k_is); (case c => k_is); (case k => k_is))
      (case m22 => refine' Cg.hasM ?a ?i ?l ?c ?k; (case a => k_is); (case i => k_is); (case l => k_is); (case c => k_is); (case k => k_is))
      (case m23 => refine' Cg.hasM ?a ?i ?l ?c ?k; (case a => k_is); (case i => k_is); (case l => k_is); (case c => k_is); (case k => k_is))
      (case m24 => refine' Cg.hasM ?a ?i ?l ?c ?k; (case a => k_is); (case i => k_is); (case l => k_is); (case c => k_is); (case k => k_is))
      (case m25 => refine' Cg.hasM ?a ?i ?l ?c ?k; (case a => k_is); (case i => k_is); (case l => k_is); (case c => k_is); (case k => k_is))
      (case m26 => refine' Cg.hasM ?a ?i ?l ?c ?k; (case a => k_is); (case i => k_is); (case l => k_is); (case c => k_is); (case k => k_is)))
    (case mX =>
      refine' ⟨?m0, ?m1, ?m2, ?m3⟩
      (case m0 => refine' Cg.hasI ?mk ?kc ?a ?i ?l ?c ?k; (case mk => k_is); (case kc => k_is); (case a => k_is); (case i => k_is); (case l => k_is); (case c => k_is); (case k => k_is))
      (case m1 => refine' Cg.hasM ?a ?i ?l ?c ?k; (case a => k_is); (case i => k_is); (case l => k_is); (case c => k_is); (case k => k_is))
      (case m2 => refine' Cg.hasM ?a ?i ?l ?c ?k; (case a => k_is); (case i => k_is); (case l => k_is); (case c => k_is); (case k => k_is))
      (case m3 => refine' Cg.hasM ?a ?i ?l ?c ?k; (case a => k_is); (case i => k_is); (case l => k_is); (case c => k_is); (case k => k_is)))
    (case ds =>
      refine' ⟨?m0, ?m1, ?m2, ?m3, ?m4, ?m5, ?m6⟩
      (case m0 => refine' Cg.hasD ?a ?l ?c ?k; (case a => k_is); (case l => k_is); (case c => k_is); (case k => k_is))
      (case m1 => refine' Cg.hasD ?a ?l ?c ?k; (case a => k_is); (case l => k_is); (case c => k_is); (case k => k_is))
      (case m2 => refine' Cg.hasD ?a ?l ?c ?k; (case a => k_is); (case l => k_is); (case c => k_is); (case k => k_is))
      (case m3 => refine' Cg.hasD ?a ?l ?c ?k; (case a => k_is); (case l => k_is); (case c => k_is); (case k => k_is))
      (case m4 => refine' Cg.hasD ?a ?l ?c ?k; (case a => k_is); (case l => k_is); (case c => k_is); (case k => k_is))
      (case m5 => refine' Cg.hasD ?a ?l ?c ?k; (case a => k_is); (case l => k_is); (case c => k_is); (case k => k_is))
      (case m6 => refine' Cg.hasD ?a ?l ?c ?k; (case a => k_is); (case l => k_is); (case c => k_is); (case k => k_is)))
  case S =>
    intro K H xs a hO hwi hask hx
    cases hx with
    | cons h1 h2 =>
      cases h2
      cases h1 with
      | lst hs ha =>
        have e := L2.ints_dw a.1 _ ha
        subst e
        exact ⟨_, a.1, rfl, hs, hask, fun H' p hp => .lst (L2.SqL.of hp) (L2.dw_ints _)⟩
