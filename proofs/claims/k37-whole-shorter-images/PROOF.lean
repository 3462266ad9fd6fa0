import PyProof.Rows.All
import Wide.All
import OpenK.AllK
import Wide.FinOn
import KE.KStateDown
import Lean
import HandS.ForMost
import HandS.WordsExc
import HandS.Defaults
import HandS.Head0
import HandS.Head1
import HandS.Head2
import HandS.HeadEnd
import HandS.HeadHook1
import HandS.HeadHook2
import HandS.CallLocal
import HandS.DictComp
import HandS.TupLen
import HandS.Sort
import HandS.SortRule
import HandS.Exc
import HandS.Walk
import HandS.Ends
import HandS.More
import HandS.Words
import PySem.Challenge.RW_plinth_k37_whole_shorter_images_agree
set_option Elab.async false
set_option linter.all false
set_option maxRecDepth 100000
set_option maxHeartbeats 0
namespace Pl
abbrev Node := Int × Int × Int
abbrev Tb := Int → Option Node

def SG : List Int := [33, 34, 35, 36, 38, 40, 41, 42, 43, 44, 45, 46, 60, 61, 63, 64, 92, 94, 95, 126]
def isLet (op : Int) : Bool := decide (65 ≤ op) && decide (op ≤ 90)
def isNop (op : Int) : Bool := !(isLet op || ((decide (97 ≤ op) && decide (op ≤ 122)) || decide (op ∈ SG)))
def fx (n : Int) : Bool := decide (0 ≤ n) && decide (n < 200)

structure Dt where
  stack : List Int
  store : List (Int × Int)
  place : Nat
  output : List Int
structure MS where
  at_ : Int
  back : List Int
  d : Dt

def sget : List (Int × Int) → Int → Int
  | [], _ => 0
  | (a, v) :: r, k => if a = k then v else sget r k
def sput : List (Int × Int) → Int → Int → List (Int × Int)
  | [], k, v => [(k, v)]
  | (a, w) :: r, k, v => if a = k then (a, v) :: r else (a, w) :: sput r k v

def top (l : List Int) : Int := l.getLast?.getD 0
def Dt.top (d : Dt) : Int := Pl.top d.stack
def Dt.pop (d : Dt) : Dt := { d with stack := d.stack.dropLast }
def Dt.push (d : Dt) (v : Int) : Dt := { d with stack := d.stack ++ [v] }
/-- pull two, push what f makes of them (x below, y on top) -/
def Dt.bin (d : Dt) (f : Int → Int → Int) : Dt := d.pop.pop.push (f d.pop.top d.top)
def b2 (b : Bool) : Int := if b then 1 else 0

def comb (op x y : Int) : Int :=
  if op = 43 then x + y else if op = 45 then x - y else if op = 42 then 10 * x + y else if op = 60 then b2 (decide (x < y)) else b2 (decide (x = y))

/-- the operations that touch data alone -/
def dact (nums : List Int) (op arg : Int) (d : Dt) : Dt :=
  if op = 35 then d.push arg
  else if op = 43 ∨ op = 45 ∨ op = 42 ∨ op = 60 ∨ op = 126 then d.bin (comb op)
  else if op = 64 then d.pop.push (sget d.store d.top)
  else if op = 33 then { d.pop.pop with store := sput d.store d.top d.pop.top }
  else if op = 61 then { d.pop with store := sput d.store arg d.top }
  else if op = 44 then (match nums[d.place]? with
    | some v => { d.push v with place := d.place + 1 }
    | none => d.push (-1))
  else if op = 94 then { d with place := 0 }
  else if op = 46 then { d.pop with output := d.output ++ [d.top] }
  else if op = 95 then d.pop
  else if op = 34 then (d.pop.push d.top).push d.top
  else if op = 92 then (d.pop.pop.push d.top).push d.pop.top
  else if 97 ≤ op ∧ op ≤ 122 then d.push (sget d.store op)
  else d

def lowIn (T : Tb) (a : Int) : Prop := 1 ≤ a ∧ a ≤ 199 ∧ (T a).isSome = true
instance (T : Tb) (a : Int) : Decidable (lowIn T a) := by unfold lowIn; infer_instance

/-- what the operation does, at already the successor -/
def act (T : Tb) (nums : List Int) (op arg : Int) (m : MS) : MS :=
  if op = 63 then (if m.d.top = 0 then { m with at_ := arg, d := m.d.pop } else { m with d := m.d.pop })
  else if op = 36 then (if lowIn T m.d.top then { at_ := m.d.top, back := m.back ++ [m.at_], d := m.d.pop } else { m with d := m.d.pop.push m.d.top })
  else if op = 41 then (if m.back = [] then m else { m with at_ := top m.back, back := m.back.dropLast })
  else if isLet op = true then { m with at_ := op, back := m.back ++ [m.at_] }
  else { m with d := dact nums op arg m.d }

def step (T : Tb) (nums : List Int) (m : MS) : Option MS :=
  match T m.at_ with
  | none => none
  | some (op, arg, s) => some (act T nums op arg { m with at_ := s })
def runN (T : Tb) (nums : List Int) : Nat → MS → Option MS
  | 0, m => some m
  | k + 1, m => (step T nums m).bind (runN T nums k)
def init : MS := ⟨0, [], ⟨[], [], 0, []⟩⟩

theorem runN_add (T : Tb) (nums : List Int) : ∀ (i j : Nat) (m : MS), runN T nums (i + j) m = (runN T nums i m).bind (runN T nums j)
  | 0, j, m => by simp [runN]
  | i + 1, j, m => by
    have e : i + 1 + j = (i + j) + 1 := by omega
    rw [e]
    show (step T nums m).bind (runN T nums (i + j)) = ((step T nums m).bind (runN T nums i)).bind (runN T nums j)
    cases h : step T nums m with
    | none => rfl
    | some m1 => exact runN_add T nums i j m1
theorem step_none {T : Tb} {nums : List Int} {m : MS} : step T nums m = none ↔ T m.at_ = none := by
  unfold step
  cases h : T m.at_ with
  | none => simp
  | some v => simp
theorem runN_some_le {T : Tb} {nums : List Int} {i j : Nat} {m m1 m2 : MS} (h1 : runN T nums i m = some m1) (e1 : T m1.at_ = none) (h2 : runN T nums j m = some m2) : j ≤ i := by
  by_cases q : j ≤ i
  · exact q
  · exfalso
    obtain ⟨k, rfl⟩ : ∃ k, j = i + (k + 1) := ⟨j - i - 1, by omega⟩
    rw [runN_add, h1] at h2
    have z : step T nums m1 = none := step_none.mpr e1
    simp [runN, z] at h2

def EndsAt (T : Tb) (nums : List Int) (s : Nat) (d : Dt) : Prop := ∃ m, runN T nums s init = some m ∧ T m.at_ = none ∧ m.d = d
theorem EndsAt.det {T : Tb} {nums : List Int} {s s' : Nat} {d d' : Dt} (a : EndsAt T nums s d) (b : EndsAt T nums s' d') : s = s' ∧ d = d' := by
  obtain ⟨m, h1, e1, q1⟩ := a
  obtain ⟨n, h2, e2, q2⟩ := b
  have l1 := runN_some_le h1 e1 h2
  have l2 := runN_some_le h2 e2 h1
  have e : s = s' := by omega
  subst e
  rw [h1] at h2
  cases h2
  exact ⟨rfl, by rw [← q1, ← q2]⟩

structure Rel (R : Int → Int → Prop) (m' m : MS) : Prop where
  d : m'.d = m.d
  at_ : R m'.at_ m.at_
  back : ∃ l : List (Int × Int), m'.back = l.map (·.1) ∧ m.back = l.map (·.2) ∧ ∀ p ∈ l, R p.1 p.2

structure Sim (T T' : Tb) (nums : List Int) (F G : Nat) (R : Int → Int → Prop) : Prop where
  start : R 0 0
  zero : T' 0 = none → T 0 = none
  stop : ∀ m' m, Rel R m' m → T' m'.at_ = none → ∃ j m1, j ≤ G ∧ runN T nums j m = some m1 ∧ T m1.at_ = none ∧ m1.d = m.d
  go : ∀ m' m m1', Rel R m' m → step T' nums m' = some m1' → ∃ j m1, 1 ≤ j ∧ j ≤ F ∧ runN T nums j m = some m1 ∧ Rel R m1' m1

/-- the new image T' agrees with the old one T; s' steps of a run of T' that ends are at most f s' of T -/
structure Agree (T T' : Tb) (f : Nat → Nat) : Prop where
  zero : T' 0 = none → T 0 = none
  fwd : ∀ nums s d, EndsAt T nums s d → ∃ s', s' ≤ s ∧ EndsAt T' nums s' d
  bwd : ∀ nums s' d, EndsAt T' nums s' d → ∃ s, s ≤ f s' ∧ EndsAt T nums s d

theorem Sim.fwd {T T' : Tb} {nums : List Int} {F G : Nat} {R : Int → Int → Prop} (S : Sim T T' nums F G R) :
    ∀ (s : Nat) (m' m me : MS), Rel R m' m → runN T nums s m = some me → T me.at_ = none → ∃ s' me', s' ≤ s ∧ runN T' nums s' m' = some me' ∧ T' me'.at_ = none ∧ me'.d = me.d := by
  intro s
  induction s using Nat.strongRecOn with
  | ind s ih =>
    intro m' m me r h e
    cases h' : step T' nums m' with
    | none =>
      have z := step_none.mp h'
      obtain ⟨j, m1, hj, h1, e1, q1⟩ := S.stop m' m r z
      have l1 := runN_some_le h e h1
      have l2 := runN_some_le h1 e1 h
      have ej : s = j := by omega
      subst ej
      rw [h] at h1
      cases h1
      exact ⟨0, m', Nat.zero_le _, rfl, z, by rw [r.d, q1]⟩
    | some m1' =>
      obtain ⟨j, m1, hj1, hj2, h1, r1⟩ := S.go m' m m1' r h'
      have l1 := runN_some_le h e h1
      obtain ⟨k, rfl⟩ : ∃ k, s = j + k := ⟨s - j, by omega⟩
      rw [runN_add, h1] at h
      obtain ⟨s', me', hs, hr, he, hd⟩ := ih k (by omega) m1' m1 me r1 h e
      refine ⟨s' + 1, me', by omega, ?_, he, hd⟩
      show (step T' nums m').bind (runN T' nums s') = some me'
      rw [h']
      exact hr
theorem Sim.bwd {T T' : Tb} {nums : List Int} {F G : Nat} {R : Int → Int → Prop} (S : Sim T T' nums F G R) :
    ∀ (s' : Nat) (m' m me' : MS), Rel R m' m → runN T' nums s' m' = some me' → T' me'.at_ = none → ∃ s me, s ≤ s' * F + G ∧ runN T nums s m = some me ∧ T me.at_ = none ∧ me.d = me'.d := by
  intro s'
  induction s' with
  | zero =>
    intro m' m me' r h e
    cases h
    obtain ⟨j, m1, hj, h1, e1, q1⟩ := S.stop m' m r e
    exact ⟨j, m1, by omega, h1, e1, by rw [q1, r.d]⟩
  | succ s' ih =>
    intro m' m me' r h e
    have h : (step T' nums m').bind (runN T' nums s') = some me' := h
    cases h' : step T' nums m' with
    | none => rw [h'] at h; cases h
    | some m1' =>
      rw [h'] at h
      obtain ⟨j, m1, hj1, hj2, h1, r1⟩ := S.go m' m m1' r h'
      obtain ⟨s, me, hs, hr, he, hd⟩ := ih m1' m1 me' r1 h e
      refine ⟨j + s, me, ?_, ?_, he, hd⟩
      · rw [Nat.add_mul]
        omega
      · rw [runN_add, h1]
        exact hr
theorem Rel.init {R : Int → Int → Prop} (h : R 0 0) : Rel R Pl.init Pl.init := ⟨rfl, h, [], rfl, rfl, fun _ z => nomatch z⟩
theorem agree_of_sim {T T' : Tb} {F G : Nat} {R : Int → Int → Prop} (S : ∀ nums, Sim T T' nums F G R) : Agree T T' (fun s => s * F + G) where
  zero := (S []).zero
  fwd := fun nums s d ⟨m, h, e, q⟩ => by
    obtain ⟨s', me', hs, hr, he, hd⟩ := (S nums).fwd s init init m (Rel.init (S nums).start) h e
    exact ⟨s', hs, me', hr, he, by rw [hd, q]⟩
  bwd := fun nums s' d ⟨m, h, e, q⟩ => by
    obtain ⟨s, me, hs, hr, he, hd⟩ := (S nums).bwd s' init init m (Rel.init (S nums).start) h e
    exact ⟨s, hs, me, hr, he, by rw [hd, q]⟩
theorem Agree.trans {T T' T'' : Tb} {f g : Nat → Nat} (a : Agree T T' f) (b : Agree T' T'' g) (mono : ∀ x y, x ≤ y → f x ≤ f y) : Agree T T'' (fun s => f (g s)) where
  zero := fun h => a.zero (b.zero h)
  fwd := fun nums s d h => by
    obtain ⟨s1, h1, e1⟩ := a.fwd nums s d h
    obtain ⟨s2, h2, e2⟩ := b.fwd nums s1 d e1
    exact ⟨s2, by omega, e2⟩
  bwd := fun nums s d h => by
    obtain ⟨s1, h1, e1⟩ := b.bwd nums s d h
    obtain ⟨s2, h2, e2⟩ := a.bwd nums s1 d e1
    exact ⟨s2, Nat.le_trans h2 (mono _ _ h1), e2⟩
theorem Agree.weaken {T T' : Tb} {f g : Nat → Nat} (a : Agree T T' f) (h : ∀ s, f s ≤ g s) : Agree T T' g :=
  ⟨a.zero, a.fwd, fun nums s d e => let ⟨s1, h1, e1⟩ := a.bwd nums s d e; ⟨s1, Nat.le_trans h1 (h s), e1⟩⟩

theorem top_map (l : List (Int × Int)) (f : Int × Int → Int) (h : l ≠ []) : top (l.map f) = f (l.getLast h) := by
  unfold top
  rw [List.getLast?_map, List.getLast?_eq_some_getLast h]
  rfl
theorem act_rel {T T' : Tb} {nums : List Int} {R : Int → Int → Prop} {op arg arg' : Int} {m' m : MS} (r : Rel R m' m)
    (ha : op = 35 ∨ op = 61 → arg' = arg) (hq : op = 63 → R arg' arg) (hl : isLet op = true → R op op)
    (hd : op = 36 → ∀ k, 1 ≤ k → k ≤ 199 → (T' k).isSome = (T k).isSome ∧ ((T k).isSome = true → R k k)) :
    Rel R (act T' nums op arg' m') (act T nums op arg m) := by
  obtain ⟨a', b', d'⟩ := m'
  obtain ⟨a, b, d⟩ := m
  obtain ⟨e, ra, l, e1, e2, hb⟩ := r
  simp only at e ra e1 e2
  subst e e1 e2
  unfold act
  by_cases h63 : op = 63
  · rw [if_pos h63, if_pos h63]
    by_cases ht : d'.top = 0
    · rw [if_pos ht, if_pos ht]
      exact ⟨rfl, hq h63, l, rfl, rfl, hb⟩
    · rw [if_neg ht, if_neg ht]
      exact ⟨rfl, ra, l, rfl, rfl, hb⟩
  rw [if_neg h63, if_neg h63]
  by_cases h36 : op = 36
  · rw [if_pos h36, if_pos h36]
    have hk := hd h36 d'.top
    by_cases ht : lowIn T d'.top
    · obtain ⟨k1, k2, k3⟩ := id ht
      have ht' : lowIn T' d'.top := ⟨k1, k2, by rw [(hk k1 k2).1]; exact k3⟩
      rw [if_pos ht, if_pos ht']
      refine ⟨rfl, (hk k1 k2).2 k3, l ++ [(a', a)], by simp, by simp, fun p hp => ?_⟩
      rcases List.mem_append.mp hp with hp | hp
      · exact hb p hp
      · rw [List.mem_singleton.mp hp]; exact ra
    · have ht' : ¬ lowIn T' d'.top := fun ⟨k1, k2, k3⟩ => ht ⟨k1, k2, by rw [← (hk k1 k2).1]; exact k3⟩
      rw [if_neg ht, if_neg ht']
      exact ⟨rfl, ra, l, rfl, rfl, hb⟩
  rw [if_neg h36, if_neg h36]
  by_cases h41 : op = 41
  · rw [if_pos h41, if_pos h41]
    by_cases hn : l = []
    · subst hn
      exact ⟨rfl, ra, [], rfl, rfl, hb⟩
    · rw [if_neg (by simpa using hn), if_neg (by simpa using hn)]
      refine ⟨rfl, ?_, l.dropLast, by simp, by simp, fun p hp => hb p ((List.dropLast_subset l) hp)⟩
      show R (top (l.map (·.1))) (top (l.map (·.2)))
      rw [top_map l _ hn, top_map l _ hn]
      exact hb _ (List.getLast_mem hn)
  rw [if_neg h41, if_neg h41]
  by_cases hL : isLet op = true
  · rw [if_pos hL, if_pos hL]
    refine ⟨rfl, hl hL, l ++ [(a', a)], by simp, by simp, fun p hp => ?_⟩
    rcases List.mem_append.mp hp with hp | hp
    · exact hb p hp
    · rw [List.mem_singleton.mp hp]; exact ra
  rw [if_neg hL, if_neg hL]
  refine ⟨?_, ra, l, rfl, rfl, hb⟩
  show dact nums op arg' d' = dact nums op arg d'
  unfold dact
  by_cases h35 : op = 35
  · rw [if_pos h35, if_pos h35, ha (Or.inl h35)]
  rw [if_neg h35, if_neg h35]
  by_cases h61 : op = 61
  · rw [ha (Or.inr h61)]
  · simp only [if_neg h61]

theorem nop_not {op : Int} (h : isNop op = true) : op ∉ SG ∧ isLet op = false ∧ ¬ (97 ≤ op ∧ op ≤ 122) := by
  unfold isNop at h
  simp only [Bool.not_eq_true', Bool.or_eq_false_iff, decide_eq_false_iff_not, Bool.and_eq_false_iff] at h
  refine ⟨h.2.2, h.1, ?_⟩
  rintro ⟨a, b⟩
  rcases h.2.1 with z | z
  · exact z a
  · exact z b
theorem act_nop {T : Tb} {nums : List Int} {op arg : Int} {m : MS} (h : isNop op = true) : act T nums op arg m = m := by
  obtain ⟨h1, h2, h3⟩ := nop_not h
  have n : ∀ k, k ∈ SG → op ≠ k := fun k hk e => h1 (e ▸ hk)
  unfold act
  rw [if_neg (n 63 (by decide)), if_neg (n 36 (by decide)), if_neg (n 41 (by decide)), if_neg (by rw [h2]; decide)]
  unfold dact
  rw [if_neg (n 35 (by decide)), if_neg (by
    rintro (z | z | z | z | z)
    · exact n 43 (by decide) z
    · exact n 45 (by decide) z
    · exact n 42 (by decide) z
    · exact n 60 (by decide) z
    · exact n 126 (by decide) z), if_neg (n 64 (by decide)), if_neg (n 33 (by decide)), if_neg (n 61 (by decide)), if_neg (n 44 (by decide)), if_neg (n 94 (by decide)), if_neg (n 46 (by decide)), if_neg (n 95 (by decide)),
    if_neg (n 34 (by decide)), if_neg (n 92 (by decide)), if_neg h3]
theorem step_nop {T : Tb} {nums : List Int} {op arg s : Int} {m : MS} (h : T m.at_ = some (op, arg, s)) (hn : isNop op = true) : step T nums m = some { m with at_ := s } := by
  unfold step
  rw [h]
  exact congrArg some (act_nop hn)
theorem step_act {T : Tb} {nums : List Int} {op arg s : Int} {m : MS} (h : T m.at_ = some (op, arg, s)) : step T nums m = some (act T nums op arg { m with at_ := s }) := by
  unfold step
  rw [h]
end Pl
namespace Pl

def suc (T : Tb) (n : Int) : Int := match T n with | some (_, _, s) => s | none => n
def nopAt (T : Tb) (n : Int) : Bool := match T n with | some (op, _, _) => isNop op | none => false
def it (T : Tb) (o : Int) : Nat → Int
  | 0 => o
  | i + 1 => suc T (it T o i)
theorem it_add (T : Tb) (o : Int) (i : Nat) : ∀ j, it T o (i + j) = it T (it T o i) j
  | 0 => rfl
  | j + 1 => by
    show suc T (it T o (i + j)) = suc T (it T (it T o i) j)
    rw [it_add T o i j]
theorem it_suc (T : Tb) (o : Int) (j : Nat) : it T (suc T o) j = it T o (j + 1) := by
  have e : j + 1 = 1 + j := by omega
  rw [e, it_add]
  rfl
/-- passing from o arrives at a after j nops -/
def Arr (T : Tb) (o a : Int) (j : Nat) : Prop := (∀ i, i < j → nopAt T (it T o i) = true) ∧ it T o j = a ∧ nopAt T a = false
def Ring (T : Tb) (o : Int) : Prop := ∀ i, nopAt T (it T o i) = true
def OnCyc (T : Tb) (o x : Int) : Prop := ∀ N, ∃ i, N ≤ i ∧ it T o i = x
def better (v y : Int) : Prop := (fx v = true ∧ (fx y = false ∨ v ≤ y)) ∨ (fx v = false ∧ fx y = false ∧ v ≤ y)
def RTgt (T : Tb) (o v : Int) : Prop := Ring T o ∧ OnCyc T o v ∧ ∀ y, OnCyc T o y → better v y
def Tgt (T : Tb) (o v : Int) : Prop := (∃ j, Arr T o v j) ∨ RTgt T o v

theorem better_anti {v y : Int} (a : better v y) (b : better y v) : v = y := by
  unfold better at a b
  rcases a with ⟨a1, a2⟩ | ⟨a1, a2, a3⟩ <;> rcases b with ⟨b1, b2⟩ | ⟨b1, b2, b3⟩
  · rcases a2 with a2 | a2
    · rw [a2] at b1; cases b1
    · rcases b2 with b2 | b2
      · rw [b2] at a1; cases a1
      · omega
  · rw [a1] at b2; cases b2
  · rw [b1] at a2; cases a2
  · omega
theorem OnCyc.suc_iff {T : Tb} {o x : Int} : OnCyc T (suc T o) x ↔ OnCyc T o x := by
  constructor
  · intro h N
    obtain ⟨i, hi, e⟩ := h N
    exact ⟨i + 1, by omega, by rw [← it_suc]; exact e⟩
  · intro h N
    obtain ⟨i, hi, e⟩ := h (N + 1)
    refine ⟨i - 1, by omega, ?_⟩
    rw [it_suc]
    have : i - 1 + 1 = i := by omega
    rw [this]
    exact e
theorem OnCyc.it_iff {T : Tb} {o x : Int} : ∀ i, OnCyc T (it T o i) x ↔ OnCyc T o x
  | 0 => Iff.rfl
  | i + 1 => by
    show OnCyc T (suc T (it T o i)) x ↔ OnCyc T o x
    rw [OnCyc.suc_iff]
    exact OnCyc.it_iff i
theorem Ring.at' {T : Tb} {o : Int} (h : Ring T o) (i : Nat) : Ring T (it T o i) := fun j => by
  rw [← it_add]
  exact h _
theorem Ring.suc_iff {T : Tb} {o : Int} (h : nopAt T o = true) : Ring T (suc T o) ↔ Ring T o := by
  constructor
  · intro q i
    cases i with
    | zero => exact h
    | succ i =>
      rw [← it_suc]
      exact q i
  · intro q i
    rw [it_suc]
    exact q _
theorem RTgt.suc_iff {T : Tb} {o v : Int} (h : nopAt T o = true) : RTgt T (suc T o) v ↔ RTgt T o v := by
  unfold RTgt
  rw [Ring.suc_iff h, OnCyc.suc_iff]
  constructor
  · rintro ⟨a, b, c⟩
    exact ⟨a, b, fun y hy => c y (OnCyc.suc_iff.mpr hy)⟩
  · rintro ⟨a, b, c⟩
    exact ⟨a, b, fun y hy => c y (OnCyc.suc_iff.mp hy)⟩
theorem RTgt.self {T : Tb} {o v : Int} (h : RTgt T o v) : RTgt T v v := by
  obtain ⟨a, b, c⟩ := h
  obtain ⟨i, _, e⟩ := b 0
  subst e
  exact ⟨a.at' i, (OnCyc.it_iff i).mpr b, fun y hy => c y ((OnCyc.it_iff i).mp hy)⟩
theorem RTgt.nop {T : Tb} {o v : Int} (h : RTgt T o v) : nopAt T v = true := h.self.1 0
theorem RTgt.nop0 {T : Tb} {o v : Int} (h : RTgt T o v) : nopAt T o = true := h.1 0
theorem Arr.uniq {T : Tb} {o a b : Int} {i j : Nat} (x : Arr T o a i) (y : Arr T o b j) : i = j ∧ a = b := by
  have e : i = j := by
    by_cases h1 : i < j
    · have := y.1 i h1
      rw [x.2.1, x.2.2] at this
      cases this
    · by_cases h2 : j < i
      · have := x.1 j h2
        rw [y.2.1, y.2.2] at this
        cases this
      · omega
  subst e
  exact ⟨rfl, x.2.1.symm.trans y.2.1⟩
theorem Arr.notRing {T : Tb} {o a : Int} {i : Nat} (x : Arr T o a i) : ¬ Ring T o := fun r => by
  have := r i
  rw [x.2.1, x.2.2] at this
  cases this
theorem Tgt.uniq {T : Tb} {o a b : Int} (x : Tgt T o a) (y : Tgt T o b) : a = b := by
  rcases x with ⟨i, x⟩ | x <;> rcases y with ⟨j, y⟩ | y
  · exact (x.uniq y).2
  · exact (x.notRing y.1).elim
  · exact (y.notRing x.1).elim
  · exact better_anti (x.2.2 _ y.2.1) (y.2.2 _ x.2.1)
theorem Arr.tail {T : Tb} {o a : Int} {j : Nat} (x : Arr T o a (j + 1)) : Arr T (suc T o) a j :=
  ⟨fun i hi => by rw [it_suc]; exact x.1 (i + 1) (by omega), by rw [it_suc]; exact x.2.1, x.2.2⟩
theorem Tgt.tail {T : Tb} {o v : Int} (h : Tgt T o v) (hn : nopAt T o = true) : Tgt T (suc T o) v := by
  rcases h with ⟨j, h⟩ | h
  · cases j with
    | zero =>
      have e : o = v := h.2.1
      rw [← e] at h
      rw [h.2.2] at hn
      cases hn
    | succ j => exact .inl ⟨j, h.tail⟩
  · exact .inr ((RTgt.suc_iff hn).mpr h)
theorem Tgt.plain {T : Tb} {o v : Int} (h : Tgt T o v) (hn : nopAt T o = false) : v = o := by
  rcases h with ⟨j, h⟩ | h
  · cases j with
    | zero => exact h.2.1.symm
    | succ j =>
      have := h.1 0 (by omega)
      rw [show it T o 0 = o from rfl, hn] at this
      cases this
  · rw [h.nop0] at hn
    cases hn
theorem nopAt_some {T : Tb} {o : Int} (h : nopAt T o = true) : ∃ op arg, T o = some (op, arg, suc T o) ∧ isNop op = true := by
  unfold nopAt at h
  cases e : T o with
  | none => rw [e] at h; cases h
  | some v =>
    obtain ⟨op, arg, s⟩ := v
    rw [e] at h
    refine ⟨op, arg, ?_, h⟩
    unfold suc
    rw [e]
theorem nopAt_of {T : Tb} {o op arg s : Int} (h : T o = some (op, arg, s)) : nopAt T o = isNop op := by
  unfold nopAt
  rw [h]
theorem suc_of {T : Tb} {o op arg s : Int} (h : T o = some (op, arg, s)) : suc T o = s := by
  unfold suc
  rw [h]
theorem run_pass {T : Tb} {nums : List Int} {o : Int} : ∀ (j : Nat) (m : MS), m.at_ = o → (∀ i, i < j → nopAt T (it T o i) = true) → runN T nums j m = some { m with at_ := it T o j }
  | 0, m, e, _ => by subst e; rfl
  | j + 1, m, e, h => by
    rw [runN_add, run_pass j m e fun i hi => h i (by omega)]
    obtain ⟨op, arg, h1, h2⟩ := nopAt_some (h j (by omega))
    show (step T nums { m with at_ := it T o j }).bind (runN T nums 0) = _
    rw [step_nop (m := { m with at_ := it T o j }) h1 h2]
    rfl

theorem it_period {T : Tb} {o : Int} {i p : Nat} (h : it T o i = it T o (i + p)) : ∀ k, it T o (i + k * p) = it T o i
  | 0 => by simp
  | k + 1 => by
    have e : i + (k + 1) * p = (i + k * p) + p := by rw [Nat.add_mul]; omega
    rw [e, it_add, it_period h k, ← it_add, ← h]
theorem it_shift {T : Tb} {o : Int} {i j : Nat} (h : it T o i = it T o j) (k : Nat) : it T o (i + k) = it T o (j + k) := by
  rw [it_add, it_add, h]
/-- two equal places on the way to an end: no -/
theorem Arr.inj {T : Tb} {o a : Int} {j : Nat} (x : Arr T o a j) {p q : Nat} (hp : p < q) (hq : q ≤ j) (h : it T o p = it T o q) : False := by
  have e := it_shift h (j - q)
  have e1 : q + (j - q) = j := by omega
  rw [e1, x.2.1] at e
  have := x.1 (p + (j - q)) (by omega)
  rw [e, x.2.2] at this
  cases this
theorem nodup_map_range {f : Nat → Int} : ∀ (n : Nat), (∀ p q, p < q → q < n → f p ≠ f q) → ((List.range n).map f).Nodup := by
  intro n h
  rw [List.nodup_iff_pairwise_ne, List.pairwise_map]
  have : (List.range n).Pairwise (fun a b => a < b) := List.pairwise_lt_range
  refine List.Pairwise.imp_of_mem (fun {a b} ha hb hab => ?_) this
  exact h a b hab (List.mem_range.mp hb)
theorem Arr.bound {T : Tb} {o a : Int} {j : Nat} (x : Arr T o a j) {ks : List Int} (hk : ∀ n v, T n = some v → n ∈ ks) : j ≤ ks.length := by
  have nd : ((List.range j).map (it T o)).Nodup := nodup_map_range j fun p q hp hq e => x.inj hp (Nat.le_of_lt hq) e
  have l := nd.length_le_of_subset (l₂ := ks) fun y hy => by
    obtain ⟨i, hi, e⟩ := List.mem_map.mp hy
    obtain ⟨op, arg, h1, _⟩ := nopAt_some (x.1 i (List.mem_range.mp hi))
    rw [← e]
    exact hk _ _ h1
  simpa using l
/-- on a ring: among the first |ks| + 1 places two are equal -/
theorem pigeon (f : Nat → Int) (ks : List Int) (h : ∀ i, i ≤ ks.length → f i ∈ ks) : ∃ p q, p < q ∧ q ≤ ks.length ∧ f p = f q := by
  apply Classical.byContradiction
  intro c
  have nd : ((List.range (ks.length + 1)).map f).Nodup := nodup_map_range _ fun p q hp hq e => c ⟨p, q, hp, by omega, e⟩
  have l := nd.length_le_of_subset (l₂ := ks) fun y hy => by
    obtain ⟨i, hi, e⟩ := List.mem_map.mp hy
    rw [← e]
    exact h i (by have := List.mem_range.mp hi; omega)
  simp at l
  omega
theorem Ring.period {T : Tb} {o : Int} (r : Ring T o) {ks : List Int} (hk : ∀ n v, T n = some v → n ∈ ks) : ∃ p, 1 ≤ p ∧ p ≤ ks.length ∧ it T (it T o ks.length) p = it T o ks.length := by
  obtain ⟨p, q, h1, h2, e⟩ := pigeon (it T o) ks fun i _ => by
    obtain ⟨op, arg, h1, _⟩ := nopAt_some (r i)
    exact hk _ _ h1
  refine ⟨q - p, by omega, by omega, ?_⟩
  have z := it_shift e (ks.length - p)
  have e1 : p + (ks.length - p) = ks.length := by omega
  have e2 : q + (ks.length - p) = ks.length + (q - p) := by omega
  rw [e1, e2, it_add] at z
  exact z.symm
/-- the ring collected from a place that comes back to itself after p + 1 steps is the cycle -/
theorem cyc_mem {T : Tb} {o : Int} {k p : Nat} (hp : it T (it T o k) (p + 1) = it T o k) (x : Int) : OnCyc T o x ↔ ∃ i, i < p + 1 ∧ it T (it T o k) i = x := by
  have per : ∀ n, it T (it T o k) (n * (p + 1)) = it T o k := fun n => by
    have := it_period (T := T) (o := it T o k) (i := 0) (p := p + 1) (by rw [Nat.zero_add]; exact hp.symm) n
    rw [Nat.zero_add] at this
    exact this
  rw [← OnCyc.it_iff k]
  constructor
  · intro h
    obtain ⟨i, _, e⟩ := h 0
    refine ⟨i % (p + 1), Nat.mod_lt _ (by omega), ?_⟩
    have e1 : i = (i / (p + 1)) * (p + 1) + i % (p + 1) := by rw [Nat.mul_comm]; exact (Nat.div_add_mod _ _).symm
    rw [← e]
    conv => rhs; rw [e1, it_add, per]
  · rintro ⟨i, _, e⟩ N
    refine ⟨N * (p + 1) + i, Nat.le_trans (Nat.le_mul_of_pos_right N (Nat.succ_pos p)) (Nat.le_add_right _ _), ?_⟩
    rw [it_add, per]
    exact e

structure ThreadSpec (T T' : Tb) : Prop where
  no : ∀ n, T n = none → T' n = none
  op : ∀ n op arg s, T n = some (op, arg, s) → isNop op = false → ∃ arg' s', Tgt T s s' ∧ (if op = 63 then Tgt T arg arg' else arg' = arg) ∧ T' n = some (op, arg', s')
  nop : ∀ n, nopAt T n = true → ∃ e, Tgt T n e ∧ ((nopAt T e = false ∧ (T e).isSome = true ∧ T' n = T' e) ∨ ((T e = none ∨ nopAt T e = true) ∧ T' n = some (32, 0, e)))
theorem nop32 : isNop 32 = true := by decide
def RT (T : Tb) (n o : Int) : Prop := n = o ∨ Tgt T o n
theorem thread_sim {T T' : Tb} (S : ThreadSpec T T') {ks : List Int} (hk : ∀ n v, T n = some v → n ∈ ks) (nums : List Int) : Sim T T' nums (ks.length + 1) ks.length (RT T) where
  start := .inl rfl
  zero := fun h => by
    cases e : T 0 with
    | none => rfl
    | some v =>
      exfalso
      obtain ⟨op, arg, s⟩ := v
      cases hn : isNop op with
      | false =>
        obtain ⟨_, _, _, _, q⟩ := S.op 0 op arg s e hn
        rw [q] at h; cases h
      | true =>
        obtain ⟨z, hz, q | q⟩ := S.nop 0 (by rw [nopAt_of e]; exact hn)
        · obtain ⟨q1, q2, q3⟩ := q
          cases e2 : T z with
          | none => rw [e2] at q2; cases q2
          | some v =>
            obtain ⟨op2, arg2, s2⟩ := v
            rw [nopAt_of e2] at q1
            obtain ⟨_, _, _, _, q5⟩ := S.op z op2 arg2 s2 e2 q1
            rw [q3, q5] at h; cases h
        · rw [q.2] at h; cases h
  stop := fun m' m r h => by
    have key : ∀ n, T' n = none → T n = none := fun n h => by
      cases e : T n with
      | none => rfl
      | some v =>
        exfalso
        obtain ⟨op, arg, s⟩ := v
        cases hn : isNop op with
        | false =>
          obtain ⟨_, _, _, _, q⟩ := S.op n op arg s e hn
          rw [q] at h; cases h
        | true =>
          obtain ⟨z, hz, q | q⟩ := S.nop n (by rw [nopAt_of e]; exact hn)
          · obtain ⟨q1, q2, q3⟩ := q
            cases e2 : T z with
            | none => rw [e2] at q2; cases q2
            | some v =>
              obtain ⟨op2, arg2, s2⟩ := v
              rw [nopAt_of e2] at q1
              obtain ⟨_, _, _, _, q5⟩ := S.op z op2 arg2 s2 e2 q1
              rw [q3, q5] at h; cases h
          · rw [q.2] at h; cases h
    have h := key _ h
    rcases r.at_ with e | ⟨j, a⟩ | a
    · exact ⟨0, m, Nat.zero_le _, rfl, by rw [← e]; exact h, rfl⟩
    · exact ⟨j, _, a.bound hk, run_pass j m rfl a.1, by show T (it T m.at_ j) = none; rw [a.2.1]; exact h, rfl⟩
    · have := a.nop
      unfold nopAt at this
      rw [h] at this
      cases this
  go := fun m' m m1' r h => by
    -- a node that is no nop, reached after j nops
    have real : ∀ (n : Int) (op arg s : Int) (j : Nat), T n = some (op, arg, s) → isNop op = false → Arr T m.at_ n j → T' m'.at_ = T' n → ∃ j m1, 1 ≤ j ∧ j ≤ ks.length + 1 ∧ runN T nums j m = some m1 ∧ Rel (RT T) m1' m1 := fun n op arg s j e hn a he => by
      obtain ⟨arg', s', q1, q2, q3⟩ := S.op n op arg s e hn
      rw [step_act (he.trans q3)] at h
      cases h
      refine ⟨j + 1, act T nums op arg { m with at_ := s }, by omega, Nat.succ_le_succ (a.bound hk), ?_, ?_⟩
      · rw [runN_add, run_pass j m rfl a.1, a.2.1]
        show (step T nums { m with at_ := n }).bind (runN T nums 0) = _
        rw [step_act (m := { m with at_ := n }) e]
        rfl
      · refine act_rel ⟨r.d, .inr q1, r.back⟩ (fun z => ?_) (fun z => ?_) (fun _ => .inl rfl) (fun _ k _ _ => ⟨?_, fun _ => .inl rfl⟩)
        · rw [if_neg (by omega)] at q2
          exact q2
        · rw [if_pos z] at q2
          exact .inr q2
        · cases e1 : T k with
          | none => rw [S.no k e1]
          | some v =>
            obtain ⟨op1, arg1, s1⟩ := v
            cases hn1 : isNop op1 with
            | false =>
              obtain ⟨_, _, _, _, q⟩ := S.op k op1 arg1 s1 e1 hn1
              rw [q]
              rfl
            | true =>
              obtain ⟨z, hz, q | q⟩ := S.nop k (by rw [nopAt_of e1]; exact hn1)
              · obtain ⟨q1, q2, q3⟩ := q
                cases e2 : T z with
                | none => rw [e2] at q2; cases q2
                | some v =>
                  obtain ⟨op2, arg2, s2⟩ := v
                  rw [nopAt_of e2] at q1
                  obtain ⟨_, _, _, _, q5⟩ := S.op z op2 arg2 s2 e2 q1
                  rw [q3, q5]
                  rfl
              · rw [q.2]
                rfl
    -- a step that is a nop's on both sides
    have dull : ∀ (e : Int), nopAt T m.at_ = true → T' m'.at_ = some (32, 0, e) → Tgt T (suc T m.at_) e → ∃ j m1, 1 ≤ j ∧ j ≤ ks.length + 1 ∧ runN T nums j m = some m1 ∧ Rel (RT T) m1' m1 := fun e hn q t => by
      rw [step_nop q nop32] at h
      cases h
      obtain ⟨op, arg, h1, h2⟩ := nopAt_some hn
      refine ⟨1, { m with at_ := suc T m.at_ }, Nat.le_refl _, by omega, ?_, r.d, .inr t, r.back⟩
      show (step T nums m).bind (runN T nums 0) = _
      rw [step_nop h1 h2]
      rfl
    have some' : ∃ v, T' m'.at_ = some v := by
      cases e : T' m'.at_ with
      | none =>
        rw [step_none.mpr e] at h
        cases h
      | some v => exact ⟨v, rfl⟩
    rcases r.at_ with e | ⟨j, a⟩ | a
    · -- the same number
      cases e1 : T m.at_ with
      | none =>
        obtain ⟨v, hv⟩ := some'
        rw [e, S.no _ e1] at hv
        cases hv
      | some v =>
        obtain ⟨op, arg, s⟩ := v
        cases hn : isNop op with
        | false => exact real m.at_ op arg s 0 e1 hn ⟨fun i hi => by omega, rfl, by rw [nopAt_of e1]; exact hn⟩ (by rw [e])
        | true =>
          have hn' : nopAt T m.at_ = true := by rw [nopAt_of e1]; exact hn
          obtain ⟨z, hz, ⟨q1, q2, q3⟩ | ⟨q1, q2⟩⟩ := S.nop m.at_ hn'
          · rcases hz with ⟨j, a⟩ | a
            · cases e2 : T z with
              | none => rw [e2] at q2; cases q2
              | some v =>
                obtain ⟨op2, arg2, s2⟩ := v
                rw [nopAt_of e2] at q1
                exact real z op2 arg2 s2 j e2 q1 a (by rw [e]; exact q3)
            · rw [a.nop] at q1
              cases q1
          · exact dull z hn' (by rw [e]; exact q2) (hz.tail hn')
    · -- the target, behind j nops
      cases e1 : T m'.at_ with
      | none =>
        obtain ⟨v, hv⟩ := some'
        rw [S.no _ e1] at hv
        cases hv
      | some v =>
        obtain ⟨op, arg, s⟩ := v
        have hn : isNop op = false := by rw [← nopAt_of e1]; exact a.2.2
        exact real m'.at_ op arg s j e1 hn a rfl
    · -- a ring
      obtain ⟨z, hz, ⟨q1, q2, q3⟩ | ⟨q1, q2⟩⟩ := S.nop m'.at_ a.nop
      · have ez : z = m'.at_ := hz.uniq (.inr a.self)
        rw [ez, a.nop] at q1
        cases q1
      · have ez : z = m'.at_ := hz.uniq (.inr a.self)
        rw [ez] at q2
        exact dull m'.at_ a.nop0 q2 (Tgt.tail (.inr a) a.nop0)
theorem thread_agree {T T' : Tb} (S : ThreadSpec T T') {ks : List Int} (hk : ∀ n v, T n = some v → n ∈ ks) : Agree T T' (fun s => s * (ks.length + 1) + ks.length) := agree_of_sim (thread_sim S hk)

def PR : List Int := [42, 43, 45, 60, 126]
def foldN (T : Tb) (nd : Node) : Node :=
  let (op, arg, s) := nd
  if op = 35 then
    match T s with
    | none => nd
    | some (op2, arg2, s2) =>
      match (if op2 = 35 then T s2 else none) with
      | some (op3, _, s3) => if op3 ∈ PR then (35, comb op3 arg arg2, s3) else nd
      | none => if op2 = 95 then (32, 0, s2) else if op2 = 63 then (if arg = 0 then (32, 0, arg2) else (32, 0, s2)) else nd
  else nd
def FoldSpec (T T' : Tb) : Prop := ∀ n, T' n = (T n).map (foldN T)
theorem top_push (d : Dt) (v : Int) : (d.push v).top = v := by
  unfold Dt.top Dt.push top
  simp
theorem pop_push (d : Dt) (v : Int) : (d.push v).pop = d := by
  unfold Dt.pop Dt.push
  simp
theorem act_push {T : Tb} {nums : List Int} {arg : Int} {m : MS} : act T nums 35 arg m = { m with d := m.d.push arg } := rfl
theorem act_drop {T : Tb} {nums : List Int} {arg : Int} {m : MS} : act T nums 95 arg m = { m with d := m.d.pop } := rfl
theorem act_test {T : Tb} {nums : List Int} {arg : Int} {m : MS} : act T nums 63 arg m = (if m.d.top = 0 then { m with at_ := arg, d := m.d.pop } else { m with d := m.d.pop }) := rfl
theorem act_pair {T : Tb} {nums : List Int} {op arg : Int} {m : MS} (h : op ∈ PR) : act T nums op arg m = { m with d := m.d.bin (comb op) } := by
  have h' : op = 42 ∨ op = 43 ∨ op = 45 ∨ op = 60 ∨ op = 126 := by simpa [PR] using h
  rcases h' with rfl | rfl | rfl | rfl | rfl <;> rfl
theorem fold_sim {T T' : Tb} (S : FoldSpec T T') (nums : List Int) : Sim T T' nums 3 0 (fun n o => n = o) where
  start := rfl
  zero := fun h => by
    rw [S 0] at h
    cases e : T 0 with
    | none => rfl
    | some v => rw [e] at h; cases h
  stop := fun m' m r h => by
    rw [S m'.at_, r.at_] at h
    refine ⟨0, m, Nat.le_refl _, rfl, ?_, rfl⟩
    cases e : T m.at_ with
    | none => rfl
    | some v => rw [e] at h; cases h
  go := fun m' m m1' r h => by
    have ea : m'.at_ = m.at_ := r.at_
    have hS := S m.at_
    cases e : T m.at_ with
    | none =>
      rw [step_none.mpr (by rw [ea, hS, e]; rfl)] at h
      cases h
    | some nd =>
      obtain ⟨op, arg, s⟩ := nd
      rw [e] at hS
      have hS : T' m.at_ = some (foldN T (op, arg, s)) := hS
      have mem : ∀ k, (T' k).isSome = (T k).isSome := fun k => by
        rw [S k]
        cases T k <;> rfl
      have same : foldN T (op, arg, s) = (op, arg, s) → ∃ j m1, 1 ≤ j ∧ j ≤ 3 ∧ runN T nums j m = some m1 ∧ Rel (fun n o => n = o) m1' m1 := fun q => by
        rw [q] at hS
        rw [step_act (by rw [ea]; exact hS)] at h
        cases h
        refine ⟨1, act T nums op arg { m with at_ := s }, Nat.le_refl _, by omega, ?_, act_rel ⟨r.d, rfl, r.back⟩ (fun _ => rfl) (fun _ => rfl) (fun _ => rfl) fun _ k _ _ => ⟨mem k, fun _ => rfl⟩⟩
        show (step T nums m).bind (runN T nums 0) = _
        rw [step_act e]
        rfl
      by_cases h35 : op = 35
      · subst h35
        have r1 : step T nums m = some { m with at_ := s, d := m.d.push arg } := by rw [step_act e, act_push]
        cases e2 : T s with
        | none => exact same (by simp [foldN, e2])
        | some nd2 =>
          obtain ⟨op2, arg2, s2⟩ := nd2
          have r2 : step T nums { m with at_ := s, d := m.d.push arg } = some (act T nums op2 arg2 { m with at_ := s2, d := m.d.push arg }) := step_act (m := { m with at_ := s, d := m.d.push arg }) e2
          by_cases hp : ∃ op3 arg3 s3, op2 = 35 ∧ T s2 = some (op3, arg3, s3) ∧ op3 ∈ PR
          · obtain ⟨op3, arg3, s3, rfl, e3, hp⟩ := hp
            have ef : foldN T (35, arg, s) = (35, comb op3 arg arg2, s3) := by simp [foldN, e2, e3, hp]
            rw [ef] at hS
            rw [step_act (by rw [ea]; exact hS), act_push] at h
            cases h
            refine ⟨3, { m with at_ := s3, d := m.d.push (comb op3 arg arg2) }, by omega, Nat.le_refl _, ?_, by show m'.d.push _ = m.d.push _; rw [r.d], rfl, r.back⟩
            show (step T nums m).bind (runN T nums 2) = _
            rw [r1]
            show (step T nums { m with at_ := s, d := m.d.push arg }).bind (runN T nums 1) = _
            rw [r2, act_push]
            show (step T nums { m with at_ := s2, d := (m.d.push arg).push arg2 }).bind (runN T nums 0) = _
            rw [step_act (m := { m with at_ := s2, d := (m.d.push arg).push arg2 }) e3, act_pair hp]
            show some _ = some _
            unfold Dt.bin
            simp only [top_push, pop_push]
          · have hin : ∀ (a b : Node), (match (if op2 = 35 then T s2 else none) with
              | some (op3, _, s3) => if op3 ∈ PR then ((35, comb op3 arg arg2, s3) : Node) else a
              | none => b) = (if op2 = 35 ∧ (T s2).isSome = true then a else b) := fun a b => by
              by_cases q : op2 = 35
              · rw [if_pos q]
                cases e3 : T s2 with
                | none => rw [if_neg (by simp)]
                | some nd3 =>
                  obtain ⟨op3, arg3, s3⟩ := nd3
                  rw [if_pos ⟨q, rfl⟩]
                  exact if_neg fun z => hp ⟨op3, arg3, s3, q, e3, z⟩
              · rw [if_neg q, if_neg fun z => q z.1]
            have ef : foldN T (35, arg, s) = (if op2 = 35 ∧ (T s2).isSome = true then (35, arg, s) else if op2 = 95 then (32, 0, s2) else if op2 = 63 then (if arg = 0 then (32, 0, arg2) else (32, 0, s2)) else (35, arg, s)) := by
              rw [← hin]
              simp [foldN, e2]
            by_cases h95 : op2 = 95
            · subst h95
              rw [if_neg (by rintro ⟨z, _⟩; omega), if_pos rfl] at ef
              rw [ef] at hS
              rw [step_nop (by rw [ea]; exact hS) nop32] at h
              cases h
              refine ⟨2, { m with at_ := s2 }, by omega, by omega, ?_, r.d, rfl, r.back⟩
              show (step T nums m).bind (runN T nums 1) = _
              rw [r1]
              show (step T nums { m with at_ := s, d := m.d.push arg }).bind (runN T nums 0) = _
              rw [r2, act_drop]
              show some _ = some _
              simp only [pop_push]
            · by_cases h63 : op2 = 63
              · subst h63
                rw [if_neg (by rintro ⟨z, _⟩; omega), if_neg (by omega), if_pos rfl] at ef
                have r3 : runN T nums 2 m = some { m with at_ := if arg = 0 then arg2 else s2 } := by
                  show (step T nums m).bind (runN T nums 1) = _
                  rw [r1]
                  show (step T nums { m with at_ := s, d := m.d.push arg }).bind (runN T nums 0) = _
                  rw [r2, act_test]
                  show some _ = some _
                  simp only [pop_push, top_push]
                  by_cases z : arg = 0
                  · rw [if_pos z, if_pos z]
                  · rw [if_neg z, if_neg z]
                rw [ef] at hS
                have ef2 : T' m'.at_ = some (32, 0, if arg = 0 then arg2 else s2) := by
                  rw [ea, hS]
                  by_cases z : arg = 0
                  · rw [if_pos z, if_pos z]
                  · rw [if_neg z, if_neg z]
                rw [step_nop ef2 nop32] at h
                cases h
                exact ⟨2, _, by omega, by omega, r3, r.d, rfl, r.back⟩
              · refine same ?_
                rw [ef, if_neg h95, if_neg h63]
                split <;> rfl
      · exact same (by simp [foldN, h35])
theorem fold_agree {T T' : Tb} (S : FoldSpec T T') : Agree T T' (fun s => s * 3 + 0) := agree_of_sim (fold_sim S)
end Pl
namespace Pl
inductive Reach (T : Tb) : Int → Prop
  | zero : Reach T 0
  | suc {n op arg s : Int} : Reach T n → T n = some (op, arg, s) → Reach T s
  | arg {n arg s : Int} : Reach T n → T n = some (63, arg, s) → Reach T arg
  | let_ {n op arg s : Int} : Reach T n → T n = some (op, arg, s) → isLet op = true → Reach T op
  | low {n arg s k : Int} : Reach T n → T n = some (36, arg, s) → 1 ≤ k → k ≤ 199 → (T k).isSome = true → Reach T k

theorem run1 {T : Tb} {nums : List Int} {m m1 : MS} (h : step T nums m = some m1) : runN T nums 1 m = some m1 := by
  show (step T nums m).bind (runN T nums 0) = _
  rw [h]
  rfl

def PruneSpec (T T' : Tb) : Prop := ∀ n, (Reach T n → T' n = T n) ∧ (¬ Reach T n → T' n = none)
theorem prune_sim {T T' : Tb} (S : PruneSpec T T') (nums : List Int) : Sim T T' nums 1 0 (fun n o => n = o ∧ Reach T n) where
  start := ⟨rfl, .zero⟩
  zero := fun h => by rw [← (S 0).1 .zero]; exact h
  stop := fun m' m r h => by
    obtain ⟨e, q⟩ := r.at_
    refine ⟨0, m, Nat.le_refl _, rfl, ?_, rfl⟩
    rw [← e, ← (S _).1 q]
    exact h
  go := fun m' m m1' r h => by
    obtain ⟨e, q⟩ := r.at_
    cases e1 : T m'.at_ with
    | none =>
      rw [step_none.mpr (((S _).1 q).trans e1)] at h
      cases h
    | some nd =>
      obtain ⟨op, arg, s⟩ := nd
      rw [step_act (((S _).1 q).trans e1)] at h
      cases h
      refine ⟨1, act T nums op arg { m with at_ := s }, Nat.le_refl _, Nat.le_refl _, run1 (step_act (by rw [← e]; exact e1)), act_rel ⟨r.d, ⟨rfl, .suc q e1⟩, r.back⟩ (fun _ => rfl) (fun z => ?_) (fun z => ⟨rfl, .let_ q e1 z⟩) fun z k k1 k2 => ?_⟩
      · subst z
        exact ⟨rfl, .arg q e1⟩
      · subst z
        cases e2 : T k with
        | none =>
          by_cases rk : Reach T k
          · rw [(S k).1 rk, e2]
            exact ⟨rfl, fun z => by cases z⟩
          · rw [(S k).2 rk]
            exact ⟨rfl, fun z => by cases z⟩
        | some v =>
          have rk : Reach T k := .low q e1 k1 k2 (by rw [e2]; rfl)
          rw [(S k).1 rk, e2]
          exact ⟨rfl, fun _ => ⟨rfl, rk⟩⟩
theorem prune_agree {T T' : Tb} (S : PruneSpec T T') : Agree T T' (fun s => s * 1 + 0) := agree_of_sim (prune_sim S)

structure RenumSpec (T T' : Tb) (names : Int → Int) : Prop where
  fix : ∀ n, Reach T n → fx n = true → names n = n
  free : ∀ n, Reach T n → fx n = false → 200 ≤ names n
  inj : ∀ n m, Reach T n → Reach T m → names n = names m → n = m
  yes : ∀ n, Reach T n → T' (names n) = (T n).map fun (nd : Node) => (nd.1, if nd.1 = 63 then names nd.2.1 else nd.2.1, names nd.2.2)
  no : ∀ k, (∀ n, Reach T n → names n ≠ k) → T' k = none
theorem fx_of {n : Int} (h1 : 0 ≤ n) (h2 : n < 200) : fx n = true := by
  unfold fx
  simp [h1, h2]
theorem renum_sim {T T' : Tb} {names : Int → Int} (S : RenumSpec T T' names) (nums : List Int) : Sim T T' nums 1 0 (fun n o => Reach T o ∧ n = names o) where
  start := ⟨.zero, (S.fix 0 .zero rfl).symm⟩
  zero := fun h => by
    have := S.yes 0 .zero
    rw [S.fix 0 .zero rfl, h] at this
    cases e : T 0 with
    | none => rfl
    | some v => rw [e] at this; cases this
  stop := fun m' m r h => by
    obtain ⟨q, e⟩ := r.at_
    refine ⟨0, m, Nat.le_refl _, rfl, ?_, rfl⟩
    have := S.yes _ q
    rw [← e, h] at this
    cases e : T m.at_ with
    | none => rfl
    | some v => rw [e] at this; cases this
  go := fun m' m m1' r h => by
    obtain ⟨q, e⟩ := r.at_
    have y := S.yes _ q
    rw [← e] at y
    cases e1 : T m.at_ with
    | none =>
      rw [e1] at y
      rw [step_none.mpr y] at h
      cases h
    | some nd =>
      obtain ⟨op, arg, s⟩ := nd
      rw [e1] at y
      have y : T' m'.at_ = some (op, if op = 63 then names arg else arg, names s) := y
      rw [step_act y] at h
      cases h
      refine ⟨1, _, Nat.le_refl _, Nat.le_refl _, run1 (step_act e1), act_rel ⟨r.d, ⟨.suc q e1, rfl⟩, r.back⟩ (fun z => ?_) (fun z => ?_) (fun z => ?_) fun z k k1 k2 => ?_⟩
      · exact if_neg (by omega)
      · subst z
        exact ⟨.arg q e1, if_pos rfl⟩
      · refine ⟨.let_ q e1 z, (S.fix op (.let_ q e1 z) ?_).symm⟩
        have z : (decide (65 ≤ op) && decide (op ≤ 90)) = true := z
        simp only [Bool.and_eq_true, decide_eq_true_eq] at z
        exact fx_of (by omega) (by omega)
      · subst z
        have fk : fx k = true := fx_of (by omega) (by omega)
        by_cases rk : Reach T k
        · have yk := S.yes k rk
          rw [S.fix k rk fk] at yk
          refine ⟨?_, fun _ => ⟨rk, (S.fix k rk fk).symm⟩⟩
          rw [yk]
          cases T k <;> rfl
        · have e2 : T k = none := by
            cases e2 : T k with
            | none => rfl
            | some v => exact (rk (.low q e1 k1 k2 (by rw [e2]; rfl))).elim
          rw [e2, S.no k fun n rn en => ?_]
          · exact ⟨rfl, fun z => by cases z⟩
          · cases hf : fx n with
            | true =>
              rw [S.fix n rn hf] at en
              exact rk (en ▸ rn)
            | false =>
              have := S.free n rn hf
              omega
theorem renum_agree {T T' : Tb} {names : Int → Int} (S : RenumSpec T T' names) : Agree T T' (fun s => s * 1 + 0) := agree_of_sim (renum_sim S)

def Like (found : Int → Int) : Option Node → Option Node → Prop
  | none, none => True
  | some (op, arg, s), some (op2, arg2, s2) => isNop op = isNop op2 ∧ (isNop op = false → op = op2) ∧ (op = 35 ∨ op = 61 → arg = arg2) ∧ found s = found s2 ∧ (op = 63 → found arg = found arg2)
  | _, _ => False
def mergeN (found chosen : Int → Int) (nd : Node) : Node :=
  (if isNop nd.1 then 32 else nd.1, if nd.1 = 63 then chosen (found nd.2.1) else if nd.1 = 35 ∨ nd.1 = 61 then nd.2.1 else 0, chosen (found nd.2.2))
def Kept (found chosen : Int → Int) (n : Int) : Prop := fx n = true ∨ chosen (found n) = n
structure MergeSpec (T T' : Tb) (found chosen : Int → Int) : Prop where
  like : ∀ n m, Reach T n → Reach T m → found n = found m → Like found (T n) (T m)
  rep : ∀ n, Reach T n → Reach T (chosen (found n)) ∧ found (chosen (found n)) = found n
  yes : ∀ n, Reach T n → Kept found chosen n → T' n = (T n).map (mergeN found chosen)
  no : ∀ n, ¬ (Reach T n ∧ Kept found chosen n) → T' n = none
def RM (T : Tb) (found chosen : Int → Int) (n o : Int) : Prop := Reach T n ∧ Reach T o ∧ found n = found o ∧ Kept found chosen n
theorem RM.rep {T T' : Tb} {found chosen : Int → Int} (S : MergeSpec T T' found chosen) {a b : Int} (ra : Reach T a) (rb : Reach T b) (e : found a = found b) : RM T found chosen (chosen (found a)) b :=
  ⟨(S.rep a ra).1, rb, (S.rep a ra).2.trans e, .inr (congrArg chosen (S.rep a ra).2)⟩
theorem merge_sim {T T' : Tb} {found chosen : Int → Int} (S : MergeSpec T T' found chosen) (nums : List Int) : Sim T T' nums 1 0 (RM T found chosen) where
  start := ⟨.zero, .zero, rfl, .inl rfl⟩
  zero := fun h => by
    have := S.yes 0 .zero (.inl rfl)
    rw [h] at this
    cases e : T 0 with
    | none => rfl
    | some v => rw [e] at this; cases this
  stop := fun m' m r h => by
    obtain ⟨r1, r2, ef, hk⟩ := r.at_
    refine ⟨0, m, Nat.le_refl _, rfl, ?_, rfl⟩
    have y := S.yes _ r1 hk
    rw [h] at y
    have l := S.like _ _ r1 r2 ef
    cases e : T m'.at_ with
    | some v => rw [e] at y; cases y
    | none =>
      rw [e] at l
      cases e2 : T m.at_ with
      | none => rfl
      | some v => rw [e2] at l; exact l.elim
  go := fun m' m m1' r h => by
    obtain ⟨r1, r2, ef, hk⟩ := r.at_
    have y := S.yes _ r1 hk
    have l := S.like _ _ r1 r2 ef
    cases e : T m'.at_ with
    | none =>
      rw [e] at y
      rw [step_none.mpr y] at h
      cases h
    | some nd =>
      obtain ⟨op, arg, s⟩ := nd
      rw [e] at y l
      cases e2 : T m.at_ with
      | none => rw [e2] at l; exact l.elim
      | some nd2 =>
        obtain ⟨op2, arg2, s2⟩ := nd2
        rw [e2] at l
        obtain ⟨l1, l2, l3, l4, l5⟩ := l
        have hs : RM T found chosen (chosen (found s)) s2 := RM.rep S (.suc r1 e) (.suc r2 e2) l4
        have y : T' m'.at_ = some (if isNop op = true then 32 else op, if op = 63 then chosen (found arg) else if op = 35 ∨ op = 61 then arg else 0, chosen (found s)) := y
        cases hn : isNop op with
        | true =>
          rw [hn, if_pos rfl] at y
          rw [step_nop y nop32] at h
          cases h
          rw [hn] at l1
          exact ⟨1, _, Nat.le_refl _, Nat.le_refl _, run1 (step_nop e2 l1.symm), r.d, hs, r.back⟩
        | false =>
          have eo := l2 hn
          subst eo
          rw [hn, if_neg (by decide)] at y
          rw [step_act y] at h
          cases h
          refine ⟨1, _, Nat.le_refl _, Nat.le_refl _, run1 (step_act e2), act_rel ⟨r.d, hs, r.back⟩ (fun z => ?_) (fun z => ?_) (fun z => ?_) fun z k k1 k2 => ?_⟩
          · rw [if_neg (by omega), if_pos z]
            exact l3 z
          · rw [if_pos z]
            subst z
            exact RM.rep S (.arg r1 e) (.arg r2 e2) (l5 rfl)
          · have z' : (decide (65 ≤ op) && decide (op ≤ 90)) = true := z
            simp only [Bool.and_eq_true, decide_eq_true_eq] at z'
            exact ⟨.let_ r1 e z, .let_ r1 e z, rfl, .inl (fx_of (by omega) (by omega))⟩
          · subst z
            have fk : fx k = true := fx_of (by omega) (by omega)
            by_cases rk : Reach T k
            · refine ⟨?_, fun _ => ⟨rk, rk, rfl, .inl fk⟩⟩
              rw [S.yes k rk (.inl fk)]
              cases T k <;> rfl
            · have e3 : T k = none := by
                cases e3 : T k with
                | none => rfl
                | some v => exact (rk (.low r1 e k1 k2 (by rw [e3]; rfl))).elim
              rw [e3, S.no k fun z => rk z.1]
              exact ⟨rfl, fun z => by cases z⟩
theorem merge_agree {T T' : Tb} {found chosen : Int → Int} (S : MergeSpec T T' found chosen) : Agree T T' (fun s => s * 1 + 0) := agree_of_sim (merge_sim S)

def bd (k : Nat) (s : Nat) : Nat := (s + 1) * (3 * ((k + 2) * (k + 2)))
theorem bd1 (k s : Nat) : s * 1 + 0 ≤ bd k s := by
  unfold bd
  have h : 1 ≤ 3 * ((k + 2) * (k + 2)) := by
    have : 0 < (k + 2) * (k + 2) := Nat.mul_pos (by omega) (by omega)
    omega
  have := Nat.mul_le_mul_left (s + 1) h
  omega
theorem sq_ge (k : Nat) : 4 ≤ (k + 2) * (k + 2) ∧ k + 2 ≤ (k + 2) * (k + 2) := by
  constructor
  · have := Nat.mul_le_mul (show 2 ≤ k + 2 by omega) (show 2 ≤ k + 2 by omega)
    omega
  · have := Nat.mul_le_mul_right (k + 2) (show 1 ≤ k + 2 by omega)
    omega
theorem bd3 (k s : Nat) : s * 3 + 0 ≤ bd k s := by
  unfold bd
  have := (sq_ge k).1
  have := Nat.mul_le_mul_left (s + 1) (show 3 ≤ 3 * ((k + 2) * (k + 2)) by omega)
  omega
theorem bdT {k l : Nat} (h : l ≤ k) (s : Nat) : s * (l + 1) + l ≤ bd k s := by
  unfold bd
  have := (sq_ge k).2
  have h1 := Nat.mul_le_mul_left (s + 1) (show l + 1 ≤ 3 * ((k + 2) * (k + 2)) by omega)
  rw [Nat.add_mul s 1 (l + 1)] at h1
  omega
/-- l1: keys of the image's table (threaded first), l2: of the folded one's -/
theorem bdTrim {k l1 l2 : Nat} (h1 : l1 ≤ k) (h2 : l2 ≤ k) (s : Nat) : ((s * (l2 + 1) + l2) * 3) * (l1 + 1) + l1 ≤ bd k s := by
  unfold bd
  have a : s * (l2 + 1) + l2 ≤ (s + 1) * (k + 1) := by
    have := Nat.mul_le_mul_left s (show l2 + 1 ≤ k + 1 by omega)
    rw [Nat.add_mul]
    omega
  have b : ((s * (l2 + 1) + l2) * 3) * (l1 + 1) ≤ ((s + 1) * (k + 1) * 3) * (k + 1) := Nat.mul_le_mul (Nat.mul_le_mul_right 3 a) (by omega)
  have c : (s + 1) * (3 * ((k + 2) * (k + 2))) = ((s + 1) * (k + 1) * 3) * (k + 1) + (s + 1) * (3 * (2 * k + 3)) := by
    have e : (k + 2) * (k + 2) = (k + 1) * (k + 1) + (2 * k + 3) := by
      rw [show k + 2 = (k + 1) + 1 from rfl, Nat.add_mul, Nat.mul_add]
      omega
    rw [e, Nat.mul_add, Nat.mul_add]
    congr 1
    rw [Nat.mul_assoc (s + 1), Nat.mul_assoc (s + 1), Nat.mul_comm (k + 1) 3, Nat.mul_assoc 3]
  rw [c]
  have d : 1 * (3 * (2 * k + 3)) ≤ (s + 1) * (3 * (2 * k + 3)) := Nat.mul_le_mul_right _ (by omega)
  omega
/-- what the law asks of two tables -/
abbrev Good (k : Nat) (T T' : Tb) : Prop := Agree T T' (bd k)
theorem good_thread {k : Nat} {T T' : Tb} (S : ThreadSpec T T') {ks : List Int} (hk : ∀ n v, T n = some v → n ∈ ks) (hl : ks.length ≤ k) : Good k T T' := (thread_agree S hk).weaken fun s => bdT hl s
theorem good_fold {k : Nat} {T T' : Tb} (S : FoldSpec T T') : Good k T T' := (fold_agree S).weaken fun s => bd3 k s
theorem good_prune {k : Nat} {T T' : Tb} (S : PruneSpec T T') : Good k T T' := (prune_agree S).weaken fun s => bd1 k s
theorem good_renum {k : Nat} {T T' : Tb} {names : Int → Int} (S : RenumSpec T T' names) : Good k T T' := (renum_agree S).weaken fun s => bd1 k s
theorem good_merge {k : Nat} {T T' : Tb} {found chosen : Int → Int} (S : MergeSpec T T' found chosen) : Good k T T' := (merge_agree S).weaken fun s => bd1 k s
theorem good_trim {k : Nat} {T T1 T2 T3 T4 : Tb} {names : Int → Int} (S1 : ThreadSpec T T1) {ks : List Int} (hk : ∀ n v, T n = some v → n ∈ ks) (hl : ks.length ≤ k) (S2 : FoldSpec T1 T2) (S3 : ThreadSpec T2 T3) {ks2 : List Int} (hk2 : ∀ n v, T2 n = some v → n ∈ ks2) (hl2 : ks2.length ≤ k)
    (S4 : RenumSpec T3 T4 names) : Good k T T4 := by
  have a := (thread_agree S1 hk).trans (fold_agree S2) (fun x y h => by have := Nat.mul_le_mul_right (ks.length + 1) h; omega)
  have b := a.trans (thread_agree S3 hk2) (fun x y h => by
    have := Nat.mul_le_mul_right (ks.length + 1) (show x * 3 + 0 ≤ y * 3 + 0 by omega)
    omega)
  have c := b.trans (renum_agree S4) (fun x y h => by
    have h1 := Nat.mul_le_mul_right (ks2.length + 1) h
    have h2 := Nat.mul_le_mul_right (ks.length + 1) (show (x * (ks2.length + 1) + ks2.length) * 3 + 0 ≤ (y * (ks2.length + 1) + ks2.length) * 3 + 0 by omega)
    omega)
  refine c.weaken fun s => ?_
  have := bdTrim hl hl2 s
  simp only [Nat.mul_one, Nat.add_zero] at this ⊢
  exact this
end Pl
namespace Pl
theorem ring_of_repeat {T : Tb} {o : Int} {i q : Nat} (h : ∀ k, k < i → nopAt T (it T o k) = true) (hq : q < i) (e : it T o i = it T o q) : Ring T o := by
  intro k
  induction k using Nat.strongRecOn with
  | ind k ih =>
    by_cases hk : k < i
    · exact h k hk
    · have z := it_shift e (k - i)
      have e1 : i + (k - i) = k := by omega
      rw [e1] at z
      rw [z]
      exact ih (q + (k - i)) (by omega)
theorem arr_or_ring (T : Tb) (o : Int) : (∃ a j, Arr T o a j) ∨ Ring T o := by
  by_cases h : Ring T o
  · exact .inr h
  · left
    have h2 : ∃ i, nopAt T (it T o i) = false := by
      apply Classical.byContradiction
      intro c
      exact h fun i => by
        cases e : nopAt T (it T o i) with
        | true => rfl
        | false => exact (c ⟨i, e⟩).elim
    obtain ⟨i, hi⟩ := h2
    have key : ∀ i, nopAt T (it T o i) = false → ∃ j, (∀ k, k < j → nopAt T (it T o k) = true) ∧ nopAt T (it T o j) = false := by
      intro i
      induction i using Nat.strongRecOn with
      | ind i ih =>
        intro hi
        by_cases c : ∃ k, k < i ∧ nopAt T (it T o k) = false
        · obtain ⟨k, hk, e⟩ := c
          exact ih k hk e
        · refine ⟨i, fun k hk => ?_, hi⟩
          cases e : nopAt T (it T o k) with
          | true => rfl
          | false => exact (c ⟨k, hk, e⟩).elim
    obtain ⟨j, a, b⟩ := key i hi
    exact ⟨_, j, a, rfl, b⟩
/-- the places passed so far -/
def trail (T : Tb) (o : Int) (i : Nat) : List Int := (List.range i).map (it T o)
theorem trail_succ (T : Tb) (o : Int) (i : Nat) : trail T o (i + 1) = trail T o i ++ [it T o i] := by
  unfold trail
  rw [List.range_succ, List.map_append]
  rfl
theorem mem_trail {T : Tb} {o x : Int} {i : Nat} : x ∈ trail T o i ↔ ∃ k, k < i ∧ it T o k = x := by
  unfold trail
  constructor
  · intro h
    obtain ⟨k, hk, e⟩ := List.mem_map.mp h
    exact ⟨k, List.mem_range.mp hk, e⟩
  · rintro ⟨k, hk, e⟩
    exact List.mem_map.mpr ⟨k, List.mem_range.mpr hk, e⟩
theorem trail_len (T : Tb) (o : Int) (i : Nat) : (trail T o i).length = i := by
  unfold trail
  rw [List.length_map, List.length_range]
/-- what the ring's loops find is the target: r is the cycle from x0 = it T o k -/
theorem tgt_of_ring {T : Tb} {o v : Int} {k m : Nat} (r : Ring T o) (hp : it T (it T o k) (m + 1) = it T o k) (hv : v ∈ trail T (it T o k) (m + 1))
    (hb : (fx v = true ∧ ∀ y ∈ trail T (it T o k) (m + 1), fx y = true → v ≤ y) ∨ ((∀ y ∈ trail T (it T o k) (m + 1), fx y = false) ∧ ∀ y ∈ trail T (it T o k) (m + 1), v ≤ y)) : Tgt T o v := by
  refine .inr ⟨r, (cyc_mem hp v).mpr (mem_trail.mp hv), fun y hy => ?_⟩
  have hy' : y ∈ trail T (it T o k) (m + 1) := mem_trail.mpr ((cyc_mem hp y).mp hy)
  rcases hb with ⟨h1, h2⟩ | ⟨h1, h2⟩
  · refine .inl ⟨h1, ?_⟩
    cases e : fx y with
    | false => exact .inl rfl
    | true => exact .inr (h2 y hy' e)
  · exact .inr ⟨h1 v hv, h1 y hy', h2 y hy'⟩
end Pl
namespace Pl
def Way (T : Tb) (n x : Int) : Prop := ∃ op arg s, T n = some (op, arg, s) ∧ (x = s ∨ (op = 63 ∧ x = arg) ∨ (isLet op = true ∧ x = op) ∨ (op = 36 ∧ (1 ≤ x ∧ x ≤ 199) ∧ (T x).isSome = true))
theorem Way.reach {T : Tb} {n x : Int} (h : Way T n x) (r : Reach T n) : Reach T x := by
  obtain ⟨op, arg, s, e, q⟩ := h
  rcases q with rfl | ⟨rfl, rfl⟩ | ⟨hl, rfl⟩ | ⟨rfl, ⟨h1, h2⟩, h3⟩
  · exact .suc r e
  · exact .arg r e
  · exact .let_ r e hl
  · exact .low r e h1 h2 h3
theorem reach_min {T : Tb} {S : List Int} (z : (0 : Int) ∈ S) (c : ∀ n, n ∈ S → ∀ x, Way T n x → x ∈ S) : ∀ {x}, Reach T x → x ∈ S := by
  intro x r
  induction r with
  | zero => exact z
  | suc _ e ih => exact c _ ih _ ⟨_, _, _, e, .inl rfl⟩
  | arg _ e ih => exact c _ ih _ ⟨_, _, _, e, .inr (.inl ⟨rfl, rfl⟩)⟩
  | let_ _ e hl ih => exact c _ ih _ ⟨_, _, _, e, .inr (.inr (.inl ⟨hl, rfl⟩))⟩
  | low _ e h1 h2 h3 ih => exact c _ ih _ ⟨_, _, _, e, .inr (.inr (.inr ⟨rfl, ⟨h1, h2⟩, h3⟩))⟩
/-- S the numbers met, q the queue, n a number in work (none: n in q) -/
structure RI (T : Tb) (S q : List Int) : Prop where
  nd : S.Nodup
  re : ∀ x, x ∈ S → Reach T x
  z : (0 : Int) ∈ S
  qs : ∀ x, x ∈ q → x ∈ S
  cl : ∀ n, n ∈ S → n ∈ q ∨ ∀ x, Way T n x → x ∈ S
theorem RI.start (T : Tb) : RI T [0] [0] := ⟨by simp, fun x h => by rw [List.mem_singleton.mp h]; exact .zero, by simp, fun x h => h, fun n h => .inl h⟩
theorem RI.done {T : Tb} {S : List Int} (h : RI T S []) (x : Int) : x ∈ S ↔ Reach T x :=
  ⟨h.re x, fun r => reach_min h.z (fun n hn y hy => (h.cl n hn).elim (fun z => nomatch z) fun z => z y hy) r⟩
/-- within a turn: n was taken off, the first j of its ways are met -/
structure RW (T : Tb) (S q : List Int) (n : Int) (ws : List Int) (j : Nat) : Prop where
  nd : S.Nodup
  re : ∀ x, x ∈ S → Reach T x
  z : (0 : Int) ∈ S
  qs : ∀ x, x ∈ q → x ∈ S
  nS : n ∈ S
  cl : ∀ m, m ∈ S → m ∈ q ∨ m = n ∨ ∀ x, Way T m x → x ∈ S
  ws : ∀ x, x ∈ ws.take j → x ∈ S
theorem RI.turn {T : Tb} {S q : List Int} {n : Int} (h : RI T S (q ++ [n])) (ws : List Int) : RW T S q n ws 0 where
  nd := h.nd
  re := h.re
  z := h.z
  qs := fun x hx => h.qs x (List.mem_append_left _ hx)
  nS := h.qs n (by simp)
  cl := fun m hm => (h.cl m hm).elim (fun z => (List.mem_append.mp z).elim .inl fun y => .inr (.inl (List.mem_singleton.mp y))) fun z => .inr (.inr z)
  ws := fun x hx => by cases hx
theorem RW.old {T : Tb} {S q : List Int} {n x : Int} {ws : List Int} {j : Nat} (h : RW T S q n ws j) (e : ws[j]? = some x) (hx : x ∈ S) : RW T S q n ws (j + 1) :=
  ⟨h.nd, h.re, h.z, h.qs, h.nS, h.cl, fun y hy => by
    rw [List.take_add_one, e] at hy
    rcases List.mem_append.mp hy with z | z
    · exact h.ws y z
    · rw [List.mem_singleton.mp z]; exact hx⟩
theorem RW.new {T : Tb} {S q : List Int} {n x : Int} {ws : List Int} {j : Nat} (h : RW T S q n ws j) (e : ws[j]? = some x) (hx : ¬ x ∈ S) (hw : ∀ y, y ∈ ws → Way T n y) : RW T (S ++ [x]) (q ++ [x]) n ws (j + 1) where
  nd := by
    rw [List.nodup_append]
    refine ⟨h.nd, by simp, fun a ha b hb c => hx ?_⟩
    rw [List.mem_singleton.mp hb] at c
    exact c ▸ ha
  re := fun y hy => by
    rcases List.mem_append.mp hy with z | z
    · exact h.re y z
    · rw [List.mem_singleton.mp z]
      exact (hw x (List.mem_of_getElem? e)).reach (h.re n h.nS)
  z := List.mem_append_left _ h.z
  qs := fun y hy => by
    rcases List.mem_append.mp hy with z | z
    · exact List.mem_append_left _ (h.qs y z)
    · exact List.mem_append_right _ z
  nS := List.mem_append_left _ h.nS
  cl := fun m hm => by
    rcases List.mem_append.mp hm with z | z
    · rcases h.cl m z with y | y | y
      · exact .inl (List.mem_append_left _ y)
      · exact .inr (.inl y)
      · exact .inr (.inr fun a ha => List.mem_append_left _ (y a ha))
    · exact .inl (List.mem_append_right _ z)
  ws := fun y hy => by
    rw [List.take_add_one, e] at hy
    rcases List.mem_append.mp hy with z | z
    · exact List.mem_append_left _ (h.ws y z)
    · exact List.mem_append_right _ z
theorem RW.fin {T : Tb} {S q : List Int} {n : Int} {ws : List Int} (h : RW T S q n ws ws.length) (hw : ∀ y, Way T n y → y ∈ ws) : RI T S q where
  nd := h.nd
  re := h.re
  z := h.z
  qs := h.qs
  cl := fun m hm => by
    rcases h.cl m hm with y | y | y
    · exact .inl y
    · refine .inr fun x hx => h.ws x ?_
      rw [List.take_length]
      rw [y] at hx
      exact hw x hx
    · exact .inr y
end Pl
namespace Pl
def RelNode (T : Tb) (nd nd' : Node) : Prop := nd'.1 = nd.1 ∧ Tgt T nd.2.2 nd'.2.2 ∧ (if nd.1 = 63 then Tgt T nd.2.1 nd'.2.1 else nd'.2.1 = nd.2.1)
structure Th1 (T : Tb) (dn : Int → Prop) (T1 : Tb) : Prop where
  op : ∀ n nd, dn n → T n = some nd → isNop nd.1 = false → ∃ nd', T1 n = some nd' ∧ RelNode T nd nd'
  dom : ∀ n nd', T1 n = some nd' → dn n ∧ nopAt T n = false ∧ (T n).isSome = true
theorem nopAt_nd {T : Tb} {n : Int} {nd : Node} (h : T n = some nd) : nopAt T n = isNop nd.1 := by
  unfold nopAt
  rw [h]
theorem Th1.put {T T1 T1' : Tb} {dn dn' : Int → Prop} {n : Int} {nd nd' : Node} (h : Th1 T dn T1) (e : T n = some nd) (hn : isNop nd.1 = false) (r : RelNode T nd nd') (he : ∀ m, T1' m = if m = n then some nd' else T1 m) (hd : ∀ m, dn' m ↔ dn m ∨ m = n) : Th1 T dn' T1' where
  op := fun m md hm em hk => by
    rw [he]
    by_cases q : m = n
    · rw [if_pos q]
      rw [q, e] at em
      cases em
      exact ⟨nd', rfl, r⟩
    · rw [if_neg q]
      exact h.op m md (((hd m).mp hm).resolve_right q) em hk
  dom := fun m md em => by
    rw [he] at em
    by_cases q : m = n
    · rw [q]
      exact ⟨(hd n).mpr (.inr rfl), by rw [nopAt_nd e]; exact hn, by rw [e]; rfl⟩
    · rw [if_neg q] at em
      obtain ⟨a, b, c⟩ := h.dom m md em
      exact ⟨(hd m).mpr (.inl a), b, c⟩
theorem Th1.skip {T T1 : Tb} {dn dn' : Int → Prop} {n : Int} {nd : Node} (h : Th1 T dn T1) (e : T n = some nd) (hn : isNop nd.1 = true) (hd : ∀ m, dn' m ↔ dn m ∨ m = n) : Th1 T dn' T1 where
  op := fun m md hm em hk => by
    rcases (hd m).mp hm with q | q
    · exact h.op m md q em hk
    · rw [q, e] at em
      cases em
      rw [hn] at hk
      cases hk
  dom := fun m md em => let ⟨a, b, c⟩ := h.dom m md em; ⟨(hd m).mpr (.inl a), b, c⟩
structure Th2 (T : Tb) (dn : Int → Prop) (T2 : Tb) : Prop where
  op : ∀ n nd, T n = some nd → isNop nd.1 = false → ∃ nd', T2 n = some nd' ∧ RelNode T nd nd'
  nop : ∀ n, dn n → nopAt T n = true → ∃ e, Tgt T n e ∧ ((nopAt T e = false ∧ (T e).isSome = true ∧ T2 n = T2 e) ∨ ((T e = none ∨ nopAt T e = true) ∧ T2 n = some (32, 0, e)))
  dom : ∀ n nd', T2 n = some nd' → (T n).isSome = true
theorem Th1.th2 {T T1 : Tb} {dn : Int → Prop} (h : Th1 T dn T1) (hd : ∀ n nd, T n = some nd → dn n) : Th2 T (fun _ => False) T1 where
  op := fun n nd e hn => h.op n nd (hd n nd e) e hn
  nop := fun n z => z.elim
  dom := fun n nd' e => (h.dom n nd' e).2.2
theorem Th2.skip {T T2 : Tb} {dn dn' : Int → Prop} {n : Int} (h : Th2 T dn T2) (hn : nopAt T n = false) (hd : ∀ m, dn' m ↔ dn m ∨ m = n) : Th2 T dn' T2 where
  op := h.op
  nop := fun m hm hk => by
    rcases (hd m).mp hm with q | q
    · exact h.nop m q hk
    · rw [q, hn] at hk
      cases hk
  dom := h.dom
theorem Th2.put {T T2 T2' : Tb} {dn dn' : Int → Prop} {n e : Int} {nd' : Node} (h : Th2 T dn T2) (hn : nopAt T n = true) (ht : Tgt T n e) (he : ∀ m, T2' m = if m = n then some nd' else T2 m) (hd : ∀ m, dn' m ↔ dn m ∨ m = n)
    (hx : (nopAt T e = false ∧ (T e).isSome = true ∧ T2 e = some nd') ∨ ((T e = none ∨ nopAt T e = true) ∧ nd' = (32, 0, e))) : Th2 T dn' T2' where
  op := fun m md em hk => by
    have q : ¬ m = n := fun z => by
      rw [z] at em
      rw [nopAt_nd em, hk] at hn
      cases hn
    rw [he, if_neg q]
    exact h.op m md em hk
  nop := fun m hm hk => by
    by_cases q : m = n
    · subst q
      refine ⟨e, ht, ?_⟩
      rcases hx with ⟨a, b, c⟩ | ⟨a, b⟩
      · refine .inl ⟨a, b, ?_⟩
        have z : ¬ e = m := fun z => by
          rw [z, hn] at a
          cases a
        rw [he, he, if_pos rfl, if_neg z, c]
      · exact .inr ⟨a, by rw [he, if_pos rfl, b]⟩
    · obtain ⟨x, hx1, hx2⟩ := h.nop m (((hd m).mp hm).resolve_right q) hk
      refine ⟨x, hx1, ?_⟩
      rcases hx2 with ⟨a, b, c⟩ | ⟨a, b⟩
      · refine .inl ⟨a, b, ?_⟩
        have z : ¬ x = n := fun z => by
          rw [z, hn] at a
          cases a
        rw [he, he, if_neg q, if_neg z, c]
      · exact .inr ⟨a, by rw [he, if_neg q, b]⟩
  dom := fun m md em => by
    rw [he] at em
    by_cases q : m = n
    · obtain ⟨op, arg, e1, _⟩ := nopAt_some hn
      rw [q, e1]
      rfl
    · rw [if_neg q] at em
      exact h.dom m md em
theorem Th2.spec {T T2 : Tb} {dn : Int → Prop} (h : Th2 T dn T2) (hd : ∀ n nd, T n = some nd → dn n) : ThreadSpec T T2 where
  no := fun n e => by
    cases q : T2 n with
    | none => rfl
    | some nd' =>
      have := h.dom n nd' q
      rw [e] at this
      cases this
  op := fun n op arg s e hn => by
    obtain ⟨⟨op', arg', s'⟩, a, b, c, d⟩ := h.op n (op, arg, s) e hn
    have b : op' = op := b
    subst b
    exact ⟨arg', s', c, d, a⟩
  nop := fun n hk => by
    obtain ⟨op, arg, e, _⟩ := nopAt_some hk
    exact h.nop n (hd n _ e) hk
/-- ops stay within what was there and 32 -/
theorem ThreadSpec.ops {T T' : Tb} (S : ThreadSpec T T') (c : ∀ n op arg s, T n = some (op, arg, s) → op ≠ 38 ∧ op ≠ 40) : ∀ n op arg s, T' n = some (op, arg, s) → op ≠ 38 ∧ op ≠ 40 := by
  have real : ∀ n op arg s, T n ≠ none → nopAt T n = false → T' n = some (op, arg, s) → op ≠ 38 ∧ op ≠ 40 := fun n op arg s h1 h2 h3 => by
    cases e : T n with
    | none => exact (h1 e).elim
    | some nd =>
      obtain ⟨o, a, z⟩ := nd
      obtain ⟨a', s', _, _, q⟩ := S.op n o a z e (by rw [← nopAt_of e]; exact h2)
      rw [q] at h3
      cases h3
      exact c n _ _ _ e
  intro n op arg s h
  cases e : T n with
  | none =>
    rw [S.no n e] at h
    cases h
  | some nd =>
    cases hk : nopAt T n with
    | false => exact real n op arg s (by rw [e]; exact fun z => nomatch z) hk h
    | true =>
      obtain ⟨x, _, q | q⟩ := S.nop n hk
      · obtain ⟨q1, q2, q3⟩ := q
        rw [q3] at h
        refine real x op arg s (fun z => ?_) q1 h
        rw [z] at q2
        cases q2
      · rw [q.2] at h
        cases h
        exact ⟨by decide, by decide⟩
theorem fold_ops {T T' : Tb} (S : FoldSpec T T') (c : ∀ n op arg s, T n = some (op, arg, s) → op ≠ 38 ∧ op ≠ 40) : ∀ n op arg s, T' n = some (op, arg, s) → op ≠ 38 ∧ op ≠ 40 := by
  intro n op arg s h
  rw [S n] at h
  obtain ⟨nd, e, q⟩ := Option.map_eq_some_iff.mp h
  obtain ⟨o, a, z⟩ := nd
  have co := c n o a z e
  have key : (foldN T (o, a, z)).1 ≠ 38 ∧ (foldN T (o, a, z)).1 ≠ 40 := by
    unfold foldN
    split
    rename_i o' a' z' eq
    cases eq
    split
    · split
      · exact co
      · split
        · split
          · exact ⟨(by decide : (35 : Int) ≠ 38), (by decide : (35 : Int) ≠ 40)⟩
          · exact co
        · split
          · exact ⟨(by decide : (32 : Int) ≠ 38), (by decide : (32 : Int) ≠ 40)⟩
          · split
            · split <;> exact ⟨(by decide : (32 : Int) ≠ 38), (by decide : (32 : Int) ≠ 40)⟩
            · exact co
    · exact co
  rw [q] at key
  exact key
end Pl
namespace Pl
/-- successor, and the argument of a branch -/
def W2 (T : Tb) (n x : Int) : Prop := ∃ op arg s, T n = some (op, arg, s) ∧ (x = s ∨ (op = 63 ∧ x = arg))
theorem W2.reach {T : Tb} {n x : Int} (h : W2 T n x) (r : Reach T n) : Reach T x := by
  obtain ⟨op, arg, s, e, rfl | ⟨rfl, rfl⟩⟩ := h
  · exact .suc r e
  · exact .arg r e
structure OI (T : Tb) (Q : List Int) (i : Nat) : Prop where
  nd : Q.Nodup
  re : ∀ x, x ∈ Q → Reach T x
  fx : ∀ x, Reach T x → Pl.fx x = true → x ∈ Q
  cl : ∀ j x, j < i → Q[j]? = some x → ∀ y, W2 T x y → y ∈ Q
theorem OI.done {T : Tb} {Q : List Int} (h : OI T Q Q.length) (x : Int) : x ∈ Q ↔ Reach T x := by
  refine ⟨h.re x, reach_min (h.fx 0 .zero rfl) fun n hn y hy => ?_⟩
  obtain ⟨j, hj⟩ := List.getElem?_of_mem hn
  have hl : j < Q.length := (List.getElem?_eq_some_iff.mp hj).1
  have hy' := hy
  obtain ⟨op, arg, s, e, q⟩ := hy
  rcases q with q | ⟨q1, q2⟩ | ⟨hl', q⟩ | ⟨q, ⟨h1, h2⟩, h3⟩
  · exact h.cl j n hl hj y ⟨op, arg, s, e, .inl q⟩
  · exact h.cl j n hl hj y ⟨op, arg, s, e, .inr ⟨q1, q2⟩⟩
  · refine h.fx y (hy'.reach (h.re n hn)) ?_
    rw [q]
    have z : (decide (65 ≤ op) && decide (op ≤ 90)) = true := hl'
    simp only [Bool.and_eq_true, decide_eq_true_eq] at z
    exact fx_of (by omega) (by omega)
  · exact h.fx y (hy'.reach (h.re n hn)) (fx_of (by omega) (by omega))
theorem OI.skip {T : Tb} {Q : List Int} {i : Nat} {n : Int} (h : OI T Q i) (e : Q[i]? = some n) (hn : T n = none) : OI T Q (i + 1) :=
  ⟨h.nd, h.re, h.fx, fun j x hj hx y hy => by
    by_cases q : j = i
    · rw [q, e] at hx
      cases hx
      obtain ⟨_, _, _, z, _⟩ := hy
      rw [hn] at z
      cases z
    · exact h.cl j x (by omega) hx y hy⟩
/-- within a turn: n = Q[i] in work, the first j of its ways are in -/
structure OW (T : Tb) (Q : List Int) (i : Nat) (n : Int) (ws : List Int) (j : Nat) : Prop where
  o : OI T Q i
  at_ : Q[i]? = some n
  ws : ∀ x, x ∈ ws.take j → x ∈ Q
theorem OW.old {T : Tb} {Q : List Int} {i : Nat} {n x : Int} {ws : List Int} {j : Nat} (h : OW T Q i n ws j) (e : ws[j]? = some x) (hx : x ∈ Q) : OW T Q i n ws (j + 1) :=
  ⟨h.o, h.at_, fun y hy => by
    rw [List.take_add_one, e] at hy
    rcases List.mem_append.mp hy with z | z
    · exact h.ws y z
    · rw [List.mem_singleton.mp z]; exact hx⟩
theorem OW.new {T : Tb} {Q : List Int} {i : Nat} {n x : Int} {ws : List Int} {j : Nat} (h : OW T Q i n ws j) (e : ws[j]? = some x) (hx : ¬ x ∈ Q) (hw : ∀ y, y ∈ ws → W2 T n y) : OW T (Q ++ [x]) i n ws (j + 1) where
  o := {
    nd := by
      rw [List.nodup_append]
      refine ⟨h.o.nd, by simp, fun a ha b hb c => hx ?_⟩
      rw [List.mem_singleton.mp hb] at c
      exact c ▸ ha
    re := fun y hy => by
      rcases List.mem_append.mp hy with z | z
      · exact h.o.re y z
      · rw [List.mem_singleton.mp z]
        exact (hw x (List.mem_of_getElem? e)).reach (h.o.re n (List.mem_of_getElem? h.at_))
    fx := fun y hy hf => List.mem_append_left _ (h.o.fx y hy hf)
    cl := fun a y ha hy z hz => by
      have hl : i < Q.length := (List.getElem?_eq_some_iff.mp h.at_).1
      rw [List.getElem?_append_left (by omega)] at hy
      exact List.mem_append_left _ (h.o.cl a y ha hy z hz) }
  at_ := by
    have hl : i < Q.length := (List.getElem?_eq_some_iff.mp h.at_).1
    rw [List.getElem?_append_left hl]
    exact h.at_
  ws := fun y hy => by
    rw [List.take_add_one, e] at hy
    rcases List.mem_append.mp hy with z | z
    · exact List.mem_append_left _ (h.ws y z)
    · exact List.mem_append_right _ z
theorem OW.fin {T : Tb} {Q : List Int} {i : Nat} {n : Int} {ws : List Int} (h : OW T Q i n ws ws.length) (hw : ∀ y, W2 T n y → y ∈ ws) : OI T Q (i + 1) :=
  ⟨h.o.nd, h.o.re, h.o.fx, fun j x hj hx y hy => by
    by_cases q : j = i
    · rw [q, h.at_] at hx
      cases hx
      refine h.ws y ?_
      rw [List.take_length]
      exact hw y hy
    · exact h.o.cl j x (by omega) hx y hy⟩

def slook : List (Int × Int) → Int → Option Int
  | [], _ => none
  | (a, v) :: r, k => if a = k then some v else slook r k
theorem sget_look : ∀ (S : List (Int × Int)) (k : Int), sget S k = (slook S k).getD 0
  | [], _ => rfl
  | (a, v) :: r, k => by
    unfold sget slook
    by_cases e : a = k
    · rw [if_pos e, if_pos e]; rfl
    · rw [if_neg e, if_neg e]; exact sget_look r k
theorem slook_put : ∀ (S : List (Int × Int)) (k v m : Int), slook (sput S k v) m = if m = k then some v else slook S m
  | [], k, v, m => by
    unfold sput slook slook
    by_cases e : k = m
    · rw [if_pos e, if_pos e.symm]
    · rw [if_neg e, if_neg fun z => e z.symm]
  | (a, x) :: r, k, v, m => by
    unfold sput
    by_cases e : a = k
    · rw [if_pos e]
      unfold slook
      by_cases q : a = m
      · rw [if_pos q, if_pos (q.symm.trans e)]
      · rw [if_neg q, if_neg (fun z => q (e.trans z.symm)), if_neg q]
    · rw [if_neg e]
      unfold slook
      by_cases q : a = m
      · rw [if_pos q, if_pos q, if_neg fun z => e (q.trans z)]
      · rw [if_neg q, if_neg q]; exact slook_put r k v m
theorem sput_keys : ∀ (S : List (Int × Int)) (k v : Int), (sput S k v).map (·.1) = if k ∈ S.map (·.1) then S.map (·.1) else S.map (·.1) ++ [k]
  | [], k, v => rfl
  | (a, x) :: r, k, v => by
    unfold sput
    by_cases e : a = k
    · rw [if_pos e, if_pos (by simp [e])]
      rfl
    · rw [if_neg e, List.map_cons, sput_keys r k v]
      by_cases q : k ∈ r.map (·.1)
      · have q2 : k ∈ ((a, x) :: r).map (·.1) := List.mem_cons_of_mem _ q
        rw [if_pos q, if_pos q2]
        rfl
      · have q2 : ¬ k ∈ ((a, x) :: r).map (·.1) := fun z => (List.mem_cons.mp z).elim (fun y => e y.symm) q
        rw [if_neg q, if_neg q2]
        rfl
theorem sput_len (S : List (Int × Int)) (k v : Int) : (sput S k v).length ≤ S.length + 1 := by
  have := congrArg List.length (sput_keys S k v)
  rw [List.length_map] at this
  rw [this]
  split <;> simp
/-- the names given to the first i numbers -/
structure NI (Q : List Int) (i : Nat) (S : List (Int × Int)) (f : Int) : Prop where
  ks : S.map (·.1) = Q.take i
  lo : 200 ≤ f
  fix : ∀ n, n ∈ Q.take i → fx n = true → slook S n = some n
  free : ∀ n, n ∈ Q.take i → fx n = false → ∃ v, slook S n = some v ∧ 200 ≤ v ∧ v < f
  inj : ∀ n m, n ∈ Q.take i → m ∈ Q.take i → fx n = false → fx m = false → slook S n = slook S m → n = m
theorem NI.start (Q : List Int) : NI Q 0 [] 200 where
  ks := rfl
  lo := Int.le_refl _
  fix := fun n z => by cases z
  free := fun n z => by cases z
  inj := fun n m z => by cases z
theorem NI.step {Q : List Int} (nd : Q.Nodup) {i : Nat} {n f : Int} {S : List (Int × Int)} (h : NI Q i S f) (e : Q[i]? = some n) :
    (fx n = true → NI Q (i + 1) (sput S n n) f) ∧ (fx n = false → NI Q (i + 1) (sput (sput S n n) n f) (f + 1)) := by
  have tk : Q.take (i + 1) = Q.take i ++ [n] := by
    rw [List.take_add_one, e]
    rfl
  have new : ¬ n ∈ Q.take i := fun z => by
    have h2 : (Q.take (i + 1)).Nodup := nd.sublist (List.take_sublist _ _)
    rw [tk, List.nodup_append] at h2
    exact h2.2.2 _ z _ (List.mem_singleton.mpr rfl) rfl
  have ne : ∀ m, m ∈ Q.take i → ¬ m = n := fun m hm z => new (z ▸ hm)
  have k1 : (sput S n n).map (·.1) = Q.take (i + 1) := by
    rw [sput_keys, h.ks, if_neg new, tk]
  constructor
  · intro hf
    refine ⟨k1, h.lo, fun m hm hg => ?_, fun m hm hg => ?_, fun m k hm hk hg hg2 he => ?_⟩
    · rw [slook_put]
      rw [tk] at hm
      rcases List.mem_append.mp hm with z | z
      · rw [if_neg (ne m z)]
        exact h.fix m z hg
      · rw [List.mem_singleton.mp z, if_pos rfl]
    · rw [tk] at hm
      rcases List.mem_append.mp hm with z | z
      · rw [slook_put, if_neg (ne m z)]
        exact h.free m z hg
      · rw [List.mem_singleton.mp z, hf] at hg
        cases hg
    · rw [tk] at hm hk
      rcases List.mem_append.mp hm with z | z
      · rcases List.mem_append.mp hk with y | y
        · rw [slook_put, slook_put, if_neg (ne m z), if_neg (ne k y)] at he
          exact h.inj m k z y hg hg2 he
        · rw [List.mem_singleton.mp y, hf] at hg2
          cases hg2
      · rw [List.mem_singleton.mp z, hf] at hg
        cases hg
  · intro hf
    refine ⟨?_, by have := h.lo; omega, fun m hm hg => ?_, fun m hm hg => ?_, fun m k hm hk hg hg2 he => ?_⟩
    · rw [sput_keys, k1, if_pos]
      rw [tk]
      simp
    · rw [tk] at hm
      rcases List.mem_append.mp hm with z | z
      · rw [slook_put, slook_put, if_neg (ne m z), if_neg (ne m z)]
        exact h.fix m z hg
      · rw [List.mem_singleton.mp z, hf] at hg
        cases hg
    · rw [tk] at hm
      rcases List.mem_append.mp hm with z | z
      · rw [slook_put, slook_put, if_neg (ne m z), if_neg (ne m z)]
        obtain ⟨v, h1, h2, h3⟩ := h.free m z hg
        exact ⟨v, h1, h2, by omega⟩
      · rw [List.mem_singleton.mp z, slook_put, if_pos rfl]
        exact ⟨f, rfl, h.lo, by omega⟩
    · rw [tk] at hm hk
      rcases List.mem_append.mp hm with z | z
      · rcases List.mem_append.mp hk with y | y
        · rw [slook_put, slook_put, slook_put, slook_put, if_neg (ne m z), if_neg (ne m z), if_neg (ne k y), if_neg (ne k y)] at he
          exact h.inj m k z y hg hg2 he
        · exfalso
          obtain ⟨v, h1, h2, h3⟩ := h.free m z hg
          rw [List.mem_singleton.mp y, slook_put (sput S n n), slook_put (sput S n n), slook_put, if_neg (ne m z), if_neg (ne m z), if_pos rfl, h1] at he
          have := Option.some.inj he
          omega
      · rcases List.mem_append.mp hk with y | y
        · exfalso
          obtain ⟨v, h1, h2, h3⟩ := h.free k y hg2
          rw [List.mem_singleton.mp z, slook_put (sput S n n), slook_put (sput S n n), if_pos rfl, if_neg (ne k y), slook_put, if_neg (ne k y), h1] at he
          have := Option.some.inj he
          omega
        · rw [List.mem_singleton.mp z, List.mem_singleton.mp y]
def nameF (S : List (Int × Int)) (n : Int) : Int := (slook S n).getD 0
theorem NI.look {Q : List Int} {S : List (Int × Int)} {f : Int} (h : NI Q Q.length S f) {n : Int} (hn : n ∈ Q) : slook S n = some (nameF S n) := by
  have hn' : n ∈ Q.take Q.length := by rw [List.take_length]; exact hn
  unfold nameF
  cases hf : fx n with
  | true => rw [h.fix n hn' hf]; rfl
  | false =>
    obtain ⟨v, e, _⟩ := h.free n hn' hf
    rw [e]
    rfl
theorem NI.inj2 {Q : List Int} {S : List (Int × Int)} {f : Int} (h : NI Q Q.length S f) {n m : Int} (hn : n ∈ Q) (hm : m ∈ Q) (e : nameF S n = nameF S m) : n = m := by
  have hn' : n ∈ Q.take Q.length := by rw [List.take_length]; exact hn
  have hm' : m ∈ Q.take Q.length := by rw [List.take_length]; exact hm
  have es : slook S n = slook S m := by rw [h.look hn, h.look hm, e]
  cases hf : fx n with
  | true =>
    cases hg : fx m with
    | true =>
      rw [h.fix n hn' hf, h.fix m hm' hg] at es
      exact Option.some.inj es
    | false =>
      obtain ⟨v, h1, h2, h3⟩ := h.free m hm' hg
      rw [h.fix n hn' hf, h1] at es
      have := Option.some.inj es
      unfold fx at hf
      simp at hf
      omega
  | false =>
    cases hg : fx m with
    | true =>
      obtain ⟨v, h1, h2, h3⟩ := h.free n hn' hf
      rw [h.fix m hm' hg, h1] at es
      have := Option.some.inj es
      unfold fx at hg
      simp at hg
      omega
    | false => exact h.inj n m hn' hm' hf hg es
def renN (S : List (Int × Int)) (nd : Node) : Node := (nd.1, if nd.1 = 63 then nameF S nd.2.1 else nd.2.1, nameF S nd.2.2)
/-- the second loop -/
structure RN (T : Tb) (Q : List Int) (S : List (Int × Int)) (i : Nat) (T' : Tb) : Prop where
  yes : ∀ n, n ∈ Q.take i → T' (nameF S n) = (T n).map (renN S)
  no : ∀ k, (∀ n, n ∈ Q.take i → nameF S n ≠ k) → T' k = none
theorem RN.skip {T T' : Tb} {Q : List Int} {S : List (Int × Int)} {f : Int} (nd : Q.Nodup) (h : NI Q Q.length S f) {i : Nat} {n : Int} (r : RN T Q S i T') (e : Q[i]? = some n) (hn : T n = none) : RN T Q S (i + 1) T' := by
  have tk : ∀ m, m ∈ Q.take (i + 1) ↔ m ∈ Q.take i ∨ m = n := fun m => by
    rw [List.take_add_one, e, List.mem_append]
    exact or_congr Iff.rfl List.mem_singleton
  have nQ : n ∈ Q := List.mem_of_getElem? e
  refine ⟨fun m hm => ?_, fun k hk => r.no k fun m hm => hk m ((tk m).mpr (.inl hm))⟩
  rcases (tk m).mp hm with z | z
  · exact r.yes m z
  · rw [z, hn]
    refine r.no _ fun k hk q => ?_
    have kQ : k ∈ Q := List.mem_of_mem_take hk
    have := h.inj2 kQ nQ q
    subst this
    have h2 : (Q.take (i + 1)).Nodup := nd.sublist (List.take_sublist _ _)
    rw [List.take_add_one, e, List.nodup_append] at h2
    exact h2.2.2 _ hk _ (List.mem_singleton.mpr rfl) rfl
theorem RN.put {T T' T'' : Tb} {Q : List Int} {S : List (Int × Int)} {f : Int} (nd : Q.Nodup) (h : NI Q Q.length S f) {i : Nat} {n : Int} {v : Node} (r : RN T Q S i T') (e : Q[i]? = some n) (hn : T n = some v)
    (he : ∀ m, T'' m = if m = nameF S n then some (renN S v) else T' m) : RN T Q S (i + 1) T'' := by
  have tk : ∀ m, m ∈ Q.take (i + 1) ↔ m ∈ Q.take i ∨ m = n := fun m => by
    rw [List.take_add_one, e, List.mem_append]
    exact or_congr Iff.rfl List.mem_singleton
  have nQ : n ∈ Q := List.mem_of_getElem? e
  refine ⟨fun m hm => ?_, fun k hk => ?_⟩
  · rw [he]
    by_cases z : m = n
    · rw [if_pos (by rw [z]), z, hn]
      rfl
    · have hm' := ((tk m).mp hm).resolve_right z
      rw [if_neg fun q => z (h.inj2 (List.mem_of_mem_take hm') nQ q)]
      exact r.yes m hm'
  · rw [he, if_neg fun q => hk n ((tk n).mpr (.inr rfl)) q.symm]
    exact r.no k fun m hm => hk m ((tk m).mpr (.inl hm))
theorem RN.spec {T T' : Tb} {Q : List Int} {S : List (Int × Int)} {f : Int} (h : NI Q Q.length S f) (r : RN T Q S Q.length T') (hQ : ∀ x, x ∈ Q ↔ Reach T x) : RenumSpec T T' (nameF S) := by
  have tQ : ∀ n, n ∈ Q.take Q.length ↔ n ∈ Q := fun n => by rw [List.take_length]
  refine ⟨fun n hn hf => ?_, fun n hn hf => ?_, fun n m hn hm e => h.inj2 ((hQ n).mpr hn) ((hQ m).mpr hm) e, fun n hn => r.yes n ((tQ n).mpr ((hQ n).mpr hn)), fun k hk => r.no k fun n hn => hk n ((hQ n).mp ((tQ n).mp hn))⟩
  · unfold nameF
    rw [h.fix n ((tQ n).mpr ((hQ n).mpr hn)) hf]
    rfl
  · obtain ⟨v, e, h1, _⟩ := h.free n ((tQ n).mpr ((hQ n).mpr hn)) hf
    unfold nameF
    rw [e]
    exact h1
theorem renum_ops {T T' : Tb} {names : Int → Int} (S : RenumSpec T T' names) (c : ∀ n op arg s, T n = some (op, arg, s) → op ≠ 38 ∧ op ≠ 40) : ∀ n op arg s, T' n = some (op, arg, s) → op ≠ 38 ∧ op ≠ 40 := by
  intro n op arg s h
  have : ∃ m, Reach T m ∧ names m = n := by
    apply Classical.byContradiction
    intro q
    rw [S.no n fun m hm e => q ⟨m, hm, e⟩] at h
    cases h
  obtain ⟨m, hm, e⟩ := this
  have y := S.yes m hm
  rw [e, h] at y
  obtain ⟨nd, e2, q⟩ := Option.map_eq_some_iff.mp y.symm
  have : op = nd.1 := (congrArg Prod.fst q).symm
  rw [this]
  exact c m nd.1 nd.2.1 nd.2.2 e2
end Pl
namespace Pl
def key1 (T : Tb) (n : Int) : Node := match T n with
  | none => (0, 0, 0)
  | some (op, arg, _) => if isNop op = true then (1, 0, 0) else if op = 35 ∨ op = 61 then (2, op, arg) else (2, op, 0)
def keyL (T : Tb) (F : Int → Int) (n : Int) : Node := match T n with
  | none => (F n, -1, -1)
  | some (op, arg, s) => if op = 63 then (F n, F s, F arg) else (F n, F s, -1)
/-- within the numbering: ks the keys met, S what was given to the first i numbers of xs -/
structure NB (xs : List Int) (key : Int → Node) (i : Nat) (ks : List Node) (S : List (Int × Int)) : Prop where
  nd : ks.Nodup
  ksS : S.map (·.1) = xs.take i
  val : ∀ n, n ∈ xs.take i → ∃ j : Nat, ks[j]? = some (key n) ∧ slook S n = some (j : Int)
  sur : ∀ (j : Nat) (k : Node), ks[j]? = some k → ∃ n, n ∈ xs.take i ∧ key n = k
  le : ks.length ≤ i
theorem NB.start (xs : List Int) (key : Int → Node) : NB xs key 0 [] [] where
  nd := List.nodup_nil
  ksS := rfl
  val := fun n z => by cases z
  sur := fun j k z => by simp at z
  le := Nat.le_refl _
theorem NB.step {xs : List Int} {key : Int → Node} (nd : xs.Nodup) {i : Nat} {ks ks' : List Node} {S : List (Int × Int)} {n : Int} {j : Nat} (h : NB xs key i ks S) (e : xs[i]? = some n) (hk : ks' = ks ∨ (ks' = ks ++ [key n] ∧ ¬ key n ∈ ks)) (hj : ks'[j]? = some (key n)) :
    NB xs key (i + 1) ks' (sput S n (j : Int)) := by
  have tk : xs.take (i + 1) = xs.take i ++ [n] := by
    rw [List.take_add_one, e]
    rfl
  have new : ¬ n ∈ xs.take i := fun z => by
    have h2 : (xs.take (i + 1)).Nodup := nd.sublist (List.take_sublist _ _)
    rw [tk, List.nodup_append] at h2
    exact h2.2.2 _ z _ (List.mem_singleton.mpr rfl) rfl
  refine ⟨?_, ?_, fun m hm => ?_, fun a k ha => ?_, ?_⟩
  · rcases hk with q | ⟨q, z⟩
    · rw [q]
      exact h.nd
    · rw [q, List.nodup_append]
      refine ⟨h.nd, by simp, fun x hx y hy c => z ?_⟩
      rw [List.mem_singleton.mp hy] at c
      exact c ▸ hx
  · rw [sput_keys, h.ksS, if_neg new, tk]
  · rw [tk] at hm
    rcases List.mem_append.mp hm with z | z
    · obtain ⟨b, h1, h2⟩ := h.val m z
      refine ⟨b, ?_, ?_⟩
      · rcases hk with q | ⟨q, _⟩
        · rw [q]
          exact h1
        · rw [q, List.getElem?_append_left (List.getElem?_eq_some_iff.mp h1).1]
          exact h1
      · rw [slook_put, if_neg fun (q : m = n) => new (q ▸ z)]
        exact h2
    · rw [List.mem_singleton.mp z]
      exact ⟨j, hj, by rw [slook_put, if_pos rfl]⟩
  · have old : ∀ {a k}, ks[a]? = some k → ∃ n_1, n_1 ∈ xs.take (i + 1) ∧ key n_1 = k := fun {a k} ha => by
      obtain ⟨m, h1, h2⟩ := h.sur a k ha
      exact ⟨m, by rw [tk]; exact List.mem_append_left _ h1, h2⟩
    rcases hk with q | ⟨q, _⟩
    · rw [q] at ha
      exact old ha
    · rw [q] at ha
      by_cases hl : a < ks.length
      · rw [List.getElem?_append_left hl] at ha
        exact old ha
      · rw [List.getElem?_append_right (by omega)] at ha
        have : k = key n := by
          have hm := List.mem_of_getElem? ha
          exact List.mem_singleton.mp hm
        exact ⟨n, by rw [tk]; simp, this.symm⟩
  · rcases hk with q | ⟨q, _⟩
    · rw [q]
      exact Nat.le_succ_of_le h.le
    · rw [q, List.length_append]
      exact Nat.succ_le_succ h.le
/-- what the numbering gives: c classes -/
structure NumSpec (xs : List Int) (key : Int → Node) (S : List (Int × Int)) (c : Nat) : Prop where
  ks : S.map (·.1) = xs
  val : ∀ n, n ∈ xs → ∃ j : Nat, j < c ∧ slook S n = some (j : Int)
  eq : ∀ n m, n ∈ xs → m ∈ xs → (nameF S n = nameF S m ↔ key n = key m)
  sur : ∀ j : Nat, j < c → ∃ n, n ∈ xs ∧ nameF S n = (j : Int)
  le : c ≤ xs.length
theorem nodup_at {α : Type} {l : List α} (nd : l.Nodup) {i j : Nat} {x : α} (a : l[i]? = some x) (b : l[j]? = some x) : i = j := by
  obtain ⟨h1, e1⟩ := List.getElem?_eq_some_iff.mp a
  obtain ⟨h2, e2⟩ := List.getElem?_eq_some_iff.mp b
  exact (List.getElem_inj nd).mp (e1.trans e2.symm)
theorem NB.fin {xs : List Int} {key : Int → Node} {ks : List Node} {S : List (Int × Int)} (h : NB xs key xs.length ks S) : NumSpec xs key S ks.length := by
  have tx : ∀ n, n ∈ xs.take xs.length ↔ n ∈ xs := fun n => by rw [List.take_length]
  have hv : ∀ n, n ∈ xs → ∃ j : Nat, ks[j]? = some (key n) ∧ slook S n = some (j : Int) := fun n hn => h.val n ((tx n).mpr hn)
  refine ⟨by rw [h.ksS, List.take_length], fun n hn => ?_, fun n m hn hm => ?_, fun j hj => ?_, h.le⟩
  · obtain ⟨j, h1, h2⟩ := hv n hn
    exact ⟨j, (List.getElem?_eq_some_iff.mp h1).1, h2⟩
  · obtain ⟨j, h1, h2⟩ := hv n hn
    obtain ⟨k, h3, h4⟩ := hv m hm
    unfold nameF
    rw [h2, h4]
    show ((j : Int) = (k : Int)) ↔ _
    constructor
    · intro e
      have e : j = k := by omega
      subst e
      rw [h1] at h3
      exact Option.some.inj h3
    · intro e
      rw [← e] at h3
      have := nodup_at h.nd h1 h3
      omega
  · obtain ⟨n, h1, h2⟩ := h.sur j ks[j] (List.getElem?_eq_getElem hj)
    have hn := (tx n).mp h1
    obtain ⟨k, h3, h4⟩ := hv n hn
    refine ⟨n, hn, ?_⟩
    rw [h2] at h3
    have := nodup_at h.nd h3 (List.getElem?_eq_getElem hj)
    unfold nameF
    rw [h4, this]
    rfl
theorem NumSpec.look {xs : List Int} {key : Int → Node} {S : List (Int × Int)} {c : Nat} (h : NumSpec xs key S c) {n : Int} (hn : n ∈ xs) : slook S n = some (nameF S n) := by
  obtain ⟨j, _, e⟩ := h.val n hn
  unfold nameF
  rw [e]
  rfl
theorem NumSpec.lt {xs : List Int} {key : Int → Node} {S : List (Int × Int)} {c : Nat} (h : NumSpec xs key S c) {n : Int} (hn : n ∈ xs) : 0 ≤ nameF S n ∧ nameF S n < (c : Int) := by
  obtain ⟨j, hj, e⟩ := h.val n hn
  unfold nameF
  rw [e]
  show 0 ≤ (j : Int) ∧ (j : Int) < c
  omega
/-- no class was divided -/
theorem stable {xs : List Int} {key key2 : Int → Node} {S S2 : List (Int × Int)} {c c2 : Nat} (h : NumSpec xs key S c) (h2 : NumSpec xs key2 S2 c2) (ref : ∀ n m, n ∈ xs → m ∈ xs → nameF S2 n = nameF S2 m → nameF S n = nameF S m) (le : c2 ≤ c)
    {x y : Int} (hx : x ∈ xs) (hy : y ∈ xs) (e : nameF S x = nameF S y) : nameF S2 x = nameF S2 y := by
  apply Classical.byContradiction
  intro ne
  have ch : ∀ j : Nat, ∃ n, j < c → n ∈ xs ∧ nameF S n = (j : Int) := fun j => by
    by_cases hj : j < c
    · obtain ⟨n, hn⟩ := h.sur j hj
      exact ⟨n, fun _ => hn⟩
    · exact ⟨0, fun z => (hj z).elim⟩
  obtain ⟨rep, hrep⟩ := Classical.axiomOfChoice ch
  obtain ⟨j0, hj0, ej0⟩ := h.val x hx
  have e0 : nameF S x = (j0 : Int) := by
    unfold nameF
    rw [ej0]
    rfl
  have hz : ∃ z, z ∈ xs ∧ nameF S z = (j0 : Int) ∧ nameF S2 z ≠ nameF S2 (rep j0) := by
    by_cases q : nameF S2 x = nameF S2 (rep j0)
    · exact ⟨y, hy, by rw [← e, e0], fun z => ne (q.trans z.symm)⟩
    · exact ⟨x, hx, e0, q⟩
  obtain ⟨z, z1, z2, z3⟩ := hz
  have inj : ∀ p q, p < q → q < c → nameF S2 (rep p) ≠ nameF S2 (rep q) := fun p q hpq hq w => by
    obtain ⟨a1, a2⟩ := hrep p (by omega)
    obtain ⟨b1, b2⟩ := hrep q hq
    have := ref _ _ a1 b1 w
    rw [a2, b2] at this
    omega
  have nd : (nameF S2 z :: (List.range c).map fun j => nameF S2 (rep j)).Nodup := by
    rw [List.nodup_cons]
    refine ⟨fun hm => ?_, nodup_map_range c inj⟩
    obtain ⟨j, hj, w⟩ := List.mem_map.mp hm
    have hj := List.mem_range.mp hj
    obtain ⟨a1, a2⟩ := hrep j hj
    have := ref _ _ a1 z1 w
    rw [a2, z2] at this
    have ej : j = j0 := by omega
    rw [ej] at w
    exact z3 w.symm
  have sub := nd.length_le_of_subset (l₂ := (List.range c2).map fun j : Nat => (j : Int)) fun v hv => by
    have : ∃ n, n ∈ xs ∧ nameF S2 n = v := by
      rcases List.mem_cons.mp hv with w | w
      · exact ⟨z, z1, w.symm⟩
      · obtain ⟨j, hj, w⟩ := List.mem_map.mp w
        exact ⟨rep j, (hrep j (List.mem_range.mp hj)).1, w⟩
    obtain ⟨n, hn, en⟩ := this
    obtain ⟨k, hk, ek⟩ := h2.val n hn
    refine List.mem_map.mpr ⟨k, List.mem_range.mpr hk, ?_⟩
    rw [← en]
    unfold nameF
    rw [ek]
    rfl
  simp at sub
  omega
theorem key1_like {T : Tb} {n m : Int} (h : key1 T n = key1 T m) : match T n, T m with
    | none, none => True
    | some (op, arg, _), some (op2, arg2, _) => isNop op = isNop op2 ∧ (isNop op = false → op = op2) ∧ (op = 35 ∨ op = 61 → arg = arg2)
    | _, _ => False := by
  unfold key1 at h
  cases e1 : T n with
  | none =>
    rw [e1] at h
    cases e2 : T m with
    | none => trivial
    | some b =>
      obtain ⟨op, arg, s⟩ := b
      rw [e2] at h
      simp only at h
      split at h
      · cases h
      · split at h <;> cases h
  | some a =>
    obtain ⟨op, arg, s⟩ := a
    rw [e1] at h
    cases e2 : T m with
    | none =>
      rw [e2] at h
      simp only at h
      split at h
      · cases h
      · split at h <;> cases h
    | some b =>
      obtain ⟨op2, arg2, s2⟩ := b
      rw [e2] at h
      simp only at h ⊢
      have n35 : isNop 35 = false := by decide
      have n61 : isNop 61 = false := by decide
      cases k1 : isNop op with
      | true =>
        rw [k1, if_pos rfl] at h
        cases k2 : isNop op2 with
        | true =>
          refine ⟨rfl, (fun z => nomatch z), fun z => ?_⟩
          rcases z with z | z <;> rw [z] at k1
          · rw [n35] at k1; cases k1
          · rw [n61] at k1; cases k1
        | false =>
          rw [k2, if_neg Bool.false_ne_true] at h
          split at h <;> cases h
      | false =>
        rw [k1, if_neg Bool.false_ne_true] at h
        cases k2 : isNop op2 with
        | true =>
          rw [k2, if_pos rfl] at h
          split at h <;> cases h
        | false =>
          rw [k2, if_neg Bool.false_ne_true] at h
          refine ⟨rfl, fun _ => ?_, fun z => ?_⟩
          · split at h <;> split at h <;> (injection h with _ h; injection h with h _)
          · rw [if_pos z] at h
            split at h
            · injection h with _ h
              injection h with _ h
            · rename_i w
              injection h with _ h
              injection h with h _
              rw [h] at z
              exact (w z).elim
structure CSpec (T : Tb) (S : List (Int × Int)) : Prop where
  dom : ∀ x, x ∈ S.map (·.1) ↔ Reach T x
  like : ∀ n m, Reach T n → Reach T m → nameF S n = nameF S m → Like (nameF S) (T n) (T m)
/-- the last round divided nothing -/
theorem cspec {T : Tb} {xs : List Int} (hx : ∀ x, x ∈ xs ↔ Reach T x) {key : Int → Node} {S S2 : List (Int × Int)} {c c2 : Nat} (h : NumSpec xs key S c) (h2 : NumSpec xs (keyL T (nameF S)) S2 c2) (le : c2 ≤ c)
    (r1 : ∀ n m, n ∈ xs → m ∈ xs → nameF S n = nameF S m → key1 T n = key1 T m) : CSpec T S2 := by
  have ref : ∀ n m, n ∈ xs → m ∈ xs → nameF S2 n = nameF S2 m → nameF S n = nameF S m := fun n m hn hm e => by
    have := (h2.eq n m hn hm).mp e
    unfold keyL at this
    have e1 := congrArg Prod.fst this
    have a1 : ∀ n, (match T n with
      | none => ((nameF S n, -1, -1) : Node)
      | some (op, arg, s) => if op = 63 then (nameF S n, nameF S s, nameF S arg) else (nameF S n, nameF S s, -1)).1 = nameF S n := fun n => by
      split
      · rfl
      · split <;> rfl
    rw [a1, a1] at e1
    exact e1
  refine ⟨fun x => by rw [h2.ks]; exact hx x, fun n m hn hm e => ?_⟩
  have hn' := (hx n).mpr hn
  have hm' := (hx m).mpr hm
  have k := key1_like (r1 n m hn' hm' (ref n m hn' hm' e))
  have kl := (h2.eq n m hn' hm').mp e
  unfold keyL at kl
  unfold Like
  cases e1 : T n with
  | none =>
    rw [e1] at k
    cases e2 : T m with
    | none => trivial
    | some b => rw [e2] at k; exact k
  | some a =>
    obtain ⟨op, arg, s⟩ := a
    rw [e1] at k kl
    cases e2 : T m with
    | none => rw [e2] at k; exact k
    | some b =>
      obtain ⟨op2, arg2, s2⟩ := b
      rw [e2] at k kl
      obtain ⟨k1, k2, k3⟩ := k
      have rs := (hx s).mpr (.suc hn e1)
      have rs2 := (hx s2).mpr (.suc hm e2)
      have n63 : isNop 63 = false := by decide
      have up := fun {x y} (hx : x ∈ xs) (hy : y ∈ xs) (w : nameF S x = nameF S y) => stable h h2 ref le hx hy w
      refine ⟨k1, k2, k3, ?_, fun z => ?_⟩
      · refine up rs rs2 ?_
        simp only at kl
        split at kl <;> split at kl <;> (injection kl with _ kl; injection kl with kl _)
      · subst z
        have z2 : op2 = 63 := (k2 n63).symm
        subst z2
        refine up ((hx arg).mpr (.arg hn e1)) ((hx arg2).mpr (.arg hm e2)) ?_
        simp only [if_pos] at kl
        injection kl with _ kl
        injection kl with _ kl
/-- the representatives: the first i of xs are seen -/
structure RP (xs : List Int) (F : Int → Int) (i : Nat) (C : List (Int × Int)) : Prop where
  nd : (C.map (·.1)).Nodup
  has : ∀ n, n ∈ xs.take i → (slook C (F n)).isSome = true
  val : ∀ c r, slook C c = some r → r ∈ xs.take i ∧ F r = c
  le : C.length ≤ i
theorem merge_ops {T T' : Tb} {found chosen : Int → Int} (S : MergeSpec T T' found chosen) (c : ∀ n op arg s, T n = some (op, arg, s) → op ≠ 38 ∧ op ≠ 40) : ∀ n op arg s, T' n = some (op, arg, s) → op ≠ 38 ∧ op ≠ 40 := by
  intro n op arg s h
  by_cases q : Reach T n ∧ Kept found chosen n
  · rw [S.yes n q.1 q.2] at h
    obtain ⟨nd, e, w⟩ := Option.map_eq_some_iff.mp h
    have : op = (mergeN found chosen nd).1 := (congrArg Prod.fst w).symm
    rw [this]
    unfold mergeN
    simp only
    split
    · exact ⟨by decide, by decide⟩
    · exact c n nd.1 nd.2.1 nd.2.2 e
  · rw [S.no n q] at h
    cases h
theorem prune_ops {T T' : Tb} (S : PruneSpec T T') (c : ∀ n op arg s, T n = some (op, arg, s) → op ≠ 38 ∧ op ≠ 40) : ∀ n op arg s, T' n = some (op, arg, s) → op ≠ 38 ∧ op ≠ 40 := by
  intro n op arg s h
  by_cases q : Reach T n
  · rw [(S n).1 q] at h
    exact c n op arg s h
  · rw [(S n).2 q] at h
    cases h
end Pl
namespace Pl
theorem NumSpec.congr {xs : List Int} {key key' : Int → Node} {S : List (Int × Int)} {c : Nat} (h : NumSpec xs key S c) (e : ∀ n, n ∈ xs → key n = key' n) : NumSpec xs key' S c :=
  ⟨h.ks, h.val, fun n m hn hm => by rw [← e n hn, ← e m hm]; exact h.eq n m hn hm, h.sur, h.le⟩
theorem slook_mem {S : List (Int × Int)} {n v : Int} (h : slook S n = some v) : (n, v) ∈ S := by
  induction S with
  | nil => cases h
  | cons p r ih =>
    obtain ⟨a, x⟩ := p
    unfold slook at h
    by_cases e : a = n
    · rw [if_pos e] at h
      cases h
      rw [e]
      exact List.mem_cons_self ..
    · rw [if_neg e] at h
      exact List.mem_cons_of_mem _ (ih h)
theorem slook_at {S : List (Int × Int)} (nd : (S.map (·.1)).Nodup) {n v : Int} (h : (n, v) ∈ S) : slook S n = some v := by
  induction S with
  | nil => cases h
  | cons p r ih =>
    obtain ⟨a, x⟩ := p
    have nd : (a :: r.map (·.1)).Nodup := nd
    obtain ⟨n1, n2⟩ := List.nodup_cons.mp nd
    unfold slook
    rcases List.mem_cons.mp h with e | e
    · cases e
      exact if_pos rfl
    · rw [if_neg fun (z : a = n) => n1 (z ▸ List.mem_map.mpr ⟨_, e, rfl⟩)]
      exact ih n2 e
theorem NumSpec.max {xs : List Int} (nd : xs.Nodup) (z : (0 : Int) ∈ xs) {key : Int → Node} {S : List (Int × Int)} {c : Nat} (h : NumSpec xs key S c) {m : Int} (h1 : m ∈ S.map (·.2)) (h2 : ∀ j, j ∈ S.map (·.2) → j ≤ m) : m + 1 = (c : Int) := by
  have snd : (S.map (·.1)).Nodup := by rw [h.ks]; exact nd
  obtain ⟨j0, hj0, _⟩ := h.val 0 z
  obtain ⟨n, hn, en⟩ := h.sur (c - 1) (by omega)
  have a := h2 (nameF S n) (List.mem_map.mpr ⟨_, slook_mem (h.look hn), rfl⟩)
  obtain ⟨p, hp, ep⟩ := List.mem_map.mp h1
  have hpx : p.1 ∈ xs := by
    rw [← h.ks]
    exact List.mem_map.mpr ⟨p, hp, rfl⟩
  have e2 : slook S p.1 = some p.2 := slook_at snd hp
  have e3 := h.look hpx
  rw [e2] at e3
  have b := (h.lt hpx).2
  rw [← Option.some.inj e3, ep] at b
  rw [en] at a
  omega
theorem NumSpec.pos {xs : List Int} (z : (0 : Int) ∈ xs) {key : Int → Node} {S : List (Int × Int)} {c : Nat} (h : NumSpec xs key S c) : 1 ≤ c := by
  obtain ⟨j0, hj0, _⟩ := h.val 0 z
  omega
theorem keyL_fst (T : Tb) (F : Int → Int) (n : Int) : (keyL T F n).1 = F n := by
  unfold keyL
  split
  · rfl
  · split <;> rfl
theorem RP.start (xs : List Int) (F : Int → Int) : RP xs F 0 [] where
  nd := List.nodup_nil
  has := fun n z => by cases z
  val := fun c r z => by cases z
  le := Nat.le_refl _
theorem take_snoc {xs : List Int} {i : Nat} {n : Int} (e : xs[i]? = some n) (m : Int) : m ∈ xs.take (i + 1) ↔ m ∈ xs.take i ∨ m = n := by
  rw [List.take_add_one, e, List.mem_append]
  exact or_congr Iff.rfl List.mem_singleton
theorem RP.skip {xs : List Int} {F : Int → Int} {i : Nat} {C : List (Int × Int)} {n : Int} (h : RP xs F i C) (e : xs[i]? = some n) (hs : (slook C (F n)).isSome = true) : RP xs F (i + 1) C where
  nd := h.nd
  has := fun m hm => by
    rcases (take_snoc e m).mp hm with z | z
    · exact h.has m z
    · rw [z]
      exact hs
  val := fun c r hc => let ⟨a, b⟩ := h.val c r hc; ⟨(take_snoc e r).mpr (.inl a), b⟩
  le := Nat.le_succ_of_le h.le
theorem RP.put {xs : List Int} {F : Int → Int} {i : Nat} {C : List (Int × Int)} {n : Int} (h : RP xs F i C) (e : xs[i]? = some n) (nd : ((sput C (F n) n).map (·.1)).Nodup) : RP xs F (i + 1) (sput C (F n) n) where
  nd := nd
  has := fun m hm => by
    rw [slook_put]
    by_cases q : F m = F n
    · rw [if_pos q]
      rfl
    · rw [if_neg q]
      rcases (take_snoc e m).mp hm with z | z
      · exact h.has m z
      · exact (q (by rw [z])).elim
  val := fun c r hc => by
    rw [slook_put] at hc
    by_cases q : c = F n
    · rw [if_pos q] at hc
      cases hc
      exact ⟨(take_snoc e n).mpr (.inr rfl), q.symm⟩
    · rw [if_neg q] at hc
      obtain ⟨a, b⟩ := h.val c r hc
      exact ⟨(take_snoc e r).mpr (.inl a), b⟩
  le := Nat.le_trans (sput_len _ _ _) (Nat.succ_le_succ h.le)
/-- what merging leans on -/
theorem RP.rep {T : Tb} {S C : List (Int × Int)} (cs : CSpec T S) (h : RP (S.map (·.1)) (nameF S) (S.map (·.1)).length C) {n : Int} (hn : Reach T n) :
    slook C (nameF S n) = some (nameF C (nameF S n)) ∧ Reach T (nameF C (nameF S n)) ∧ nameF S (nameF C (nameF S n)) = nameF S n := by
  have hm : n ∈ (S.map (·.1)).take (S.map (·.1)).length := by
    rw [List.take_length]
    exact (cs.dom n).mpr hn
  have hs := h.has n hm
  cases e : slook C (nameF S n) with
  | none => rw [e] at hs; cases hs
  | some r =>
    obtain ⟨a, b⟩ := h.val _ r e
    rw [List.take_length] at a
    have er : nameF C (nameF S n) = r := by
      unfold nameF at e ⊢
      rw [e]
      rfl
    rw [er]
    exact ⟨rfl, (cs.dom r).mp a, b⟩
end Pl
namespace Pl
theorem sput_le : ∀ (S : List (Int × Int)) (k v : Int), (sput S k v).length ≤ S.length + 1
  | [], k, v => by simp [sput]
  | (a, w) :: r, k, v => by
    have ih := sput_le r k v
    unfold sput
    by_cases h : a = k
    · rw [if_pos h, List.length_cons, List.length_cons]
      omega
    · rw [if_neg h, List.length_cons, List.length_cons]
      omega
structure Bd (m : MS) (n : Nat) : Prop where
  s : m.d.stack.length ≤ 2 * n
  b : m.back.length ≤ n
  t : m.d.store.length ≤ n
  o : m.d.output.length ≤ n
def LE3 (d d' : Dt) : Prop := d'.stack.length ≤ d.stack.length + 2 ∧ d'.store.length ≤ d.store.length + 1 ∧ d'.output.length ≤ d.output.length + 1
theorem LE3.ite {c : Prop} [Decidable c] {d a b : Dt} (h1 : LE3 d a) (h2 : LE3 d b) : LE3 d (if c then a else b) := by
  by_cases h : c
  · rw [if_pos h]
    exact h1
  · rw [if_neg h]
    exact h2
theorem dact_bd (nums : List Int) (op arg : Int) (d : Dt) : LE3 d (dact nums op arg d) := by
  have h1 := sput_le d.store d.top d.pop.top
  have h2 := sput_le d.store arg d.top
  unfold dact
  refine LE3.ite ?_ (LE3.ite ?_ (LE3.ite ?_ (LE3.ite ?_ (LE3.ite ?_ (LE3.ite ?_ (LE3.ite ?_ (LE3.ite ?_ (LE3.ite ?_ (LE3.ite ?_ (LE3.ite ?_ (LE3.ite ?_ ?_)))))))))))
  case refine_6 =>
    cases nums[d.place]? with
    | none =>
      show LE3 d (d.push (-1))
      unfold LE3
      simp only [Dt.push, List.length_append, List.length_cons, List.length_nil]
      refine ⟨?_, ?_, ?_⟩ <;> omega
    | some v =>
      show LE3 d { d.push v with place := d.place + 1 }
      unfold LE3
      simp only [Dt.push, List.length_append, List.length_cons, List.length_nil]
      refine ⟨?_, ?_, ?_⟩ <;> omega
  all_goals
    unfold LE3
    simp only [Dt.push, Dt.pop, Dt.bin, List.length_append, List.length_dropLast, List.length_cons, List.length_nil] at *
    refine ⟨?_, ?_, ?_⟩ <;> omega
theorem Bd.ite {c : Prop} [Decidable c] {n : Nat} {a b : MS} (h1 : Bd a n) (h2 : Bd b n) : Bd (if c then a else b) n := by
  by_cases h : c
  · rw [if_pos h]
    exact h1
  · rw [if_neg h]
    exact h2
theorem act_bd {T : Tb} {nums : List Int} {op arg : Int} {m : MS} {n : Nat} (h : Bd m n) : Bd (act T nums op arg m) (n + 1) := by
  obtain ⟨h1, h2, h3, h4⟩ := h
  obtain ⟨d1, d2, d3⟩ := dact_bd nums op arg m.d
  unfold act
  refine Bd.ite (Bd.ite ?_ ?_) (Bd.ite (Bd.ite ?_ ?_) (Bd.ite (Bd.ite ?_ ?_) (Bd.ite ?_ ?_)))
  all_goals
    constructor <;> (try simp only [Dt.push, Dt.pop, List.length_append, List.length_dropLast, List.length_cons, List.length_nil]) <;> (try simp only [Dt.push, Dt.pop, List.length_append, List.length_dropLast, List.length_cons, List.length_nil] at *) <;> omega
theorem step_bd {T : Tb} {nums : List Int} {m m' : MS} {n : Nat} (h : Bd m n) (e : step T nums m = some m') : Bd m' (n + 1) := by
  unfold step at e
  split at e
  · cases e
  · cases e
    exact act_bd (m := { m with at_ := _ }) ⟨h.s, h.b, h.t, h.o⟩
theorem runN_succ {T : Tb} {nums : List Int} {s : Nat} {m m1 : MS} (h : runN T nums s m = some m1) : runN T nums (s + 1) m = step T nums m1 := by
  rw [runN_add, h]
  show (step T nums m1).bind (runN T nums 0) = _
  cases step T nums m1 <;> rfl
theorem run_bd {T : Tb} {nums : List Int} : ∀ {s : Nat} {m : MS}, runN T nums s init = some m → Bd m s
  | 0, m, h => by
    cases h
    exact ⟨Nat.le_refl _, Nat.le_refl _, Nat.le_refl _, Nat.le_refl _⟩
  | s + 1, m, h => by
    have e : runN T nums (s + 1) init = (runN T nums s init).bind (runN T nums 1) := runN_add T nums s 1 init
    cases q : runN T nums s init with
    | none =>
      rw [e, q] at h
      cases h
    | some m1 =>
      rw [runN_succ q] at h
      exact step_bd (run_bd q) h
section
variable {T : Tb} {nums : List Int} {op arg : Int} {m : MS}
theorem sg_ne (h : ¬ op ∈ SG) : ∀ i, i ∈ SG → ¬ op = i := fun i hi e => h (e ▸ hi)
theorem act_else (h : ¬ op ∈ SG) (hl : isLet op = false) : act T nums op arg m = { m with d := dact nums op arg m.d } := by
  have n := sg_ne h
  unfold act
  rw [if_neg (n 63 (by decide)), if_neg (n 36 (by decide)), if_neg (n 41 (by decide)), if_neg (by rw [hl]; decide)]
theorem dact_else (h : ¬ op ∈ SG) (d : Dt) : dact nums op arg d = if 97 ≤ op ∧ op ≤ 122 then d.push (sget d.store op) else d := by
  have n := sg_ne h
  unfold dact
  rw [if_neg (n 35 (by decide)), if_neg (fun z => z.elim (n 43 (by decide)) fun z => z.elim (n 45 (by decide)) fun z => z.elim (n 42 (by decide)) fun z => z.elim (n 60 (by decide)) (n 126 (by decide))), if_neg (n 64 (by decide)), if_neg (n 33 (by decide)), if_neg (n 61 (by decide)), if_neg (n 44 (by decide)),
    if_neg (n 94 (by decide)), if_neg (n 46 (by decide)), if_neg (n 95 (by decide)), if_neg (n 34 (by decide)), if_neg (n 92 (by decide))]
theorem act_low (h : ¬ op ∈ SG) (h1 : 97 ≤ op) (h2 : op ≤ 122) : act T nums op arg m = { m with d := m.d.push (sget m.d.store op) } := by
  rw [act_else h (by unfold isLet; rw [decide_eq_false (show ¬ op ≤ 90 by omega), Bool.and_false]), dact_else h, if_pos ⟨h1, h2⟩]
theorem act_cap (h : ¬ op ∈ SG) (h1 : 65 ≤ op) (h2 : op ≤ 90) : act T nums op arg m = { m with at_ := op, back := m.back ++ [m.at_] } := by
  have n := sg_ne h
  unfold act
  rw [if_neg (n 63 (by decide)), if_neg (n 36 (by decide)), if_neg (n 41 (by decide)), if_pos (by unfold isLet; rw [decide_eq_true h1, decide_eq_true h2]; rfl)]
theorem act_no (h : ¬ op ∈ SG) (h1 : ¬ (97 ≤ op ∧ op ≤ 122)) (h2 : ¬ (65 ≤ op ∧ op ≤ 90)) : act T nums op arg m = m := by
  rw [act_else h, dact_else h, if_neg h1]
  unfold isLet
  by_cases a : (65 : Int) ≤ op
  · rw [decide_eq_false (show ¬ op ≤ 90 from fun b => h2 ⟨a, b⟩), Bool.and_false]
  · rw [decide_eq_false a, Bool.false_and]
end
end Pl
namespace Pl
variable {T T' : Tb} {nums : List Int}
theorem ended_of {s' s : Nat} {d : Dt} {m : MS} (h : EndsAt T nums s' d) (r : runN T nums s init = some m) (hs : s' ≤ s) : T m.at_ = none ∧ m.d = d ∧ s = s' := by
  obtain ⟨me, re, ee, qe⟩ := h
  have l := runN_some_le re ee r
  have e : s = s' := by omega
  subst e
  rw [re] at r
  cases r
  exact ⟨ee, qe, rfl⟩
theorem agree_case1 {f : Nat → Nat} (A : Agree T T' f) {s1 s2 : Nat} {d : Dt} {m2 : MS} (e : EndsAt T nums s1 d) (r : runN T' nums s2 init = some m2) (h : s2 = s1 ∨ T' m2.at_ = none) : T' m2.at_ = none ∧ m2.d = d := by
  obtain ⟨s', hs, E⟩ := A.fwd nums s1 d e
  rcases h with h | h
  · obtain ⟨a, b, _⟩ := ended_of E r (by omega)
    exact ⟨a, b⟩
  · have E2 : EndsAt T' nums s2 m2.d := ⟨m2, r, h, rfl⟩
    exact ⟨h, (E2.det E).2⟩
theorem agree_case2 {F budget s2 : Nat} (A : Agree T T' (fun s => (s + 1) * F)) {m1 m2 : MS} (r1 : runN T nums budget init = some m1) (ne : ¬ T m1.at_ = none) (r2 : runN T' nums s2 init = some m2) (hs : s2 ≤ budget / F - 1) : ¬ T' m2.at_ = none := by
  intro e
  refine ne ?_
  have E2 : EndsAt T' nums s2 m2.d := ⟨m2, r2, e, rfl⟩
  by_cases z : budget / F = 0
  · have : s2 = 0 := by
      rw [z] at hs
      omega
    subst this
    cases r2
    have z0 : T 0 = none := A.zero e
    have E1 : EndsAt T nums 0 init.d := ⟨init, rfl, z0, rfl⟩
    exact (ended_of E1 r1 (Nat.zero_le _)).1
  · obtain ⟨s, hs', E1⟩ := A.bwd nums s2 m2.d E2
    have h1 : (s2 + 1) * F ≤ (budget / F) * F := Nat.mul_le_mul_right F (by generalize budget / F = c at z hs; omega)
    have h2 : (budget / F) * F ≤ budget := Nat.div_mul_le_self budget F
    exact (ended_of E1 r1 (by omega)).1
theorem agree_case3 {F s1 s2 : Nat} (A : Agree T T' (fun s => (s + 1) * F)) {d : Dt} {m1 : MS} (E2 : EndsAt T' nums s2 d) (h6 : s2 ≤ 6) (r1 : runN T nums s1 init = some m1) (h : s1 = 7 * F ∨ T m1.at_ = none) : T m1.at_ = none ∧ m1.d = d ∧ s2 ≤ s1 := by
  obtain ⟨s, hs, E1⟩ := A.bwd nums s2 d E2
  have h1 : (s2 + 1) * F ≤ 7 * F := Nat.mul_le_mul_right F (by omega)
  have key : T m1.at_ = none ∧ m1.d = d ∧ s1 = s := by
    rcases h with h | h
    · exact ended_of E1 r1 (by omega)
    · have E : EndsAt T nums s1 m1.d := ⟨m1, r1, h, rfl⟩
      obtain ⟨a, b⟩ := E.det E1
      exact ⟨h, b, a⟩
  obtain ⟨k1, k2, k3⟩ := key
  obtain ⟨s', hs', E3⟩ := A.fwd nums s d E1
  have := (E2.det E3).1
  exact ⟨k1, k2, by omega⟩
end Pl
namespace PH
open PySem PySem.Spec PyProof.Rows L2
/-- the i-th statement of the top -/
def tp (i : Nat) : Stmt := PySem.Challenge.pw_plinth_k37_whole_shorter_images_agree.main.body.getD i (.Pass ⟨0, 0, 0, 0⟩)
def dd (x : Str) (i : Nat) : He.DefD := { at_ := (x, none), name := x, qual := x, params := defArgs (tp i), body := defBody (tp i), scope := defScope (tp i) }
def dm (m q : Str) (j : Nat) : He.DefD := { at_ := ("State", some m), name := m, qual := q, params := defArgs (inClass (tp 59) j), body := defBody (inClass (tp 59) j), scope := defScope (inClass (tp 59) j) }
def fn0 : List He.DefD := [dd "nodes_of" 2, dd "table_of" 3, dd "is_letter" 7, dd "is_nop" 8, dd "combined" 9, dd "written" 10, dd "_ways" 11, dd "reached" 12, dd "is_closed_table" 13, dd "has_nop" 14, dd "passed" 15, dd "target_in" 16, dd "threaded" 18, dd "_folded" 19, dd "_folded_table" 20, dd "_pruned" 21, dd "_order" 22, dd "renumbered" 23, dd "thread" 24, dd "fold" 25, dd "prune" 26, dd "renumber" 27, dd "trim" 28, dd "_push" 38, dd "_plus" 39, dd "_minus" 40, dd "_digit" 41, dd "_less" 42, dd "_same" 43, dd "_load" 44]
def fn1 : List He.DefD := [dd "_keep" 45, dd "_assign" 46, dd "_take" 47, dd "_rewind" 48, dd "_emit" 49, dd "_drop" 51, dd "_double" 52, dd "_exchange" 53, dd "_test" 54, dd "_call_low" 56, dd "_return" 57, dd "_first_class" 61, dd "_numbered" 62, dd "_later_key" 63, dd "classes_in" 64, dd "_representatives" 65, dd "merged" 66, dd "merge" 67, dd "_law_number" 69, dd "_law_draws" 70, dd "_law_draw" 71, dd "_law_pick" 72, dd "_law_number_of" 73, dd "_law_op" 74, dd "_law_arg" 75, dd "_law_image" 76, dd "_law_shown" 77, dd "_law_behind" 78, dd "_law_agree" 79, dd "_law_agree_both" 80]
def fn2 : List He.DefD := [dd "law" 81, dm "__init__" "State.__init__" 0, dm "pull" "State.pull" 1, dm "has_ended" "State.has_ended" 2, dm "step" "State.step" 3, dm "advance" "State.advance" 4]
def fn : List He.DefD := fn0 ++ fn1 ++ fn2
def fa0 : List He.Fa := [.free "range", .free "len", .free "list", .free "tuple", .free "sorted", .free "max", .free "min", .free "int", .int "FIRST_LETTER" 97, .int "LAST_LETTER" 122, .int "FIRST_CAPITAL" 65, .int "LAST_CAPITAL" 90, .int "LAST_LOW" 199, .glo "SIGNS", .glo "PAIRS", .glo "DEEDS", .glo "State", .cls "State", .mkr "State", .noat "State" "image", .noat "State" "numbers", .noat "State" "table", .noat "State" "at", .noat "State" "stack", .noat "State" "store", .noat "State" "back", .noat "State" "place", .noat "State" "output", .noat "State" "steps", .meth "State" "pull"]
def fa1 : List He.Fa := [.meth "State" "has_ended", .meth "State" "step", .meth "State" "advance"]
def fa2 : List He.Fa := [.glo "nodes_of", .glo "table_of", .glo "is_letter", .glo "is_nop", .glo "combined", .glo "written", .glo "_ways", .glo "reached", .glo "is_closed_table", .glo "has_nop", .glo "passed", .glo "target_in", .glo "threaded", .glo "_folded", .glo "_folded_table", .glo "_pruned", .glo "_order", .glo "renumbered", .glo "thread", .glo "fold", .glo "prune", .glo "renumber", .glo "trim", .glo "_push", .glo "_plus", .glo "_minus", .glo "_digit", .glo "_less", .glo "_same", .glo "_load"]
def fa3 : List He.Fa := [.glo "_keep", .glo "_assign", .glo "_take", .glo "_rewind", .glo "_emit", .glo "_drop", .glo "_double", .glo "_exchange", .glo "_test", .glo "_call_low", .glo "_return", .glo "_first_class", .glo "_numbered", .glo "_later_key", .glo "classes_in", .glo "_representatives", .glo "merged", .glo "merge", .glo "_law_number", .glo "_law_draws", .glo "_law_draw", .glo "_law_pick", .glo "_law_number_of", .glo "_law_op", .glo "_law_arg", .glo "_law_image", .glo "_law_shown", .glo "_law_behind", .glo "_law_agree", .glo "_law_agree_both"]
def fa4 : List He.Fa := [.glo "law"]
def fa : List He.Fa := fa0 ++ fa1 ++ fa2 ++ fa3 ++ fa4
def deeds : List (Int × Str) := [(35, "_push"), (43, "_plus"), (45, "_minus"), (42, "_digit"), (60, "_less"), (126, "_same"), (64, "_load"), (33, "_keep"), (61, "_assign"), (44, "_take"), (94, "_rewind"), (46, "_emit"), (38, "_cell"), (95, "_drop"), (34, "_double"), (92, "_exchange"), (63, "_test"), (40, "_call"), (36, "_call_low"), (41, "_return")]
def signs : List He.Dv := [.int 33, .int 34, .int 35, .int 36, .int 38, .int 40, .int 41, .int 42, .int 43, .int 44, .int 45, .int 46, .int 60, .int 61, .int 63, .int 64, .int 92, .int 94, .int 95, .int 126]
def pairs : List He.Dv := [.int 42, .int 43, .int 45, .int 60, .int 126]
def lo0 : List PySem.Str := ["_wall", "nodes_of", "table_of", "SIGNS", "PAIRS", "is_letter", "is_nop", "combined", "written", "_ways", "reached", "is_closed_table", "has_nop", "passed", "target_in", "threaded", "_folded", "_folded_table", "_pruned", "_order", "renumbered", "thread", "fold", "prune", "renumber", "trim", "PlinthError", "BadFuel", "FIRST_LETTER", "LAST_LETTER"]
def lo1 : List PySem.Str := ["FIRST_CAPITAL", "LAST_CAPITAL", "LAST_LOW", "_push", "_plus", "_minus", "_digit", "_less", "_same", "_load", "_keep", "_assign", "_take", "_rewind", "_emit", "_cell", "_drop", "_double", "_exchange", "_test", "_call", "_call_low", "_return", "DEEDS", "State", "_first_class", "_numbered", "_later_key", "classes_in", "_representatives"]
def lo2 : List PySem.Str := ["merged", "merge", "_law_number", "_law_draws", "_law_draw", "_law_pick", "_law_number_of", "_law_op", "_law_arg", "_law_image", "_law_shown", "_law_behind", "_law_agree", "_law_agree_both"]
def loose : List PySem.Str := lo0 ++ lo1 ++ lo2
-- law at 81
def entB (K : PySem.W.Frag) (e : DictEntry) (p : Int × Str) : Bool := match e.key, e.val with
  | .int i _, .ref a => decide (i = p.1) && (decide (e.hash = hashInt p.1) && decide (a = He.ga K p.2))
  | _, _ => false
def entsB (K : PySem.W.Frag) : List DictEntry → List (Int × Str) → Bool
  | [], [] => true
  | e :: es, p :: ps => entB K e p && entsB K es ps
  | _, _ => false
def deedsB (K : PySem.W.Frag) : Bool := match K.lookup (He.ga K "DEEDS") with
  | some ⟨.type c, none, .dict es _, sl⟩ => decide (c = "dict") && (sl.isEmpty && (!(He.ga K "DEEDS" == sysModules) && entsB K es.toList deeds))
  | _ => false
def moreB (K : PySem.W.Frag) : Bool := He.tupB K "SIGNS" signs && (He.tupB K "PAIRS" pairs && deedsB K)
abbrev AlP : Type := He.AlD × Bool
def obsP (g : Addr → Option Obj) : AlP := (He.obsDG 5 fa fn g, moreB (He.frG g (He.asD g 5)))
def SaysP (K : PySem.W.Frag) : Prop := He.SaysD fa fn K ∧ moreB K = true
def hookP : PySem.W.Hook where
  α := AlP
  obs := fun s => obsP s.heap.get?
  val := fun _ => (He.valD fn, true)
  says := fun _ h => ∃ K : PySem.W.Frag, K.In h ∧ SaysP K
  of := fun _ _ e => ⟨_, He.frG_in, congrArg (fun z : AlP => z.1) e, congrArg (fun z : AlP => z.2) e⟩
  keeps := fun _ _ _ ⟨K, hK, c⟩ k => ⟨K, PySem.W.Frag.In.keeps hK k, c⟩
abbrev R : PySem.W.OpenRow := PySem.W.OpenLaw.row PySem.Challenge.rw_plinth_k37_whole_shorter_images_agree
def ob (s : PySem.W.SharedT) : AlP := obsP (HandSHeadRun.getT s)
theorem ob_eq (s : PySem.W.SharedT) : ob s = hookP.obs s.abs := by
  have e : HandSHeadRun.getT s = s.abs.heap.get? := funext fun a => HandSHeadRun.getT_eq s a
  unfold ob
  rw [e]
  rfl
theorem run_f (w : World) : HandSHeadRun.RunEq R (PySem.W.view R.prog [81]) hookP ob 20000 loose (w.withFollow "special-get-raises" false) := by
  intro os
  kernel_rfl
theorem run_t (w : World) : HandSHeadRun.RunEq R (PySem.W.view R.prog [81]) hookP ob 20000 loose (w.withFollow "special-get-raises" true) := by
  intro os
  kernel_rfl
theorem run (w : World) : HandSHeadRun.RunEq R (PySem.W.view R.prog [81]) hookP ob 20000 loose w := PySem.W.byRow2 "special-get-raises" run_f run_t w
end PH
namespace Zw
open PySem PySem.Spec PyProof.Rows L2 PH

structure Cal (P : Program) (w : World) (K : PySem.W.Frag) (mg : Str → Option Value) (base : Heap) (j : Nat) (x : Str) (ps : List Str) (sp : Sp) : Prop where
  ex : ∃ f fd, FnOk P w K mg base CX0 j f fd ps sp ∧ mg x = some (.ref f) ∧ PySem.W.keepIn K (.ref f) = true ∧ Binds K fd ps []
section
variable {X : Cx} {j k : Nat} {x : Str} {ps : List Str} {sp : Sp} {p pos : Pos} {e : Expr} {es : List Expr} {t : TA}
theorem pe_c (G : Cal X.prog X.w X.K X.mg X.base j x ps sp) (hr : Room k X.A) (ha : PA X (e :: es) t) (hj : j ≤ k := by decide) (hg : Gl X x := by rfl)
    (hdb : (x == ("__debug__" : Str)) = false := by decide) (he : starEach (e :: es) X.env = (false, eval e X.env) :: starEach es X.env := by rfl)
    (hpl : (backTo pos (starEach es X.env)).any (·.1) = false := by rfl) : PE X (.Call (.Name x p) (e :: es) [] pos) (tCall sp [] E0 t) := by
  obtain ⟨f, fd, F, hm, hk, hb⟩ := G.ex
  exact pe_call F (hr.mono hj) hg hm hk hb .nil pass0 ha hdb he hpl
end

def tMethK (C : Addr) (m : Str) (nk : Nat) (sp : Sp) (gV : List V → List V → List V) (ta : TE) (tk : TA) : TE := fun σ H Q => ta σ H fun x H1 => ∃ a dx fs, x = .ref a ∧ H1 a = some (.ins C dx fs) ∧ fs.lookup m = none ∧
  tk σ H1 fun zs H2 => zs.length = nk ∧ sp (gV [x] zs) H2 Q E0
theorem pe_methKw {X : Cx} {k : Nat} {f C : Addr} {fd : FuncData} {ps ks : List Str} {g : List Value → List Value → List Value} {gV : List V → List V → List V} {sp : Sp} {m : Str} {pos apos : Pos} {o : Expr} {kws : List Keyword} {ta : TE} {tk : TA} {pl : Sem Bool}
    (ho : PE X o ta) (c : Cls X.K C) (hm : Meth X.K C m f) (G : FnOk X.prog X.w X.K X.mg X.base CX0 k f fd ps sp) (hr : Room k X.A) (hb : KBn X.K fd ps 1 ks g gV) (hkw : PK X kws tk)
    (hall : (backToKw pos (keywordEach kws X.env)).all (·.1.isSome) = true := by rfl) (hks : (backToKw pos (keywordEach kws X.env)).filterMap (·.1) = ks := by rfl)
    (hpl : ((backTo pos (starEach [] X.env)).any (·.1) || (backToKw pos (keywordEach kws X.env)).any (·.1.isNone)) = false := by rfl)
    (hev : eval (.Call (.Attribute o m apos) [] kws pos) X.env = (do
      let ov ← eval o X.env
      standAt apos.atName
      let (f, first) ← holding [ov] (getMethod ov m pl)
      callWith pos f first (backTo pos (starEach [] X.env)) (backToKw pos (keywordEach kws X.env))) := by rfl) :
    PE X (.Call (.Attribute o m apos) [] kws pos) (tMethK C m ks.length sp gV ta tk) := by
  refine ⟨fun pins s σ H Q I h => PySem.W.methodCall_KW (pl := pl) (thn (ho.run pins s σ H _ I h) fun u s1 h1 => ?_) hev⟩
  obtain ⟨x, H1, I1, rx, a, dx, fs, ex, ea, l, q⟩ := h1
  cases ex
  obtain rfl : u = Value.ref a := rx
  refine getmeth_ok I1 ea c hm l (PySem.W.callWith_KW0 (first := [.ref a]) (h₀ := X.base) I1.ok.mod.kin hm.kp hall ?_ hpl)
  refine thn (hkw.run pos pins s1 σ H1 _ I1 q) fun ws s2 h2 => ?_
  obtain ⟨zs, H2, I2, rz, l2, q2⟩ := h2
  refine ⟨I2.kIn, ?_⟩
  rw [hks]
  exact run_fnN (us := [.ref a]) (vs := [.ref a]) G hr hb pass0 I2 (.cons rfl .nil) rz rfl l2 q2

theorem call_lenR {X : Cx} : CallR X (.builtin "len") (fun xs H Q => ∃ a kvs, xs = [V.ref a] ∧ Rd H a (.dK kvs) ∧ Q (.int kvs.length) H) := by
  intro pins s σ H xs us Q I r h
  obtain ⟨a, kvs, e, ha, q⟩ := h
  subst e
  cases r with
  | cons r0 rn =>
    cases rn
    cases r0
    exact d_len I ha fun t s' I' => ⟨.int kvs.length, H, I', ⟨t, rfl⟩, q⟩

theorem sw_dc {kx vx : Expr} {gs : List Comprehension} {scope : Scope} {pos py : Pos} {y : Str} {l : Nat} {env : Env} (hk : env.scope.kind = .function) (hy : env.scope.names.lookup y = some .local) (hl : (py.line == pos.line) = true)
    (ha : (scope.names.any fun (n, k) => n == y && (k == .local || k == .cell)) = false) : swapsWith (.DictComp kx vx gs scope pos) (some (.Name y py)) l env = pure true := by
  have ky : env.kindOf y = some .local := hy
  have hb : env.blockKind = .function := by
    unfold Env.blockKind
    rw [hk]
    rfl
  unfold swapsWith
  simp only [hb, ky, ha, Expr.pos, hl]
  rfl
theorem ps_setDc {X : Cx} {i : Nat} {y : Str} {py : Pos} {kx vx tg iter : Expr} {ifs : List Expr} {scope : Scope} {own : List (Str × Nat)} {pos spos : Pos} {wi : TI} {g : TG} {tt : TT} {tk tv : TE} (hc : X.calm = true) (hN : X.N.Nodup) (hy : X.N[i]? = some y)
    (hyl : X.env.scope.names.lookup y = some .local) (hsw : swapsWith (.DictComp kx vx [⟨tg, iter, ifs, 0⟩] scope pos) (some (.Name y py)) spos.line X.env = pure true) (hi : PI X tg iter wi) (ok : BlkOk X.N X.env.scope scope own)
    (hg : ∀ (s : Shared) (H : Hp) (C : Addr) (cl : List (Str × Addr)) (fp : List Addr), PG (X.blk s H scope (compEnvC scope cl C X.env) fp) tg g)
    (ht : ∀ (s : Shared) (H : Hp) (C : Addr) (cl : List (Str × Addr)) (fp : List Addr), PTs (X.blk s H scope (compEnvC scope cl C X.env) fp) ifs tt)
    (hk : ∀ (s : Shared) (H : Hp) (C : Addr) (cl : List (Str × Addr)) (fp : List Addr), PE (X.blk s H scope (compEnvC scope cl C X.env) fp) kx tk)
    (he : ∀ (s : Shared) (H : Hp) (C : Addr) (cl : List (Str × Addr)) (fp : List Addr), PE (X.blk s H scope (compEnvC scope cl C X.env) fp) vx tv) (hs : ∀ x, foldedSetIterable iter X.env x = pure x := by intro _; rfl) :
    PS X (.Assign [.Name y py] (.DictComp kx vx [⟨tg, iter, ifs, 0⟩] scope pos) spos) (tAsg (tDc wi g tt tk tv (own.map (·.2))) (gName i)) := by
  refine ⟨fun pins s σ H D I h => ?_⟩
  rw [exec_Assign_Name_used _ _ _ _ hsw]
  refine wpAny_bind (wpAny_standAt (wpAny_bind ?_))
  have h' : tDc wi g tt tk tv (own.map (·.2)) σ H (fun x H1 => gName i x σ H1 D.nx) := h
  show wpAny _ X.A (do let _ ← comprehension (.DictComp kx vx [⟨tg, iter, ifs, 0⟩] scope pos) scope X.env (firstIterPos [⟨tg, iter, ifs, 0⟩] pos) newDict false (eval iter X.env) (some (assign (.Name y py) X.env))) _ _ s
  refine wpAny_bind (thn (dc_core (Qf := fun _ s' => SP X pins D .next s') hc hN I hi ok hg ht hk he hs h' fun L C s' m H' I' q hn f => ?_) fun _ s' hq => wpAny_pure (wpAny_pure hq))
  show wpAny _ _ (assign (.Name y py) X.env (.ref L)) _ _ _
  obtain ⟨f0, f1, f2, f3, f4, f5⟩ := f
  refine wpAny_assign_Name (store_ok2 (v := V.ref L) I' hN hy (.inl hyl) rfl (fun s2 I2 hx => ?_) (.inr hyl))
  obtain ⟨a, sb, ha⟩ := hx
  have haC : C ≠ a := ha.elim (fun z => by rw [z]; exact f1) fun z e => f4 y a z e.symm
  exact ⟨m, hn.sameBut sb haC, fun h3 sb3 => ⟨_, H', I2.turned (t' := s2.toks) (fun b o hb e => (sb3.2 b hb).trans e) f0 f1 f3 f4 f5, q⟩⟩

def tMaxVals (td : TE) : TE := fun σ H Q => td σ H fun x H1 => ∃ a kvs is, x = V.ref a ∧ H1 a = some (.dK kvs) ∧ kvs.map (·.2) = is.map V.int ∧ is ≠ [] ∧ ∀ m, m ∈ is → (∀ j ∈ is, j ≤ m) → Q (.int m) H1
theorem pe_maxVals {X : Cx} {o : Expr} {p pos apos mpos : Pos} {td : TE} (hc : X.calm = true) (hg : Gl X "max") (hm : X.mg "max" = none) (hd : PE X o td) (hbase : attributeBase o "values" X.env (eval o X.env) = eval o X.env := by rfl)
    (hline : (apos.endLine == mpos.line) = true := by rfl) (hse : starEach [Expr.Call (.Attribute o "values" apos) [] [] mpos] X.env = [(false, eval (Expr.Call (.Attribute o "values" apos) [] [] mpos) X.env)] := by rfl) :
    PE X (.Call (.Name "max" p) [.Call (.Attribute o "values" apos) [] [] mpos] [] pos) (tMaxVals td) := by
  refine ⟨fun pins s σ H Q I h => ?_⟩
  refine wpAny_Call_Name_kw (ld_blt I hg hm (u := .builtin "max") (by decide +kernel) ?_ (by decide +kernel) (by decide +kernel))
  rw [hse]
  refine PySem.callWith_builtin1 (wpAny_Call_method0_late hbase hline (thn (hd.run pins s σ H _ I h) fun v s1 h1 => ?_))
  obtain ⟨x, H1, I1, r1, a, kvs, is, ex, ha, hv, hne, q⟩ := h1
  cases ex
  obtain rfl : v = Value.ref a := r1
  obtain ⟨_, hsys, vs, rel, dof⟩ := dk_of I1.hok ha
  obtain ⟨ep, dat⟩ := dof.dictAt
  obtain ⟨ob, es, ho, ex, hdat, hko, hpr, hnd⟩ := id dat
  have tis : s1.TypeIs (.ref a) "dict" := ⟨ob, ho, ex.1⟩
  refine ⟨"dict", "dict.values", PySem.F.plainAttrs_dict, PySem.F.slot_dict_values, PySem.F.type_dict_values, tis, fun b e => ?_, Calls.callWith_builtin rfl (PySem.evalArgs_none ?_)⟩
  · cases e
    exact ⟨ob, ho, ex.2.1⟩
  refine call_meetsIn PySem.F.slot_dict_values tis PySem.F.entry_dict_values (PySem.F.args_dict_values_1 _) (meets_dict_values (mixKind X.prog X.w) a hsys) ⟨⟨vs, dof⟩, ?_⟩
  generalize hh2 : s1.heap.push { cls := .type "dict_values", data := .fields #[.ref a] } = h2
  have k1 : ∀ b u, s1.heap.get? b = some u → h2.get? b = some u := fun b u e => by
    rw [← hh2]
    exact Heap.get?_push_of_some _ e
  have hsz : h2.objs.size = s1.heap.objs.size + 1 := by
    rw [← hh2]
    exact Heap.size_push _ _
  have hvw : h2.get? s1.heap.objs.size = some { cls := .type "dict_values", data := .fields #[.ref a] } := by
    rw [← hh2]
    exact Heap.get?_push_size _ rfl
  have dat1 : h2.DictAt (mixKind X.prog X.w) a vs ep := dat.keep k1
  have hlv : vs.length = is.length := by
    have e1 := congrArg List.length hv
    rw [List.length_map, List.length_map] at e1
    exact (KV.length rel).symm.trans e1
  have hpos : 0 < vs.length := by
    rw [hlv]
    exact List.length_pos_iff.mpr hne
  have hval : ∀ (i : Nat) (v : Value), (∃ k, vs[i]? = some (k, v)) → ∃ t, v = Value.int (is.getD i 0) t := fun i v hk => by
    obtain ⟨k, hk⟩ := hk
    obtain ⟨x, g1, g2⟩ := KV.at' rel hk
    have e1 : (kvs.map (·.2))[i]? = some x := by
      rw [List.getElem?_map, g1]
      rfl
    rw [hv, List.getElem?_map] at e1
    obtain ⟨z, hz, e2⟩ := Option.map_eq_some_iff.mp e1
    cases e2
    obtain ⟨t, e3⟩ := g2
    refine ⟨t, ?_⟩
    rw [e3, List.getD_eq_getElem?_getD, hz]
    rfl
  have hlt : a < s1.heap.objs.size := Heap.lt_size ho
  refine call_max_walk (wpAny_pyIter_values (v := s1.heap.objs.size) (d := a) ⟨_, hvw, rfl, rfl⟩ dat1 ?_)
  refine ⟨_, _, _, _, _, _, _, rfl, Walks.dictValues (knd := mixKind X.prog X.w) (A := X.A.in1) (I.ok.hd hc) h2.objs.size a (by rw [hsz]; exact Nat.ne_of_lt (Nat.lt_succ_of_lt hlt)) vs ep,
    ⟨⟨_, Heap.get?_push_size _ rfl, rfl, rfl⟩, dat1.keep fun b u e => Heap.get?_push_of_some _ e⟩, fun b hb => ?_, hpos, CmpOf.ints_gt (fun i => is.getD i 0) hval, fun v h' tk hP hk => ?_⟩
  · show b < (h2.push _).objs.size
    rw [Heap.size_push]
    rcases List.mem_cons.mp hb with e | hb
    · rw [e]
      exact Nat.lt_succ_self _
    · rw [List.mem_singleton.mp hb, hsz]
      exact Nat.lt_succ_of_lt (Nat.lt_succ_of_lt hlt)
  · obtain ⟨t, e⟩ := hval _ v hP
    subst e
    obtain ⟨b1, b2⟩ := argBest_gt (fun i => is.getD i 0) (vs.length - 1)
    refine ⟨.int _, H1, I1.kept (t' := tk) fun b u e => hk b u (fun hmem => ?_) (Heap.get?_push_of_some _ (k1 b u e)), ⟨t, rfl⟩, q _ ?_ fun z hz => ?_⟩
    · have e1 : b = h2.objs.size := List.mem_singleton.mp hmem
      have e2 := Heap.lt_size e
      rw [e1, hsz] at e2
      exact absurd e2 (Nat.not_lt.mpr (Nat.le_succ _))
    · rw [List.getD_eq_getElem?_getD, List.getElem?_eq_getElem (by omega)]
      exact List.getElem_mem _
    · obtain ⟨i, hi, e⟩ := List.mem_iff_getElem.mp hz
      have e2 : is.getD i 0 = z := by
        rw [List.getD_eq_getElem?_getD, List.getElem?_eq_getElem hi, ← e]
        rfl
      rw [← e2]
      exact b2 i (by omega)
end Zw
namespace Zw
open PySem PySem.Spec PyProof.Rows L2 PH

def findD : List (Int × Str) → Int → Option Str
  | [], _ => none
  | p :: r, i => if p.1 = i then some p.2 else findD r i
theorem ba {a b : Bool} (h : (a && b) = true) : a = true ∧ b = true := Bool.and_eq_true_iff.mp h
theorem ents_find {K : PySem.W.Frag} : ∀ {es : List DictEntry} {ps : List (Int × Str)}, entsB K es ps = true → ∀ i, (es.find? fun e => Value.isInt i e.key).map (·.val) = (findD ps i).map fun x => Value.ref (He.ga K x)
  | [], [], _, i => rfl
  | e :: es, p :: ps, h, i => by
    obtain ⟨h1, h2⟩ := ba (show (entB K e p && entsB K es ps) = true from h)
    obtain ⟨hs, key, val⟩ := e
    unfold entB at h1
    split at h1
    · rename_i j t a ek ev
      obtain ⟨h3, h4⟩ := ba h1
      obtain ⟨h5, h6⟩ := ba h4
      have e1 : j = p.1 := of_decide_eq_true h3
      have e2 : a = He.ga K p.2 := of_decide_eq_true h6
      have ek : key = .int j t := ek
      have ev : val = .ref a := ev
      subst ek ev e1 e2
      rw [List.find?_cons]
      unfold findD
      by_cases q : p.1 = i
      · rw [if_pos q, show Value.isInt i (Value.int p.1 t) = true from by rw [q]; exact beq_self_eq_true i]
        rfl
      · rw [if_neg q, show Value.isInt i (Value.int p.1 t) = false from beq_eq_false_iff_ne.mpr q]
        exact ents_find h2 i
    · cases h1
  | [], _ :: _, h, i => by cases h
  | _ :: _, [], h, i => by cases h
theorem ents_keys {P : Program} {w : World} {K : PySem.W.Frag} : ∀ {es : List DictEntry} {ps : List (Int × Str)}, entsB K es ps = true → ∀ e ∈ es, ∃ k, (intKind P w).is k e.key = true ∧ e.hash = (intKind P w).hash k
  | [], [], _, e, he => by cases he
  | d :: es, p :: ps, h, e, he => by
    obtain ⟨h1, h2⟩ := ba (show (entB K d p && entsB K es ps) = true from h)
    rcases List.mem_cons.mp he with q | q
    · subst q
      obtain ⟨hs, key, val⟩ := e
      unfold entB at h1
      split at h1
      · rename_i j t a ek ev
        obtain ⟨h3, h4⟩ := ba h1
        obtain ⟨h5, h6⟩ := ba h4
        have e1 : j = p.1 := of_decide_eq_true h3
        have e3 : hs = hashInt p.1 := of_decide_eq_true h5
        have ek : key = .int j t := ek
        subst ek e1 e3
        exact ⟨p.1, beq_self_eq_true p.1, rfl⟩
      · cases h1
    · exact ents_keys h2 e q
  | [], _ :: _, h, e, he => by cases h
  | _ :: _, [], h, e, he => by cases h
theorem deeds_map {P : Program} {w : World} {K : PySem.W.Frag} {h : Heap} (X : K.In h) (c : deedsB K = true) :
    (He.ga K "DEEDS" == sysModules) = false ∧ h.MapOf (intKind P w) (He.ga K "DEEDS") fun i => (findD deeds i).map fun x => Value.ref (He.ga K x) := by
  unfold deedsB at c
  split at c
  · rename_i c0 es n sl q
    obtain ⟨c1, c2⟩ := ba c
    obtain ⟨c3, c4⟩ := ba c2
    obtain ⟨c5, c6⟩ := ba c4
    have e1 : c0 = "dict" := of_decide_eq_true c1
    have e2 : sl = #[] := Array.isEmpty_iff.mp c3
    subst e1 e2
    refine ⟨by simpa using c5, _, es, n, X _ _ q, ⟨rfl, rfl, rfl⟩, rfl, fun e he => ents_keys c6 e (Array.mem_toList_iff.mpr he), fun i => ?_⟩
    show findBy Value.isInt es i = (findD deeds i).map fun x => Value.ref (He.ga K x)
    rw [← ents_find c6 i]
    obtain ⟨l⟩ := es
    unfold findBy
    rw [List.find?_toArray]
  · cases c
section
variable {X : Cx}
/-- op in DEEDS -/
theorem op_inDeeds (c : deedsB X.K = true) : OpR X (compareOp .In) (fun x y H Q => ∃ i, x = .int i ∧ y = .ref (He.ga X.K "DEEDS") ∧ Q (.bl (findD deeds i).isSome) H) := by
  intro pins s σ H x y v u Q I rx ry h
  obtain ⟨i, ex, ey, q⟩ := h
  subst ex ey
  obtain ⟨t, rfl⟩ := rx
  cases ry
  obtain ⟨low, hm⟩ := deeds_map (P := X.prog) (w := X.w) I.kIn c
  refine wpAny_in_of (k := i) (beq_self_eq_true i) low hm ?_
  rw [Option.isSome_map]
  exact ⟨.bl _, H, I.tok _, rfl, q⟩
/-- DEEDS[op] -/
theorem ix_deeds (c : deedsB X.K = true) : IxR X (fun x y H Q => ∃ i f, x = .ref (He.ga X.K "DEEDS") ∧ y = .int i ∧ findD deeds i = some f ∧ Q (.ref (He.ga X.K f)) H) := by
  intro value slice pins s σ H x y v u Q I rx ry h hs
  obtain ⟨i, f, ex, ey, ef, q⟩ := h
  subst ex ey
  obtain rfl : v = Value.ref (He.ga X.K "DEEDS") := rx
  obtain ⟨t, rfl⟩ := ry
  obtain ⟨low, hm⟩ := deeds_map (P := X.prog) (w := X.w) I.kIn c
  have hv : (findD deeds i).map (fun x => Value.ref (He.ga X.K x)) = some (Value.ref (He.ga X.K f)) := by rw [ef]; rfl
  exact tail_any hm.typeIs slot_dict_getitem.lookup (wpAny_getItem_of (k := i) (beq_self_eq_true i) hm hv ⟨.ref _, H, I.tok _, rfl, q⟩) hs
end
end Zw
namespace Zw
open PySem PySem.Spec PyProof.Rows L2 PH

structure Txt (K : PySem.W.Frag) (mg : Str → Option Value) : Prop where
  range : mg "range" = none
  len : mg "len" = none
  list : mg "list" = none
  tuple : mg "tuple" = none
  sorted : mg "sorted" = none
  max : mg "max" = none
  min : mg "min" = none
  int : mg "int" = none
  cFIRST_LETTER : ∃ t, mg "FIRST_LETTER" = some (.int 97 t)
  cLAST_LETTER : ∃ t, mg "LAST_LETTER" = some (.int 122 t)
  cFIRST_CAPITAL : ∃ t, mg "FIRST_CAPITAL" = some (.int 65 t)
  cLAST_CAPITAL : ∃ t, mg "LAST_CAPITAL" = some (.int 90 t)
  cLAST_LOW : ∃ t, mg "LAST_LOW" = some (.int 199 t)
  mSIGNS : mg "SIGNS" = some (.ref (He.ga K "SIGNS"))
  mPAIRS : mg "PAIRS" = some (.ref (He.ga K "PAIRS"))
  mDEEDS : mg "DEEDS" = some (.ref (He.ga K "DEEDS"))
  mState : mg "State" = some (.ref (He.ga K "State"))
  signs : ∀ H, SqT K H (He.ga K "SIGNS") (Pl.SG.map V.int)
  pairs : ∀ H, SqT K H (He.ga K "PAIRS") (Pl.PR.map V.int)
  deeds : deedsB K = true
  cl : Cls K (He.ga K "State")
  mkS : Mk K (He.ga K "State") (He.ma K (He.ga K "State") "__init__")
  noat : ∀ f : Str, f ∈ (["image", "numbers", "table", "at", "stack", "store", "back", "place", "output", "steps"] : List Str) → NoAttr K (He.ga K "State") f
  m_pull : Meth K (He.ga K "State") "pull" (He.ma K (He.ga K "State") "pull")
  m_has_ended : Meth K (He.ga K "State") "has_ended" (He.ma K (He.ga K "State") "has_ended")
  m_step : Meth K (He.ga K "State") "step" (He.ma K (He.ga K "State") "step")
  m_advance : Meth K (He.ga K "State") "advance" (He.ma K (He.ga K "State") "advance")
theorem pe_int_glob {X : Cx} {x : Str} {i : Int} {pos : Pos} (h : ∃ t, X.mg x = some (.int i t)) (hg : Gl X x := by rfl) (hd : (x == ("__debug__" : Str)) = false := by decide) : PE X (.Name x pos) (tC (.int i)) := by
  obtain ⟨t, h⟩ := h
  exact pe_glob hg h ⟨t, rfl⟩ hd
theorem pe_ref_glob {X : Cx} {x : Str} {a : Addr} {pos : Pos} (h : X.mg x = some (.ref a)) (hg : Gl X x := by rfl) (hd : (x == ("__debug__" : Str)) = false := by decide) : PE X (.Name x pos) (tC (.ref a)) := pe_glob hg h (show RelV (.ref a) (.ref a) from rfl) hd
theorem b_list : bootBuiltins "list" = some (.type "list") := by decide +kernel
theorem b_tuple : bootBuiltins "tuple" = some (.type "tuple") := by decide +kernel
theorem b_int : bootBuiltins "int" = some (.type "int") := by decide +kernel
theorem b_min : bootBuiltins "min" = some (.builtin "min") := by decide +kernel
theorem b_max : bootBuiltins "max" = some (.builtin "max") := by decide +kernel
theorem b_sorted : bootBuiltins "sorted" = some (.builtin "sorted") := by decide +kernel
theorem sl_listK {X : Cx} {K : PySem.W.Frag} (h : X.K = K) : SlR X (rSlL K) := h ▸ sl_list
def rTupK (K : PySem.W.Frag) : List V → Hp → VK → Prop := fun xs H Q => ∃ p ys, xs = [.ref p] ∧ ((SqL K H p ys ∧ ∀ l, H l = none → Q (.ref l) (upd H l (.tup ys))) ∨ (SqT K H p ys ∧ Q (.ref p) H))
theorem call_tupleK {X : Cx} {K : PySem.W.Frag} (h : X.K = K) : CallR X (.type "tuple") (rTupK K) := h ▸ call_tuple_of
theorem pe_fldK {X : Cx} {K : PySem.W.Frag} (h : X.K = K) {e : Expr} {ta : TE} {f : Str} {pos : Pos} (he : PE X e ta) (hb : attributeBase e f X.env (eval e X.env) = eval e X.env) : PE X (.Attribute e f pos) (tFld K ta f) := h ▸ pe_fld he hb
/-- a def of the top stands -/
structure Top (K : PySem.W.Frag) (mg : Str → Option Value) (x : Str) (st : Stmt) : Prop where
  ex : ∃ f fd, mg x = some (.ref f) ∧ FunD K x x (defArgs st) (defBody st) (defScope st) [] [] f fd
section
variable {P : Program} {w : World} {K : PySem.W.Frag} {mg : Str → Option Value} {base : Heap}
theorem Top.cal {x : Str} {st : Stmt} {N ps : List Str} {k : Nat} {sp : Sp} (F : Top K mg x st) (S : FnScope N ps (defScope st)) (len : ∀ vs H Q E, sp vs H Q E → vs.length = ps.length)
    (hb : ∀ (kV doc pm : Value) (an : Option Addr) (cdv ct : Value) (us : List Value), us.length = ps.length → bindArgs (PySem.W.fnOf x x (defArgs st) (defBody st) (defScope st) .none kV doc pm an cdv ct) ⟨us, []⟩ = pure (ps.zip us))
    (body : ∀ (f : Addr) (cdv : Value) (A : Around) (outer : List Env) (s : Shared) (H : Hp) (vs : List V) (Q : VK) (E : XK), Room k (A.deeper (envOfC x (defScope st) s.heap.objs.size f cdv)) → sp vs H Q E →
      ∃ t, PSs (cxOf CX0 P w K mg base N x (defScope st) f cdv A outer s H E).nox (defBody st) t ∧ t { nx := fun _ H' => Q .non H', rt := Q } (start N vs) H) : Cal P w K mg base (k + 1) x ps sp := by
  obtain ⟨f, fd, hm, F⟩ := F.ex
  exact ⟨f, fd, F.ok S len fun cdv A outer s H vs Q E hr h => by
    obtain ⟨t, a, b⟩ := body f cdv A outer s H vs Q E hr h
    exact ⟨t, a.nox, b⟩, hm, F.kp, F.bindsN hb⟩
end

/-- tuples stay -/
def TK (H H' : Hp) : Prop := ∀ t xs, H t = some (.tup xs) → H' t = some (.tup xs)
theorem TK.refl (H : Hp) : TK H H := fun _ _ h => h
theorem TK.trans {H H1 H2 : Hp} (a : TK H H1) (b : TK H1 H2) : TK H H2 := fun t xs h => b t xs (a t xs h)
theorem TK.of {H H' : Hp} (s : Same H H') : TK H H' := fun t xs h => s t _ h
theorem TK.updA {H : Hp} {a : Addr} {o : HO} (h : ∀ xs, H a ≠ some (.tup xs)) : TK H (L2.upd H a o) := fun t xs e => by
  have hne : t ≠ a := fun q => by
    subst q
    exact h xs e
  rw [upd_ne hne]
  exact e
theorem TK.updS {H : Hp} {a : Addr} {o u : HO} (h : H a = some u) (hu : ∀ xs, u ≠ .tup xs := by intro xs q; cases q) : TK H (L2.upd H a o) := TK.updA fun xs e => by
  rw [h] at e
  exact hu xs (Option.some.inj e)
theorem TK.updN {H : Hp} {a : Addr} {o : HO} (h : H a = none) : TK H (L2.upd H a o) := TK.updA fun xs e => by
  rw [h] at e
  cases e
theorem Same.new {H : Hp} {p : Addr} {o : HO} (h : H p = none) : Same H (upd H p o) := fun b u e => by
  rw [upd_ne (ne_of_none e h)]
  exact e
/-- an object that H does not know may change -/
theorem Same.mut {H H' : Hp} {p : Addr} {o : HO} (s : Same H H') (h : H p = none) : Same H (upd H' p o) := fun b u e => by
  rw [upd_ne (ne_of_none e h)]
  exact s b u e

abbrev Tl := List (Int × Pl.Node)
def NdAt (H : Hp) (v : V) (nd : Pl.Node) : Prop := ∃ t, v = .ref t ∧ H t = some (.tup [.int nd.1, .int nd.2.1, .int nd.2.2])
theorem NdAt.keep {H H' : Hp} {v : V} {nd : Pl.Node} (k : TK H H') (h : NdAt H v nd) : NdAt H' v nd := let ⟨t, e, h⟩ := h; ⟨t, e, k _ _ h⟩
def EnAt (H : Hp) (p : Key × V) (q : Int × Pl.Node) : Prop := p.1 = Sum.inl q.1 ∧ NdAt H p.2 q.2
def Ents (H : Hp) (kvs : List (Key × V)) (T : Tl) : Prop := Paired (EnAt H) kvs T
def look (T : Tl) (n : Int) : Option Pl.Node := (T.find? fun p => decide (p.1 = n)).map (·.2)
def keys (T : Tl) : List Int := T.map (·.1)
theorem look_cons_pos {p : Int × Pl.Node} {T : Tl} {n : Int} (h : p.1 = n) : look (p :: T) n = some p.2 := by simp [look, List.find?_cons, h]
theorem look_cons_neg {p : Int × Pl.Node} {T : Tl} {n : Int} (h : ¬ p.1 = n) : look (p :: T) n = look T n := by simp [look, List.find?_cons, h]
theorem Ents.keep {H H' : Hp} {kvs : List (Key × V)} {T : Tl} (k : TK H H') (h : Ents H kvs T) : Ents H' kvs T := by
  unfold Ents at h ⊢
  exact Paired.mapP h fun p q e => ⟨e.1, e.2.keep k⟩
theorem Ents.len {H : Hp} {kvs : List (Key × V)} {T : Tl} (h : Ents H kvs T) : kvs.length = T.length := Paired.length h
theorem Ents.keys {H : Hp} {kvs : List (Key × V)} {T : Tl} (h : Ents H kvs T) : kvs.map (·.1) = (keys T).map Sum.inl := by
  unfold Ents at h
  induction h with
  | nil => rfl
  | cons h t ih =>
    rw [List.map_cons, ih, h.1]
    rfl
theorem Ents.val {H : Hp} {kvs : List (Key × V)} {T : Tl} (h : Ents H kvs T) (n : Int) : (valV kvs (Sum.inl n : Key) = none ∧ look T n = none) ∨ ∃ t nd, valV kvs (Sum.inl n : Key) = some (.ref t) ∧ look T n = some nd ∧ H t = some (.tup [.int nd.1, .int nd.2.1, .int nd.2.2]) := by
  unfold Ents at h
  induction h with
  | nil => exact .inl ⟨rfl, rfl⟩
  | @cons p q ps qs h t ih =>
    obtain ⟨h1, a, h2, h3⟩ := h
    by_cases e : q.1 = n
    · refine .inr ⟨a, q.2, ?_, look_cons_pos e, h3⟩
      rw [valV_pos (by rw [h1, e]), h2]
    · rw [valV_neg (fun z => e (Sum.inl.inj (h1.symm.trans z))), look_cons_neg e]
      exact ih
/-- a table to be read (maybe locked); to be changed -/
def TabAt (H : Hp) (d : Addr) (T : Tl) : Prop := ∃ kvs, Rd H d (.dK kvs) ∧ Ents H kvs T ∧ (keys T).Nodup
def TabM (H : Hp) (d : Addr) (T : Tl) : Prop := ∃ kvs, H d = some (.dK kvs) ∧ Ents H kvs T ∧ (keys T).Nodup
theorem TabM.at_ {H : Hp} {d : Addr} {T : Tl} (h : TabM H d T) : TabAt H d T := let ⟨kvs, a, b, c⟩ := h; ⟨kvs, .inl a, b, c⟩
theorem TabAt.same {H H' : Hp} {d : Addr} {T : Tl} (s : Same H H') (h : TabAt H d T) : TabAt H' d T := by
  obtain ⟨kvs, a, b, c⟩ := h
  refine ⟨kvs, ?_, b.keep (TK.of s), c⟩
  rcases a with a | ⟨o, a⟩
  · exact .inl (s _ _ a)
  · exact .inr ⟨o, s _ _ a⟩
theorem TabM.same {H H' : Hp} {d : Addr} {T : Tl} (s : Same H H') (h : TabM H d T) : TabM H' d T := let ⟨kvs, a, b, c⟩ := h; ⟨kvs, s _ _ a, b.keep (TK.of s), c⟩
theorem TabAt.no {H : Hp} {d : Addr} {T : Tl} {n : Int} (h : TabAt H d T) (e : look T n = none) : DGet H d (.int n) none := by
  obtain ⟨kvs, a, b, c⟩ := h
  rcases b.val n with ⟨v, _⟩ | ⟨t, nd, _, v, _⟩
  · exact .inl ⟨kvs, Sum.inl n, a, rfl, v.symm⟩
  · rw [e] at v
    cases v
theorem TabAt.yes {H : Hp} {d : Addr} {T : Tl} {n : Int} {nd : Pl.Node} (h : TabAt H d T) (e : look T n = some nd) : ∃ t, DGet H d (.int n) (some (.ref t)) ∧ H t = some (.tup [.int nd.1, .int nd.2.1, .int nd.2.2]) := by
  obtain ⟨kvs, a, b, c⟩ := h
  rcases b.val n with ⟨_, v⟩ | ⟨t, nd', v, v', h3⟩
  · rw [e] at v
    cases v
  · rw [e] at v'
    cases v'
    exact ⟨t, .inl ⟨kvs, Sum.inl n, a, rfl, v.symm⟩, h3⟩
theorem look_mem {T : Tl} {n : Int} {nd : Pl.Node} (h : look T n = some nd) : n ∈ keys T := by
  unfold look at h
  obtain ⟨p, hp, e⟩ := Option.map_eq_some_iff.mp h
  have h1 := List.mem_of_find?_eq_some hp
  have h2 := List.find?_some hp
  have h2 : p.1 = n := of_decide_eq_true h2
  rw [← h2]
  exact List.mem_map.mpr ⟨p, h1, rfl⟩
theorem look_none {T : Tl} {n : Int} (h : ¬ n ∈ keys T) : look T n = none := by
  cases e : look T n with
  | none => rfl
  | some v => exact (h (look_mem e)).elim
theorem look_some_of {T : Tl} {n : Int} (h : n ∈ keys T) : ∃ nd, look T n = some nd := by
  induction T with
  | nil => cases h
  | cons p r ih =>
    by_cases e : p.1 = n
    · exact ⟨p.2, look_cons_pos e⟩
    · rw [look_cons_neg e]
      refine ih ?_
      have h : n ∈ p.1 :: keys r := h
      rcases List.mem_cons.mp h with q | q
      · exact (e q.symm).elim
      · exact q
theorem look_at {T : Tl} (nd : (keys T).Nodup) {p : Int × Pl.Node} (h : p ∈ T) : look T p.1 = some p.2 := by
  induction T with
  | nil => cases h
  | cons q r ih =>
    have nd : (q.1 :: keys r).Nodup := nd
    obtain ⟨n1, n2⟩ := List.nodup_cons.mp nd
    rcases List.mem_cons.mp h with e | e
    · rw [e]
      exact look_cons_pos rfl
    · rw [look_cons_neg fun z => n1 (z ▸ List.mem_map.mpr ⟨p, e, rfl⟩)]
      exact ih n2 e
/-- d[n] = node -/
def putT (T : Tl) (n : Int) (nd : Pl.Node) : Tl := if (T.any fun p => decide (p.1 = n)) = true then T.map (fun p => if p.1 = n then (p.1, nd) else p) else T ++ [(n, nd)]
theorem look_put (T : Tl) (n m : Int) (nd : Pl.Node) : look (putT T n nd) m = if m = n then some nd else look T m := by
  have key : ∀ (T : Tl), (T.any fun p => decide (p.1 = n)) = true ∨ (T.any fun p => decide (p.1 = n)) = false := fun T => by cases T.any fun p => decide (p.1 = n) <;> simp
  unfold putT
  rcases key T with h | h
  · rw [if_pos h]
    clear key
    induction T with
    | nil => cases h
    | cons p r ih =>
      rw [List.map_cons]
      by_cases e : p.1 = n
      · rw [if_pos e]
        by_cases q : m = n
        · rw [if_pos q, look_cons_pos (p := (p.1, nd)) (e.trans q.symm)]
        · rw [if_neg q, look_cons_neg (p := (p.1, nd)) (show ¬ p.1 = m from fun z => q (z.symm.trans e)), look_cons_neg (show ¬ p.1 = m from fun z => q (z.symm.trans e))]
          have : ∀ r : Tl, look (r.map fun p => if p.1 = n then (p.1, nd) else p) m = look r m := fun r => by
            induction r with
            | nil => rfl
            | cons x r ih =>
              rw [List.map_cons]
              by_cases e : x.1 = n
              · rw [if_pos e, look_cons_neg (p := (x.1, nd)) (show ¬ x.1 = m from fun z => q (z.symm.trans e)), look_cons_neg (show ¬ x.1 = m from fun z => q (z.symm.trans e))]
                exact ih
              · rw [if_neg e]
                by_cases z : x.1 = m
                · rw [look_cons_pos z, look_cons_pos z]
                · rw [look_cons_neg z, look_cons_neg z]
                  exact ih
          exact this r
      · rw [if_neg e]
        have h' : (r.any fun p => decide (p.1 = n)) = true := by
          rw [List.any_cons, decide_eq_false e, Bool.false_or] at h
          exact h
        by_cases z : p.1 = m
        · rw [look_cons_pos z, look_cons_pos z, if_neg fun q => e (z.trans q)]
        · rw [look_cons_neg z, look_cons_neg z]
          exact ih h'
  · rw [if_neg (by rw [h]; decide)]
    clear key
    induction T with
    | nil =>
      by_cases q : m = n
      · rw [if_pos q, List.nil_append, look_cons_pos q.symm]
      · rw [if_neg q, List.nil_append, look_cons_neg fun z => q z.symm]
    | cons p r ih =>
      rw [List.any_cons, Bool.or_eq_false_iff] at h
      have e : ¬ p.1 = n := of_decide_eq_false h.1
      rw [List.cons_append]
      by_cases z : p.1 = m
      · rw [look_cons_pos z, look_cons_pos z, if_neg fun q => e (z.trans q)]
      · rw [look_cons_neg z, look_cons_neg z]
        exact ih h.2
theorem Ents.any {H : Hp} {kvs : List (Key × V)} {T : Tl} (h : Ents H kvs T) (n : Int) : (kvs.any fun kv => decide (kv.1 = (Sum.inl n : Key))) = T.any fun p => decide (p.1 = n) := by
  unfold Ents at h
  induction h with
  | nil => rfl
  | @cons p q ps qs h t ih =>
    rw [List.any_cons, List.any_cons, ih, h.1]
    congr 1
    by_cases e : q.1 = n
    · rw [decide_eq_true e, e, decide_eq_true rfl]
    · rw [decide_eq_false e, decide_eq_false fun z => e (Sum.inl.inj z)]
theorem Ents.put {H : Hp} {kvs : List (Key × V)} {T : Tl} (h : Ents H kvs T) {n : Int} {t : Addr} {nd : Pl.Node} (ht : H t = some (.tup [.int nd.1, .int nd.2.1, .int nd.2.2])) : Ents H (putK kvs (Sum.inl n) (.ref t)) (putT T n nd) := by
  have ha := h.any n
  unfold putK putT
  rw [ha]
  cases T.any fun p => decide (p.1 = n) with
  | true =>
    rw [if_pos rfl, if_pos rfl]
    unfold Ents at h ⊢
    clear ha
    induction h with
    | nil => exact .nil
    | @cons p q ps qs h t ih =>
      rw [List.map_cons, List.map_cons]
      refine .cons ?_ ih
      by_cases e : q.1 = n
      · rw [if_pos e, if_pos (by rw [h.1, e])]
        exact ⟨h.1, _, rfl, ht⟩
      · rw [if_neg e, if_neg (fun z => e (Sum.inl.inj (h.1.symm.trans z)))]
        exact h
  | false =>
    rw [if_neg (by decide), if_neg (by decide)]
    unfold Ents at h ⊢
    clear ha
    induction h with
    | nil => exact .cons ⟨rfl, _, rfl, ht⟩ .nil
    | cons h t ih => exact .cons h ih
theorem putT_keys (T : Tl) (n : Int) (nd : Pl.Node) : keys (putT T n nd) = if n ∈ keys T then keys T else keys T ++ [n] := by
  have hm : (T.any fun p => decide (p.1 = n)) = true ↔ n ∈ keys T := by
    rw [List.any_eq_true]
    constructor
    · rintro ⟨p, hp, e⟩
      exact List.mem_map.mpr ⟨p, hp, of_decide_eq_true e⟩
    · intro h
      obtain ⟨p, hp, e⟩ := List.mem_map.mp h
      exact ⟨p, hp, decide_eq_true e⟩
  unfold putT
  by_cases h : n ∈ keys T
  · rw [if_pos (hm.mpr h), if_pos h]
    unfold keys
    rw [List.map_map]
    congr 1
    funext p
    show (if p.1 = n then (p.1, nd) else p).1 = p.1
    by_cases e : p.1 = n
    · rw [if_pos e]
    · rw [if_neg e]
  · rw [if_neg (fun z => h (hm.mp z)), if_neg h]
    unfold keys
    rw [List.map_append]
    rfl
theorem putT_nd {T : Tl} (h : (keys T).Nodup) (n : Int) (nd : Pl.Node) : (keys (putT T n nd)).Nodup := by
  rw [putT_keys]
  by_cases e : n ∈ keys T
  · rw [if_pos e]
    exact h
  · rw [if_neg e, List.nodup_append]
    refine ⟨h, by simp, ?_⟩
    intro a ha b hb q
    rw [List.mem_singleton.mp hb] at q
    exact e (q ▸ ha)
theorem putT_len (T : Tl) (n : Int) (nd : Pl.Node) : (putT T n nd).length ≤ T.length + 1 := by
  unfold putT
  split
  · rw [List.length_map]
    omega
  · rw [List.length_append]
    exact Nat.le_refl _
theorem TabM.len {H : Hp} {d : Addr} {kvs : List (Key × V)} {T : Tl} (h : TabM H d T) (e : H d = some (.dK kvs)) : kvs.length = T.length := by
  obtain ⟨kvs', a, b, _⟩ := h
  rw [e] at a
  cases a
  exact b.len
/-- the store d[n] = t, t a new tuple's address: the reading's answer -/
theorem TabM.put {H : Hp} {d t : Addr} {T : Tl} {n : Int} {nd : Pl.Node} (h : TabM H d T) (ht : H t = some (.tup [.int nd.1, .int nd.2.1, .int nd.2.2])) (hl : T.length ≤ 1000) :
    ∃ H', DPut H d (.int n) (.ref t) H' ∧ TabM H' d (putT T n nd) ∧ ∃ kvs, H' = upd H d (.dK kvs) := by
  obtain ⟨kvs, a, b, c⟩ := h
  have k : TK H (upd H d (.dK (putK kvs (Sum.inl n) (.ref t)))) := TK.updS a
  refine ⟨_, DPut.k (k := Sum.inl n) a (small1000 (by rw [b.len]; exact hl)), ⟨_, upd_same, (b.put ht).keep k, putT_nd c n nd⟩, _, rfl⟩
/-- ops that read the image or go anywhere do not occur -/
def Clos (T : Tl) : Prop := ∀ n op arg s, look T n = some (op, arg, s) → op ≠ 38 ∧ op ≠ 40
end Zw
namespace Zw
open PySem PySem.Spec PyProof.Rows L2 PH
theorem ifI {a b : Int} {A B : Prop} (h1 : a = b → A) (h2 : ¬ a = b → B) : if decide (V.int a = V.int b) = true then A else B := by
  by_cases h : a = b
  · rw [decide_eq_true (congrArg V.int h)]
    exact iteT (h1 h)
  · rw [decide_eq_false fun z => h (V.int.inj z)]
    exact iteF (h2 h)
theorem ifD {p A B : Prop} [Decidable p] (h1 : p → A) (h2 : ¬ p → B) : if decide p = true then A else B := by
  by_cases h : p
  · rw [decide_eq_true h]
    exact iteT (h1 h)
  · rw [decide_eq_false h]
    exact iteF (h2 h)
theorem inV_ints (x : Int) (l : List Int) : inV (.int x) (l.map V.int) = decide (x ∈ l) := by
  unfold inV
  induction l with
  | nil => rfl
  | cons a r ih =>
    rw [List.map_cons, List.any_cons, ih]
    show ((a == x) || decide (x ∈ r)) = _
    by_cases e : a = x
    · subst e
      simp
    · rw [beq_eq_false_iff_ne.mpr e, Bool.false_or]
      have : (x ∈ a :: r) = (x ∈ r) := by
        rw [List.mem_cons]
        exact propext ⟨fun z => z.resolve_left fun q => e q.symm, .inr⟩
      simp only [this]
theorem flat_ints (l : List Int) : (l.map V.int).all flatV = true := by
  induction l with
  | nil => rfl
  | cons a r ih => exact ih
variable {P : Program} {w : World} {K : PySem.W.Frag} {mg : Str → Option Value} {base : Heap}
abbrev sis_letter : Stmt := tp 7
theorem scis_letter : FnScope ["op"] ["op"] (defScope sis_letter) := ⟨rfl, rfl, rfl, by decide +kernel, rfl, by decide +kernel, by decide +kernel⟩
def spLet : Sp := fun vs H Q _ => ∃ op : Int, vs = [.int op] ∧ Q (.bl (Pl.isLet op)) H
theorem c_is_letter (F : Top K mg "is_letter" sis_letter) : Cal P w K mg base 1 "is_letter" ["op"] spLet := by
  refine F.cal scis_letter (fun vs H Q E h => ?_) (fun _ _ _ _ _ _ us hl => match us, hl with | [_], _ => rfl) (fun f cdv A outer s H vs Q E hr h => ?_)
  · obtain ⟨op, rfl, _⟩ := h
    rfl
  obtain ⟨op, rfl, q⟩ := h
  refine ⟨_, (pss_one (ps_ret (pe_chain op_le op_le pe_int (pv 0) pe_int))), ?_⟩
  refine ⟨_, rfl, _, _, rfl, rfl, _, rfl, ?_⟩
  unfold Pl.isLet at q
  by_cases h1 : (65 : Int) ≤ op
  · rw [decide_eq_true h1, Bool.true_and] at q
    rw [decide_eq_true h1]
    exact iteT ⟨_, _, rfl, rfl, q⟩
  · rw [decide_eq_false h1, Bool.false_and] at q
    rw [decide_eq_false h1]
    exact iteF q
abbrev sis_nop : Stmt := tp 8
theorem scis_nop : FnScope ["op"] ["op"] (defScope sis_nop) := ⟨rfl, rfl, rfl, by decide +kernel, rfl, by decide +kernel, by decide +kernel⟩
def spNop : Sp := fun vs H Q _ => ∃ op : Int, vs = [.int op] ∧ Q (.bl (Pl.isNop op)) H
theorem c_is_nop (F : Top K mg "is_nop" sis_nop) (T : Txt K mg) (Gis_letter : Cal P w K mg base 1 "is_letter" ["op"] spLet) : Cal P w K mg base 2 "is_nop" ["op"] spNop := by
  refine F.cal scis_nop (fun vs H Q E h => ?_) (fun _ _ _ _ _ _ us hl => match us, hl with | [_], _ => rfl) (fun f cdv A outer s H vs Q E hr h => ?_)
  · obtain ⟨op, rfl, _⟩ := h
    rfl
  obtain ⟨op, rfl, q⟩ := h
  refine ⟨_, (pss_one (ps_ret (pe_not (pe_or (pe_c Gis_letter hr (pa_cons (pv 0) pa_nil)) (pe_or (pe_chain op_le op_le pe_int (pv 0) pe_int) (pe_one (pe_cmpR op_in_seq (pv 0) (pe_ref_glob T.mSIGNS) (by rfl)))))))), ?_⟩
  unfold Pl.isNop at q
  refine ⟨_, rfl, op, rfl, _, rfl, ?_⟩
  cases h1 : Pl.isLet op with
  | true =>
    rw [h1, Bool.true_or] at q
    exact iteT ⟨_, rfl, q⟩
  | false =>
    rw [h1, Bool.false_or] at q
    refine iteF ⟨_, rfl, _, _, rfl, rfl, _, rfl, ?_⟩
    have last : Q (.bl (!(decide (op ∈ Pl.SG)))) H → ∃ v, ([some (V.int op)] : List (Option V))[0]? = some (some v) ∧ ∃ p xs, V.ref (He.ga K "SIGNS") = V.ref p ∧ (SqL K H p xs ∨ SqT K H p xs) ∧ flatV v = true ∧ xs.all flatV = true ∧ ∃ c, V.bl (inV v xs) = .bl c ∧ Q (.bl (!c)) H := fun q => by
      refine ⟨_, rfl, _, _, rfl, Or.inr (T.signs H), rfl, flat_ints _, _, rfl, ?_⟩
      rw [inV_ints]
      exact q
    by_cases h2 : (97 : Int) ≤ op
    · rw [decide_eq_true h2, Bool.true_and] at q
      rw [decide_eq_true h2]
      refine iteT ⟨_, _, rfl, rfl, _, rfl, ?_⟩
      by_cases h3 : op ≤ (122 : Int)
      · rw [decide_eq_true h3, Bool.true_or] at q
        rw [decide_eq_true h3]
        exact iteT ⟨_, rfl, q⟩
      · rw [decide_eq_false h3, Bool.false_or] at q
        rw [decide_eq_false h3]
        exact iteF (last q)
    · rw [decide_eq_false h2, Bool.false_and, Bool.false_or] at q
      rw [decide_eq_false h2]
      exact iteF ⟨_, rfl, iteF (last q)⟩
abbrev scombined : Stmt := tp 9
theorem sccombined : FnScope ["op", "x", "y"] ["op", "x", "y"] (defScope scombined) := ⟨rfl, rfl, rfl, by decide +kernel, rfl, by decide +kernel, by decide +kernel⟩
def spComb : Sp := fun vs H Q _ => ∃ op x y : Int, vs = [.int op, .int x, .int y] ∧ Q (.int (Pl.comb op x y)) H
theorem c_combined (F : Top K mg "combined" scombined) (T : Txt K mg) : Cal P w K mg base 1 "combined" ["op", "x", "y"] spComb := by
  refine F.cal sccombined (fun vs H Q E h => ?_) (fun _ _ _ _ _ _ us hl => match us, hl with | [_, _, _], _ => rfl) (fun f cdv A outer s H vs Q E hr h => ?_)
  · obtain ⟨op, x, y, rfl, _⟩ := h
    rfl
  obtain ⟨op, x, y, rfl, q⟩ := h
  refine ⟨_, (pss_cons (ps_if (pt_cmpR op_eq (pv 0) pe_int (nomark _)) (pss_one (ps_ret (pe_op op_add (pv 1) (pv 2)))) pss_nil)
        (pss_cons (ps_if (pt_cmpR op_eq (pv 0) pe_int (nomark _)) (pss_one (ps_ret (pe_op op_sub (pv 1) (pv 2)))) pss_nil)
        (pss_cons (ps_if (pt_cmpR op_eq (pv 0) pe_int (nomark _)) (pss_one (ps_ret (pe_op op_add (pe_op op_mul pe_int (pv 1)) (pv 2)))) pss_nil)
        (pss_cons (ps_if (pt_cmpR op_eq (pv 0) pe_int (nomark _)) (pss_one (ps_ret (pe_callTy call_int1 (by rfl) T.int b_int (pa_cons (pe_cmpR op_lt (pv 1) (pv 2) (nomark _)) pa_nil)))) pss_nil)
        (pss_one (ps_ret (pe_callTy call_int1 (by rfl) T.int b_int (pa_cons (pe_cmpR op_eq (pv 1) (pv 2) (nomark _)) pa_nil)))))))), ?_⟩
  unfold Pl.comb at q
  refine ⟨_, rfl, rfl, _, rfl, ifI (fun h => ?_) fun n1 => ?_⟩
  · rw [if_pos h] at q
    exact ⟨_, rfl, _, rfl, _, _, rfl, rfl, q⟩
  rw [if_neg n1] at q
  refine ⟨_, rfl, rfl, _, rfl, ifI (fun h => ?_) fun n2 => ?_⟩
  · rw [if_pos h] at q
    exact ⟨_, rfl, _, rfl, _, _, rfl, rfl, q⟩
  rw [if_neg n2] at q
  refine ⟨_, rfl, rfl, _, rfl, ifI (fun h => ?_) fun n3 => ?_⟩
  · rw [if_pos h] at q
    exact ⟨_, rfl, _, _, rfl, rfl, .inl ⟨by decide, by decide⟩, _, rfl, _, _, rfl, rfl, q⟩
  rw [if_neg n3] at q
  refine ⟨_, rfl, rfl, _, rfl, ifI (fun h => ?_) fun n4 => ?_⟩
  · rw [if_pos h] at q
    refine ⟨_, rfl, _, rfl, _, _, rfl, rfl, .inr ⟨_, rfl, ?_⟩⟩
    exact q
  rw [if_neg n4] at q
  refine ⟨_, rfl, _, rfl, rfl, .inr ⟨_, rfl, ?_⟩⟩
  have e : decide (V.int x = V.int y) = decide (x = y) := by
    by_cases h : x = y
    · rw [decide_eq_true h, decide_eq_true (congrArg V.int h)]
    · rw [decide_eq_false h, decide_eq_false fun z => h (V.int.inj z)]
  rw [e]
  exact q
abbrev shas_nop : Stmt := tp 14
theorem schas_nop : FnScope ["table", "number"] ["table", "number"] (defScope shas_nop) := ⟨rfl, rfl, rfl, by decide +kernel, rfl, by decide +kernel, by decide +kernel⟩
def spHas : Sp := fun vs H Q _ => ∃ (d : Addr) (L : Tl) (n : Int), vs = [.ref d, .int n] ∧ TabAt H d L ∧ Q (.bl (Pl.nopAt (look L) n)) H
theorem c_has_nop (F : Top K mg "has_nop" shas_nop) (T : Txt K mg) (Gis_nop : Cal P w K mg base 2 "is_nop" ["op"] spNop) : Cal P w K mg base 3 "has_nop" ["table", "number"] spHas := by
  refine F.cal schas_nop (fun vs H Q E h => ?_) (fun _ _ _ _ _ _ us hl => match us, hl with | [_, _], _ => rfl) (fun f cdv A outer s H vs Q E hr h => ?_)
  · obtain ⟨d, L, n, rfl, _⟩ := h
    rfl
  obtain ⟨d, L, n, rfl, tb, q⟩ := h
  have hu := hu_of hr
  refine ⟨_, (pss_one (ps_ret (pe_and (pe_cmp (pc_din hu (pv 1) (pv 0)) rfl) (pe_one (pe_c Gis_nop hr (pa_cons (pe_ix ix_tup (pe_dget hu (pv 0) (pv 1) (fun _ _ => rfl)) pe_int (fun _ _ => rfl)) pa_nil)))))), ?_⟩
  unfold Pl.nopAt at q
  cases e : look L n with
  | none =>
    rw [e] at q
    exact ⟨_, rfl, _, rfl, d, _, rfl, tb.no e, _, rfl, iteF q⟩
  | some nd =>
    obtain ⟨op, arg, sc⟩ := nd
    rw [e] at q
    obtain ⟨t, g, ht⟩ := tb.yes e
    exact ⟨_, rfl, _, rfl, d, _, rfl, g, _, rfl, iteT ⟨_, rfl, _, rfl, d, _, rfl, g, t, _, _, _, rfl, rfl, SqT.of ht, rfl, op, rfl, q⟩⟩
end Zw
namespace Zw
open PySem PySem.Spec PyProof.Rows L2 PH
def setK (S : List Int) : List (Key × V) := S.map fun n => (Sum.inl n, V.bl true)
theorem setK_val (S : List Int) (n : Int) : valV (setK S) (Sum.inl n : Key) = if n ∈ S then some (.bl true) else none := by
  induction S with
  | nil => rfl
  | cons a r ih =>
    show valV (((Sum.inl a : Key), V.bl true) :: setK r) (Sum.inl n) = _
    by_cases e : a = n
    · rw [valV_pos (p := ((Sum.inl a : Key), V.bl true)) (by rw [e]), if_pos (by rw [e]; exact List.mem_cons_self ..)]
    · rw [valV_neg (p := ((Sum.inl a : Key), V.bl true)) (fun z => e (Sum.inl.inj z)), ih]
      by_cases q : n ∈ r
      · rw [if_pos q, if_pos (List.mem_cons_of_mem _ q)]
      · rw [if_neg q, if_neg (fun z => (List.mem_cons.mp z).elim (fun y => e y.symm) q)]
theorem setK_put {S : List Int} {n : Int} (h : ¬ n ∈ S) : putK (setK S) (Sum.inl n) (.bl true) = setK (S ++ [n]) := by
  rw [putK_new]
  · unfold setK
    rw [List.map_append]
    rfl
  · rw [setK_val, if_neg h]
theorem setK_get {H : Hp} {a : Addr} {S : List Int} (h : H a = some (.dK (setK S))) (n : Int) : DGet H a (.int n) (if n ∈ S then some (.bl true) else none) := by
  rw [← setK_val]
  exact DGet.k (k := Sum.inl n) h
theorem setK_dput {H : Hp} {a : Addr} {S : List Int} (h : H a = some (.dK (setK S))) {n : Int} (hn : ¬ n ∈ S) (hl : S.length ≤ 1000) : DPut H a (.int n) (.bl true) (upd H a (.dK (setK (S ++ [n])))) := by
  rw [← setK_put hn]
  exact DPut.k (k := Sum.inl n) h (small1000 (by unfold setK; rw [List.length_map]; exact hl))
theorem setK_keys (S : List Int) : (setK S).map (·.1) = S.map Sum.inl := by
  unfold setK
  rw [List.map_map]
  rfl
variable {P : Program} {w : World} {K : PySem.W.Frag} {mg : Str → Option Value} {base : Heap}
abbrev spassed : Stmt := tp 15
theorem scpassed : FnScope ["table", "number", "met"] ["table", "number"] (defScope spassed) := ⟨rfl, rfl, rfl, by decide +kernel, rfl, by decide +kernel, by decide +kernel⟩
def spPass : Sp := fun vs H Q _ => ∃ (d : Addr) (L : Tl) (n : Int), vs = [.ref d, .int n] ∧ TabAt H d L ∧ L.length ≤ 1000 ∧ ∀ H', Same H H' → (∀ a j, Pl.Arr (look L) n a j → Q (.int a) H') ∧ (Pl.Ring (look L) n → Q .non H')
theorem c_passed (F : Top K mg "passed" spassed) (T : Txt K mg) (Ghas_nop : Cal P w K mg base 3 "has_nop" ["table", "number"] spHas) : Cal P w K mg base 4 "passed" ["table", "number"] spPass := by
  refine F.cal scpassed (fun vs H Q E h => ?_) (fun _ _ _ _ _ _ us hl => match us, hl with | [_, _], _ => rfl) (fun f cdv A outer s H vs Q E hr h => ?_)
  · obtain ⟨d, L, n, rfl, _⟩ := h
    rfl
  obtain ⟨d, L, n, rfl, tb, hL, q⟩ := h
  have hu := hu_of hr
  refine ⟨_, (pss_cons (ps_set (i := 2) scpassed.nd rfl (Or.inl rfl) pe_dnewK)
        (pss_cons (ps_while PassesOwn.never (pt_val (pe_c Ghas_nop hr (pa_cons (pv 0) (pa_cons (pv 1) pa_nil)))) (pss_cons (ps_if (pt_cmp (pc_din hu (pv 1) (pv 2)) rfl) (pss_one (ps_ret pe_non)) pss_nil)
        (pss_cons (ps_dput hu (pv 2) (pv 1) pe_bl rfl)
        (pss_one (ps_set (i := 1) scpassed.nd rfl (Or.inl rfl) (pe_ix ix_tup (pe_dget hu (pv 0) (pv 1) (fun _ _ => rfl)) pe_int (fun _ _ => rfl)))))))
        (pss_one (ps_ret (pv 1))))), ?_⟩
  intro p hp
  have hk : ∀ m v, look L m = some v → m ∈ keys L := fun m v e => look_mem e
  refine ⟨fun m σ H' => ∃ i, m = L.length - i ∧ i ≤ L.length ∧ (∀ k, k < i → Pl.nopAt (look L) (Pl.it (look L) n k) = true) ∧ (Pl.trail (look L) n i).Nodup ∧ Same H H' ∧ H' p = some (.dK (setK (Pl.trail (look L) n i))) ∧ σ = [some (.ref d), some (.int (Pl.it (look L) n i)), some (.ref p)],
    ⟨_, 0, rfl, Nat.zero_le _, fun k hk => absurd hk (Nat.not_lt_zero _), List.nodup_nil, Same.new hp, upd_same, rfl⟩, ?_⟩
  rintro m σ H' ⟨i, rfl, hi, hn, nd, s, hm, rfl⟩
  refine ⟨_, rfl, _, rfl, d, L, _, rfl, tb.same s, _, rfl, ?_⟩
  cases e : Pl.nopAt (look L) (Pl.it (look L) n i) with
  | false =>
    refine iteF ⟨_, rfl, ?_⟩
    exact (q H' s).1 _ i ⟨hn, rfl, e⟩
  | true =>
    obtain ⟨op, arg, h1, h2⟩ := Pl.nopAt_some e
    refine iteT ⟨fun σ'' H'' => ∃ m', m' < L.length - i ∧ ∃ j, m' = L.length - j ∧ j ≤ L.length ∧ (∀ k, k < j → Pl.nopAt (look L) (Pl.it (look L) n k) = true) ∧ (Pl.trail (look L) n j).Nodup ∧ Same H H'' ∧ H'' p = some (.dK (setK (Pl.trail (look L) n j))) ∧
      σ'' = [some (.ref d), some (.int (Pl.it (look L) n j)), some (.ref p)], fun σ'' H'' z => z, ?_⟩
    have ti : Pl.it (look L) n (i + 1) = Pl.suc (look L) (Pl.it (look L) n i) := rfl
    refine ⟨_, rfl, _, rfl, p, _, rfl, setK_get hm _, _, rfl, ?_⟩
    by_cases mem : Pl.it (look L) n i ∈ Pl.trail (look L) n i
    · rw [if_pos mem]
      refine iteT ?_
      obtain ⟨k, hk1, hk2⟩ := Pl.mem_trail.mp mem
      exact (q H' s).2 (Pl.ring_of_repeat hn hk1 hk2.symm)
    · rw [if_neg mem]
      refine iteF ?_
      have hn2 : ∀ k, k < i + 1 → Pl.nopAt (look L) (Pl.it (look L) n k) = true := fun k hk => by
        by_cases q : k = i
        · rw [q]
          exact e
        · exact hn k (by omega)
      have nd2 : (Pl.trail (look L) n (i + 1)).Nodup := by
        rw [Pl.trail_succ, List.nodup_append]
        refine ⟨nd, by simp, fun a ha b hb q => mem ?_⟩
        rw [List.mem_singleton.mp hb] at q
        exact q ▸ ha
      have hle : i + 1 ≤ L.length := by
        have := nd2.length_le_of_subset (l₂ := keys L) fun x hx => by
          obtain ⟨k, hk1, hk2⟩ := Pl.mem_trail.mp hx
          obtain ⟨_, _, g1, _⟩ := Pl.nopAt_some (hn2 k hk1)
          rw [← hk2]
          exact hk _ _ g1
        rw [Pl.trail_len] at this
        unfold keys at this
        rw [List.length_map] at this
        exact this
      refine ⟨_, rfl, _, rfl, p, _, rfl, setK_dput hm mem (by rw [Pl.trail_len]; omega), ?_⟩
      have s2 : Same H (upd H' p (.dK (setK (Pl.trail (look L) n i ++ [Pl.it (look L) n i])))) := Same.mut s hp
      obtain ⟨t, g, ht⟩ := (tb.same s2).yes h1
      refine ⟨_, rfl, _, rfl, d, _, rfl, g, t, _, _, _, rfl, rfl, SqT.of ht, rfl, ?_⟩
      refine ⟨L.length - (i + 1), by omega, i + 1, rfl, hle, hn2, nd2, s2, ?_, rfl⟩
      rw [upd_same, Pl.trail_succ]
end Zw
namespace Zw
open PySem PySem.Spec PyProof.Rows L2 PH
theorem ifNe {a b : Int} {A B : Prop} (h1 : ¬ a = b → A) (h2 : a = b → B) : if (!decide (V.int a = V.int b)) = true then A else B := by
  by_cases h : a = b
  · rw [decide_eq_true (congrArg V.int h)]
    exact iteF (h2 h)
  · rw [decide_eq_false fun z => h (V.int.inj z)]
    exact iteT (h1 h)
variable {P : Program} {w : World} {K : PySem.W.Frag} {mg : Str → Option Value} {base : Heap}
abbrev starget_in : Stmt := tp 16
theorem sctarget_in : FnScope ["table", "number", "arrived", "_", "ring", "fixed", "one"] ["table", "number"] (defScope starget_in) := ⟨rfl, rfl, rfl, by decide +kernel, rfl, by decide +kernel, by decide +kernel⟩
def spTgt : Sp := fun vs H Q _ => ∃ (d : Addr) (L : Tl) (n : Int), vs = [.ref d, .int n] ∧ TabAt H d L ∧ L.length ≤ 1000 ∧ ∀ v H', Same H H' → Pl.Tgt (look L) n v → Q (.int v) H'
theorem c_target_in (F : Top K mg "target_in" starget_in) (T : Txt K mg) (Gpassed : Cal P w K mg base 4 "passed" ["table", "number"] spPass) : Cal P w K mg base 5 "target_in" ["table", "number"] spTgt := by
  refine F.cal sctarget_in (fun vs H Q E h => ?_) (fun _ _ _ _ _ _ us hl => match us, hl with | [_, _], _ => rfl) (fun f cdv A outer s H vs Q E hr h => ?_)
  · obtain ⟨d, L, n, rfl, _⟩ := h
    rfl
  obtain ⟨d, L, n, rfl, tb, hL, q⟩ := h
  have hu := hu_of hr
  have hk : ∀ m v, look L m = some v → m ∈ keys L := fun m v e => look_mem e
  have kl : (keys L).length = L.length := by
    unfold keys
    rw [List.length_map]
  refine ⟨_, (pss_cons (ps_set (i := 2) sctarget_in.nd rfl (Or.inl rfl) (pe_c Gpassed hr (pa_cons (pv 0) (pa_cons (pv 1) pa_nil))))
        (pss_cons (ps_if (pt_cmp (pc_notN (pv 2)) rfl) (pss_one (ps_ret (pv 2))) pss_nil)
        (pss_cons (ps_for PassesOwn.never rfl (pi_range1 rfl T.range (pa_cons (pe_callB call_lenR (by rfl) T.len PySem.boot_len (pa_cons (pv 0) pa_nil)) pa_nil)) (pg_name (i := 3) sctarget_in.nd rfl (Or.inl rfl)) (pss_one (ps_set (i := 1) sctarget_in.nd rfl (Or.inl rfl) (pe_ix ix_tup (pe_dget hu (pv 0) (pv 1) (fun _ _ => rfl)) pe_int (fun _ _ => rfl)))))
        (pss_cons (ps_set (i := 4) sctarget_in.nd rfl (Or.inl rfl) (pe_lst (pa_cons (pv 1) pa_nil)))
        (pss_cons (ps_while PassesOwn.never (pt_cmpR op_ne (pe_ix ix_tup (pe_dget hu (pv 0) (pe_ix ix_list (pv 4) (pe_un un_neg pe_int) (fun _ _ => rfl)) (fun _ _ => rfl)) pe_int (fun _ _ => rfl)) (pv 1) (nomark _)) (pss_one (ps_expr (pe_bm PySem.F.plainAttrs_list PySem.F.slot_list_append PySem.F.type_list_append mt_append (pv 4) (pa_cons (pe_ix ix_tup (pe_dget hu (pv 0) (pe_ix ix_list (pv 4) (pe_un un_neg pe_int) (fun _ _ => rfl)) (fun _ _ => rfl)) pe_int (fun _ _ => rfl)) pa_nil)))))
        (pss_cons (ps_setLc (i := 5) (own := [("one", 6)]) (tt := _) rfl sctarget_in.nd rfl rfl (sw_true rfl rfl rfl (by decide +kernel)) (pi_list (pv 4)) (blkOk_by (own := [("one", 6)]) (N := ["table", "number", "arrived", "_", "ring", "fixed", "one"]) (sc := defScope (tp 16)) (by decide +kernel)) (fun _ _ _ _ _ => pg_name (i := 6) sctarget_in.nd rfl (Or.inl rfl)) (fun _ _ _ _ _ => pts_one (pt_chain op_le op_lt pe_int (pv 6) pe_int)) (fun _ _ _ _ _ => (pv 6)))
        (pss_cons (ps_if (pt_truth (pv 5) (by intro _; rfl)) (pss_one (ps_ret (pe_callB (cr_min rfl) (by rfl) T.min b_min (pa_cons (pv 5) pa_nil)))) pss_nil)
        (pss_one (ps_ret (pe_callB (cr_min rfl) (by rfl) T.min b_min (pa_cons (pv 4) pa_nil))))))))))), ?_⟩
  refine ⟨_, rfl, _, rfl, d, L, n, rfl, tb, hL, fun H1 s1 => ⟨fun a j ha => ?_, fun r => ?_⟩⟩
  · refine ⟨_, rfl, _, rfl, ?_⟩
    rw [decide_eq_false (show ¬ V.int a = V.non from fun z => by cases z)]
    exact iteT ⟨_, rfl, q a H1 s1 (.inl ⟨j, ha⟩)⟩
  · refine ⟨_, rfl, _, rfl, ?_⟩
    rw [decide_eq_true (show V.non = V.non from rfl)]
    refine iteF ?_
    obtain ⟨kvs, rd, en, ndk⟩ := tb.same s1
    have el : kvs.length = L.length := en.len
    refine ⟨_, rfl, d, kvs, rfl, rd, _, rfl, by omega, by omega, for_range (lo := 0) (n := ((kvs.length : Nat) : Int).toNat) (fun i σ H' => Same H H' ∧ ∃ v, σ = [some (.ref d), some (.int (Pl.it (look L) n i)), some .non, v, none, none, none])
      ⟨s1, none, rfl⟩ ?_ ?_⟩
    · rintro i σ H' hi ⟨s2, v, rfl⟩
      obtain ⟨op, arg, g1, _⟩ := Pl.nopAt_some (r i)
      obtain ⟨t, g, ht⟩ := (tb.same s2).yes g1
      exact ⟨_, rfl, _, rfl, d, _, rfl, g, t, _, _, _, rfl, rfl, SqT.of ht, rfl, s2, _, rfl⟩
    · rintro σ H2 ⟨s2, v, rfl⟩
      rw [show ((kvs.length : Nat) : Int).toNat = (keys L).length from by rw [kl, ← el]; exact Int.toNat_natCast _]
      generalize hx0 : Pl.it (look L) n (keys L).length = x0
      have rx : ∀ i, Pl.nopAt (look L) (Pl.it (look L) x0 i) = true := fun i => by
        rw [← hx0]
        exact r.at' _ i
      obtain ⟨p0, hp1, hp2, hp3⟩ := r.period hk
      rw [hx0] at hp3
      refine ⟨_, rfl, (by show 1 ≤ sizeLine; decide), fun l hl => ?_⟩
      have hlH : H l = none := s2.free hl
      refine ⟨fun m σ H' => ∃ i, m = p0 - i ∧ i < p0 ∧ Same H H' ∧ H' l = some (.lst ((Pl.trail (look L) x0 (i + 1)).map V.int)) ∧ σ = [some (.ref d), some (.int x0), some .non, v, some (.ref l), none, none],
        ⟨_, 0, rfl, by omega, Same.mut s2 hlH, upd_same, rfl⟩, ?_⟩
      rintro m σ H' ⟨i, rfl, hi, s3, hlst, rfl⟩
      obtain ⟨op, arg, g1, _⟩ := Pl.nopAt_some (rx i)
      obtain ⟨t, g, ht⟩ := (tb.same s3).yes g1
      have hat : atI ((Pl.trail (look L) x0 (i + 1)).map V.int) (-1) = some (.int (Pl.it (look L) x0 i)) := by
        rw [Pl.trail_succ, List.map_append]
        exact atI_last _ _
      refine ⟨_, rfl, _, rfl, _, rfl, l, _, _, _, rfl, rfl, SqL.of hlst, hat, d, _, rfl, g, t, _, _, _, rfl, rfl, SqT.of ht, rfl, _, rfl, rfl, _, rfl, ifNe (fun hne => ?_) fun heq => ?_⟩
      · refine ⟨fun σ' H'' => ∃ m', m' < p0 - i ∧ ∃ j, m' = p0 - j ∧ j < p0 ∧ Same H H'' ∧ H'' l = some (.lst ((Pl.trail (look L) x0 (j + 1)).map V.int)) ∧ σ' = [some (.ref d), some (.int x0), some .non, v, some (.ref l), none, none], fun _ _ z => z, ?_⟩
        have hi2 : i + 1 < p0 := by
          by_cases c : i + 1 = p0
          · exfalso
            rw [← c] at hp3
            exact hne hp3
          · omega
        refine ⟨_, rfl, .inl ⟨rfl, _, SqL.of hlst⟩, _, rfl, _, rfl, _, rfl, l, _, _, _, rfl, rfl, SqL.of hlst, hat, d, _, rfl, g, t, _, _, _, rfl, rfl, SqT.of ht, rfl, l, _, _, rfl, rfl, hlst, ?_, ?_⟩
        · rw [List.length_map, Pl.trail_len]
          exact small1000 (by omega)
        · refine ⟨p0 - (i + 1), by omega, i + 1, rfl, hi2, Same.mut s3 hlH, ?_, rfl⟩
          rw [upd_same, Pl.trail_succ (look L) x0 (i + 1), List.map_append]
          rfl
      · have hcyc : Pl.it (look L) (Pl.it (look L) n (keys L).length) (i + 1) = Pl.it (look L) n (keys L).length := by
          rw [hx0]
          exact heq
        refine ⟨_, rfl, l, rfl, ⟨_, SqL.of hlst⟩, fun D hD => ?_⟩
        have hDl : l ≠ D := ne_of_none hlst hD
        have hDH : H D = none := s3.free hD
        refine lc_list (K := K) (a := l) (xs := (Pl.trail (look L) x0 (i + 1)).map V.int) (fun j H'' => Same H H'' ∧ H'' l = some (.lst ((Pl.trail (look L) x0 (i + 1)).map V.int)) ∧ H'' D = some (.lst ((((Pl.trail (look L) x0 (i + 1)).take j).filter Pl.fx).map V.int)))
          ⟨Same.mut s3 hDH, by rw [upd_ne hDl]; exact hlst, upd_same⟩ (fun j H'' _ z => SqL.of z.2.1) ?_ ?_
        · rintro j x H'' hj ⟨s4, hl4, hD4⟩
          rw [List.getElem?_map] at hj
          obtain ⟨y, hy, ex⟩ := Option.map_eq_some_iff.mp hj
          subst ex
          have htk : (Pl.trail (look L) x0 (i + 1)).take (j + 1) = (Pl.trail (look L) x0 (i + 1)).take j ++ [y] := by
            rw [List.take_add_one, hy]
            rfl
          have hjl : j < (Pl.trail (look L) x0 (i + 1)).length := (List.getElem?_eq_some_iff.mp hy).1
          refine ⟨rfl, _, rfl, _, _, rfl, rfl, _, rfl, ?_⟩
          have no : Pl.fx y = false → Same H H'' ∧ H'' l = some (.lst ((Pl.trail (look L) x0 (i + 1)).map V.int)) ∧ H'' D = some (.lst ((((Pl.trail (look L) x0 (i + 1)).take (j + 1)).filter Pl.fx).map V.int)) := fun hf => by
            refine ⟨s4, hl4, ?_⟩
            rw [htk, List.filter_append, List.filter_cons, hf, List.filter_nil, hD4, if_neg Bool.false_ne_true, List.append_nil]
          refine ifD (fun h0 => ⟨_, _, rfl, rfl, _, rfl, ifD (fun h1 => ?_) fun h1 => ?_⟩) fun h0 => ⟨_, rfl, iteF (no (by unfold Pl.fx; rw [decide_eq_false h0]; rfl))⟩
          · have hf : Pl.fx y = true := Pl.fx_of h0 h1
            refine ⟨_, rfl, _, hD4, ?_, Same.mut s4 hDH, by rw [upd_ne hDl]; exact hl4, ?_⟩
            · rw [List.length_map]
              refine small1000 (Nat.le_trans (List.length_filter_le _ _) ?_)
              rw [List.length_take]
              rw [Pl.trail_len] at hjl
              omega
            · rw [upd_same, htk, List.filter_append, List.filter_cons, hf, List.filter_nil, List.map_append]
              rfl
          · exact no (by unfold Pl.fx; rw [decide_eq_false h1, Bool.and_false])
        · rintro H4 ⟨s4, hl4, hD4⟩
          rw [List.length_map, List.take_length] at hD4
          have pos : 0 < (Pl.trail (look L) x0 (i + 1)).length := by
            rw [Pl.trail_len]
            omega
          refine ⟨_, rfl, _, .inl ⟨_, SqL.of hD4, rfl⟩, ?_⟩
          cases hfl : (Pl.trail (look L) x0 (i + 1)).filter Pl.fx with
          | nil =>
            refine iteF ⟨_, rfl, l, _, rfl, SqL.of hl4, pos, fun m hm1 hm2 => q m H4 s4 ?_⟩
            refine Pl.tgt_of_ring r hcyc (by rw [hx0]; exact hm1) (.inr ?_)
            rw [hx0]
            refine ⟨fun y hy => ?_, hm2⟩
            cases e : Pl.fx y with
            | false => rfl
            | true =>
              have : y ∈ (Pl.trail (look L) x0 (i + 1)).filter Pl.fx := List.mem_filter.mpr ⟨hy, e⟩
              rw [hfl] at this
              cases this
          | cons z zs =>
            rw [hfl] at hD4
            refine iteT ⟨_, rfl, D, z :: zs, rfl, SqL.of hD4, Nat.succ_pos _, fun m hm1 hm2 => q m H4 s4 ?_⟩
            rw [← hfl] at hm1 hm2
            obtain ⟨a1, a2⟩ := List.mem_filter.mp hm1
            refine Pl.tgt_of_ring r hcyc (by rw [hx0]; exact a1) (.inl ?_)
            rw [hx0]
            exact ⟨a2, fun y hy e => hm2 y (List.mem_filter.mpr ⟨hy, e⟩)⟩
end Zw
namespace Zw
open PySem PySem.Spec PyProof.Rows L2 PH
/-- a dict comprehension over a walk -/
theorem dc_it {J : It} {n : Nat} {G : Hp → Prop} {Y : Nat → Hp → V → Hp → Prop} (w : L2.Walk J n G Y) {g : TG} {tt : TT} {tk tv : TE} {vs : List Nat} {σ : L2.St} {H1 : Hp} {D : Addr} {Qd : Hp → Prop} (Pv : Nat → Hp → Prop)
    (h0 : Pv 0 (upd H1 D (.dK []))) (hG : ∀ i H, i ≤ n → Pv i H → G H)
    (hs : ∀ i x H H', i < n → Pv i H → Y i H x H' → g x (wipe σ vs) H' fun σ2 H2 => wipe σ2 vs = wipe σ vs ∧ tt σ2 H2 fun b H3 =>
      if b = true then tk σ2 H3 fun y H4 => tv σ2 H4 fun z H5 => ∃ kvs k, y = kV k ∧ H5 D = some (.dK kvs) ∧ kvs.length < sizeLine ∧ Pv (i + 1) (upd H5 D (.dK (putK kvs k z))) else Pv (i + 1) H3)
    (hd : ∀ H, Pv n H → Qd H) :
    ∃ W : Nat → Nat → Hp → Prop, (∃ m, W 0 m (upd H1 D (.dK []))) ∧ ∀ i m H, W i m H →
      (J.stop i H ∧ Qd H) ∨ (J.go i H ∧ ∃ Nx : Hp → Prop, (∀ H', Nx H' → ∃ m', m' < m ∧ W (i + 1) m' H') ∧ ∀ x H', J.yld i H x H' →
        g x (wipe σ vs) H' fun σ2 H2 => wipe σ2 vs = wipe σ vs ∧ tt σ2 H2 fun b H3 => if b = true then tk σ2 H3 fun y H4 => tv σ2 H4 fun z H5 =>
          ∃ kvs k, y = kV k ∧ H5 D = some (.dK kvs) ∧ kvs.length < sizeLine ∧ Nx (upd H5 D (.dK (putK kvs k z))) else Nx H3) := by
  refine ⟨fun i m H => m = n - i ∧ i ≤ n ∧ Pv i H, ⟨n, rfl, Nat.zero_le _, h0⟩, ?_⟩
  rintro i m H ⟨em, hi, p⟩
  have q := hG i H hi p
  by_cases hlt : i < n
  · right
    exact ⟨w.goes i H hlt q, Pv (i + 1), fun H' p' => ⟨n - (i + 1), by omega, rfl, hlt, p'⟩, fun x H' y => hs i x H H' hlt p (w.yields i H x H' hlt q y)⟩
  · have e : i = n := by omega
    subst e
    left
    exact ⟨w.stops H q, hd H p⟩

def flat (R : Tl) : List Int := R.flatMap fun r => [r.1, r.2.1, r.2.2.1, r.2.2.2]
theorem flat_len (R : Tl) : (flat R).length = 4 * R.length := by
  induction R with
  | nil => rfl
  | cons r R ih =>
    unfold flat at ih ⊢
    rw [List.flatMap_cons, List.length_append, ih, List.length_cons (a := r)]
    show 4 + 4 * R.length = _
    omega
theorem flat_append (R S : Tl) : flat (R ++ S) = flat R ++ flat S := by
  unfold flat
  rw [List.flatMap_append]
theorem flat_cut : ∀ {R : Tl} {i : Nat} {r : Int × Pl.Node}, R[i]? = some r → ((flat R).drop (4 * i)).take 4 = [r.1, r.2.1, r.2.2.1, r.2.2.2]
  | [], i, r, h => by simp at h
  | q :: R, 0, r, h => by
    have e : q = r := Option.some.inj h
    subst e
    rfl
  | q :: R, i + 1, r, h => by
    have ih := flat_cut (R := R) (i := i) (r := r) (by simpa using h)
    have e : 4 * (i + 1) = 4 * i + 4 := by omega
    rw [e]
    exact ih
def RowAt (H : Hp) (v : V) (r : Int × Pl.Node) : Prop := ∃ t, v = .ref t ∧ H t = some (.tup [.int r.1, .int r.2.1, .int r.2.2.1, .int r.2.2.2])
theorem RowAt.keep {H H' : Hp} {v : V} {r : Int × Pl.Node} (k : TK H H') (h : RowAt H v r) : RowAt H' v r := let ⟨t, e, h⟩ := h; ⟨t, e, k _ _ h⟩
theorem rg4 (k : Nat) (hk : k ≤ 1000) : RgC 0 (((4 * k : Nat) : Int) - 3) 4 k := by
  have e : Builtin.Range.rangeSize 0 (((4 * k : Nat) : Int) - 3) 4 = (k : Int) := by
    unfold Builtin.Range.rangeSize
    simp only [show (4 : Int) > 0 by decide, if_true]
    split <;> omega
  refine ⟨by decide, by decide, ?_, e⟩
  unfold Builtin.Range.small
  rw [e]
  simp only [Builtin.Range.rangeFitsLong, Bool.and_eq_true, Bool.or_eq_true, decide_eq_true_eq, beq_iff_eq, show (4 : Int) > 0 by decide, if_true]
  omega
variable {P : Program} {w : World} {K : PySem.W.Frag} {mg : Str → Option Value} {base : Heap}
abbrev snodes_of : Stmt := tp 2
theorem scnodes_of : FnScope ["image", "start"] ["image"] (defScope snodes_of) := ⟨rfl, rfl, rfl, by decide +kernel, rfl, by decide +kernel, by decide +kernel⟩
def spNodes (K : PySem.W.Frag) : Sp := fun vs H Q _ => ∃ (a : Addr) (R : Tl), vs = [.ref a] ∧ SqL K H a ((flat R).map V.int) ∧ R.length ≤ 100 ∧ ∀ H' p xs, Same H H' → H p = none → H' p = some (.lst xs) → Paired (RowAt H') xs R → Q (.ref p) H'
theorem paired_snoc {α β : Type} {F : α → β → Prop} {xs : List α} {ys : List β} {x : α} {y : β} (h : Paired F xs ys) (e : F x y) : Paired F (xs ++ [x]) (ys ++ [y]) := by
  induction h with
  | nil => exact .cons e .nil
  | cons a t ih => exact .cons a ih
theorem take_succ_some {α : Type} {l : List α} {i : Nat} {x : α} (h : l[i]? = some x) : l.take (i + 1) = l.take i ++ [x] := by
  rw [List.take_add_one, h]
  rfl
theorem c_nodes_of (F : Top K mg "nodes_of" snodes_of) (T : Txt K mg) : Cal P w K mg base 1 "nodes_of" ["image"] (spNodes K) := by
  refine F.cal scnodes_of (fun vs H Q E h => ?_) (fun _ _ _ _ _ _ us hl => match us, hl with | [_], _ => rfl) (fun f cdv A outer s H vs Q E hr h => ?_)
  · obtain ⟨a, R, rfl, _⟩ := h
    rfl
  obtain ⟨a, R, rfl, S, hR, q⟩ := h
  refine ⟨_, (pss_one (ps_ret (pe_lc (own := [("start", 1)]) (tt := tYes) rfl scnodes_of.nd (pi_range3 rfl T.range (pa_cons pe_int (pa_cons (pe_op op_sub (pe_callB call_len_seq (by rfl) T.len PySem.boot_len (pa_cons (pv 0) pa_nil)) pe_int) (pa_cons pe_int pa_nil)))) (blkOk_by (own := [("start", 1)]) (N := ["image", "start"]) (sc := defScope (tp 2)) (by decide +kernel)) (fun _ _ _ _ _ => pg_name (i := 1) scnodes_of.nd rfl (Or.inl rfl)) (fun _ _ _ _ _ => pts_nil) (fun _ _ _ _ _ => (pe_callTy (call_tupleK (K := K) rfl) (by rfl) T.tuple b_tuple (pa_cons (pe_slice (sl_listK (K := K) rfl) (pv 0) (po_some (pv 1)) (po_some (pe_op op_add (pv 1) pe_int))) pa_nil)))))), ?_⟩
  have el : ((flat R).map V.int).length = 4 * R.length := by rw [List.length_map, flat_len]
  refine ⟨_, rfl, a, _, rfl, .inl S, _, _, rfl, rfl, 0, _, 4, R.length, rfl, by rw [el]; exact rg4 _ (by omega), fun D hD => ?_⟩
  refine lc_it walk_rangeC (fun i H' => Same H H' ∧ ∃ xs, H' D = some (.lst xs) ∧ Paired (RowAt H') xs (R.take i)) ⟨Same.new hD, [], upd_same, .nil⟩ (fun _ _ _ _ => trivial) ?_ ?_
  · rintro i x H0 H1 hi ⟨s1, xs, hx, pr⟩ ⟨rfl, rfl⟩
    have hr0 : R[i]? = some R[i] := List.getElem?_eq_getElem hi
    have xl : xs.length = i := by
      rw [Paired.length pr, List.length_take]
      omega
    refine ⟨rfl, _, rfl, _, rfl, _, rfl, _, rfl, _, _, rfl, rfl, _, rfl, a, _, rfl, Same.seq s1 S, fun p hp => ?_⟩
    have c : cutV ((flat R).map V.int) (some (0 + (i : Nat) * 4)) (some (0 + (i : Nat) * 4 + 4)) = [.int R[i].1, .int R[i].2.1, .int R[i].2.2.1, .int R[i].2.2.2] := by
      unfold cutV
      have e1 : ((0 : Int) + (i : Nat) * 4) = ((4 * i : Nat) : Int) := by omega
      have e2 : ((0 : Int) + (i : Nat) * 4 + 4) = ((4 * i + 4 : Nat) : Int) := by omega
      rw [e2, e1]
      show (((flat R).map V.int).drop (HT.sIx _ 0 (some ((4 * i : Nat) : Int)))).take (HT.sIx _ _ (some ((4 * i + 4 : Nat) : Int)) - HT.sIx _ 0 (some ((4 * i : Nat) : Int))) = _
      rw [HT.sIx_nat, HT.sIx_nat, el, Nat.min_eq_left (by omega), Nat.min_eq_left (by omega)]
      have e3 : 4 * i + 4 - 4 * i = 4 := by omega
      rw [e3, ← List.map_drop, ← List.map_take, flat_cut hr0]
      rfl
    rw [c]
    have pD : D ≠ p := ne_of_none hx hp
    refine ⟨p, _, rfl, .inl ⟨SqL.of upd_same, fun t ht => ?_⟩⟩
    have tp : p ≠ t := fun z => by
      rw [← z, upd_same] at ht
      cases ht
    have ht0 : H1 t = none := by
      rw [upd_ne tp.symm] at ht
      exact ht
    have tD : D ≠ t := ne_of_none hx ht0
    have hpH : H p = none := s1.free hp
    have htH : H t = none := s1.free ht0
    refine ⟨xs, by rw [upd_ne tD, upd_ne pD]; exact hx, small1000 (by omega), ?_⟩
    refine ⟨Same.mut (Same.mut (Same.mut s1 hpH) htH) hD, xs ++ [.ref t], upd_same, ?_⟩
    rw [take_succ_some hr0]
    have k : TK H1 (upd (upd (upd H1 p (.lst [.int R[i].1, .int R[i].2.1, .int R[i].2.2.1, .int R[i].2.2.2])) t (.tup [.int R[i].1, .int R[i].2.1, .int R[i].2.2.1, .int R[i].2.2.2])) D (.lst (xs ++ [.ref t]))) := by
      refine ((TK.updN hp).trans (TK.updN ht)).trans (TK.updS (u := .lst xs) ?_)
      rw [upd_ne tD, upd_ne pD]
      exact hx
    refine paired_snoc (Paired.mapP pr fun v r z => z.keep k) ⟨t, rfl, ?_⟩
    rw [upd_ne tD.symm, upd_same]
  · rintro H1 ⟨s1, xs, hx, pr⟩
    rw [List.take_length] at pr
    exact q H1 D xs s1 hD hx pr

/-- the rows one after the other put into a table: later ones win -/
def tabOf (R : Tl) : Tl := R.foldl (fun T r => putT T r.1 r.2) []
theorem tabOf_snoc (R : Tl) (r : Int × Pl.Node) : tabOf (R ++ [r]) = putT (tabOf R) r.1 r.2 := by
  unfold tabOf
  rw [List.foldl_append]
  rfl
theorem tabOf_take (R : Tl) : ∀ i, (keys (tabOf (R.take i))).Nodup ∧ (tabOf (R.take i)).length ≤ i
  | 0 => ⟨List.nodup_nil, Nat.le_refl _⟩
  | i + 1 => by
    obtain ⟨h1, h2⟩ := tabOf_take R i
    cases e : R[i]? with
    | none =>
      have e2 : R.take (i + 1) = R.take i := by
        rw [List.take_add_one, e]
        exact List.append_nil _
      rw [e2]
      exact ⟨h1, Nat.le_succ_of_le h2⟩
    | some r =>
      rw [take_succ_some e, tabOf_snoc]
      exact ⟨putT_nd h1 _ _, Nat.le_trans (putT_len _ _ _) (Nat.succ_le_succ h2)⟩
theorem tabOf_len (R : Tl) : (tabOf R).length ≤ R.length := by
  have := (tabOf_take R R.length).2
  rw [List.take_length] at this
  exact this
abbrev stable_of : Stmt := tp 3
theorem sctable_of : FnScope ["image", "table", "number", "operation", "argument", "successor"] ["image"] (defScope stable_of) := ⟨rfl, rfl, rfl, by decide +kernel, rfl, by decide +kernel, by decide +kernel⟩
def spTab (K : PySem.W.Frag) : Sp := fun vs H Q _ => ∃ (a : Addr) (R : Tl), vs = [.ref a] ∧ SqL K H a ((flat R).map V.int) ∧ R.length ≤ 100 ∧ ∀ H' p, Same H H' → H p = none → TabM H' p (tabOf R) → Q (.ref p) H'
theorem c_table_of (F : Top K mg "table_of" stable_of) (T : Txt K mg) (Gnodes_of : Cal P w K mg base 1 "nodes_of" ["image"] (spNodes K)) : Cal P w K mg base 2 "table_of" ["image"] (spTab K) := by
  refine F.cal sctable_of (fun vs H Q E h => ?_) (fun _ _ _ _ _ _ us hl => match us, hl with | [_], _ => rfl) (fun f cdv A outer s H vs Q E hr h => ?_)
  · obtain ⟨a, R, rfl, _⟩ := h
    rfl
  obtain ⟨a, R, rfl, S, hR, q⟩ := h
  have hu := hu_of hr
  refine ⟨_, (pss_cons (ps_set (i := 1) sctable_of.nd rfl (Or.inl rfl) pe_dnewK)
        (pss_cons (ps_for PassesOwn.never rfl (pi_list (pe_c Gnodes_of hr (pa_cons (pv 0) pa_nil))) (pg_tup rfl (pgs_cons (pg_name (i := 2) sctable_of.nd rfl (Or.inl rfl)) (pgs_cons (pg_name (i := 3) sctable_of.nd rfl (Or.inl rfl)) (pgs_cons (pg_name (i := 4) sctable_of.nd rfl (Or.inl rfl)) (pgs_cons (pg_name (i := 5) sctable_of.nd rfl (Or.inl rfl)) pgs_nil))))) (pss_one (ps_dput hu (pv 1) (pv 2) (pe_tup (pa_cons (pv 3) (pa_cons (pv 4) (pa_cons (pv 5) pa_nil)))) rfl)))
        (pss_one (ps_ret (pv 1))))), ?_⟩
  intro d hd
  refine ⟨_, rfl, a, R, rfl, Same.seq (Same.new hd) S, hR, fun H1 p xs s1 hp hx pr => ?_⟩
  have hd1 : H1 d = some (.dK []) := s1 _ _ upd_same
  have npd : p ≠ d := fun z => by
    rw [z, upd_same] at hp
    cases hp
  have sH1 : Same H H1 := fun b o e => s1 b o (Same.new hd b o e)
  have xl : xs.length = R.length := Paired.length pr
  refine ⟨p, rfl, ⟨xs, SqL.of hx⟩, for_list (K := K) (a := p) (xs := xs) (fun i σ H' => Same H H' ∧ H' p = some (.lst xs) ∧ TK H1 H' ∧ TabM H' d (tabOf (R.take i)) ∧ ∃ v2 v3 v4 v5, σ = [some (.ref a), some (.ref d), v2, v3, v4, v5])
    ⟨sH1, hx, TK.refl _, ⟨[], hd1, .nil, List.nodup_nil⟩, none, none, none, none, rfl⟩ (fun i σ H' _ z => SqL.of z.2.1) ?_ ?_⟩
  · rintro i x σ H' hi ⟨s2, hx2, k2, tb, v2, v3, v4, v5, rfl⟩
    have hil : i < R.length := by
      rw [← xl]
      exact (List.getElem?_eq_some_iff.mp hi).1
    have hr0 : R[i]? = some R[i] := List.getElem?_eq_getElem hil
    have row : ∀ {xs : List V} {R : Tl} {i : Nat} {x : V} {r : Int × Pl.Node}, Paired (RowAt H1) xs R → xs[i]? = some x → R[i]? = some r → RowAt H1 x r := fun {xs R i x r} h => by
      intro h1 h2
      induction h generalizing i with
      | nil => simp at h1
      | cons a t ih =>
        cases i with
        | zero =>
          cases h1
          cases h2
          exact a
        | succ i => exact ih (by simpa using h1) (by simpa using h2)
    obtain ⟨t, ex, ht⟩ := row pr hi hr0
    subst ex
    have ht' := k2 _ _ ht
    refine ⟨t, _, rfl, SqT.of ht', rfl, _, _, rfl, _, _, rfl, _, _, rfl, _, _, rfl, rfl, ?_⟩
    refine ⟨_, rfl, _, rfl, _, rfl, (by show 3 ≤ sizeLine; decide), fun u hu0 => ?_⟩
    obtain ⟨h1, h2⟩ := tabOf_take R i
    have tb2 : TabM (upd H' u (.tup [.int R[i].2.1, .int R[i].2.2.1, .int R[i].2.2.2])) d (tabOf (R.take i)) := tb.same (Same.new hu0)
    obtain ⟨H3, put, tb3, kvs, eH⟩ := tb2.put (n := R[i].1) (t := u) (nd := R[i].2) upd_same (by omega)
    refine ⟨_, rfl, _, rfl, d, H3, rfl, put, ?_⟩
    obtain ⟨kd, hkd, _⟩ := tb
    have ndu : d ≠ u := ne_of_none hkd hu0
    have npu : p ≠ u := ne_of_none hx2 hu0
    have hkd2 : (upd H' u (.tup [.int R[i].2.1, .int R[i].2.2.1, .int R[i].2.2.2])) d = some (.dK kd) := by rw [upd_ne ndu]; exact hkd
    refine ⟨?_, ?_, ?_, ?_, _, _, _, _, rfl⟩
    · rw [eH]
      exact Same.mut (Same.mut s2 (s2.free hu0)) hd
    · rw [eH, upd_ne npd, upd_ne npu]
      exact hx2
    · rw [eH]
      exact (k2.trans (TK.updN hu0)).trans (TK.updS hkd2)
    · rw [take_succ_some hr0, tabOf_snoc]
      exact tb3
  · rintro σ H' ⟨s2, hx2, k2, tb, v2, v3, v4, v5, rfl⟩
    refine ⟨_, rfl, q H' d s2 hd ?_⟩
    rw [xl, List.take_length] at tb
    exact tb
end Zw
namespace Zw
open PySem PySem.Spec PyProof.Rows L2 PH
variable {P : Program} {w : World} {K : PySem.W.Frag} {mg : Str → Option Value} {base : Heap}
theorem putT_new {T : Tl} {n : Int} {nd : Pl.Node} (h : ¬ n ∈ keys T) : putT T n nd = T ++ [(n, nd)] := by
  unfold putT
  refine if_neg fun z => h ?_
  obtain ⟨p, hp, e⟩ := List.any_eq_true.mp z
  exact List.mem_map.mpr ⟨p, hp, of_decide_eq_true e⟩
theorem tabOf_nodup {R : Tl} (h : (keys R).Nodup) : tabOf R = R := by
  have key : ∀ i, i ≤ R.length → tabOf (R.take i) = R.take i := fun i => by
    induction i with
    | zero => intro _; rfl
    | succ i ih =>
      intro hi
      have e : R[i]? = some R[i] := List.getElem?_eq_getElem hi
      rw [take_succ_some e, tabOf_snoc, ih (by omega)]
      refine putT_new fun z => ?_
      have h2 : (keys (R.take (i + 1))).Nodup := by
        unfold keys at h ⊢
        rw [List.map_take]
        exact h.sublist (List.take_sublist _ _)
      rw [take_succ_some e] at h2
      unfold keys at h2 z
      rw [List.map_append, List.nodup_append] at h2
      exact h2.2.2 _ z _ (List.mem_singleton.mpr rfl) rfl
  have := key R.length (Nat.le_refl _)
  rw [List.take_length] at this
  exact this
def rowsOf (L : Tl) (ys : List Int) : Tl := ys.map fun n => (n, (look L n).getD (0, 0, 0))
theorem rowsOf_keys (L : Tl) (ys : List Int) : keys (rowsOf L ys) = ys := by
  unfold keys rowsOf
  rw [List.map_map]
  show ys.map (fun n => n) = ys
  exact List.map_id' ys
theorem rowsOf_look {L : Tl} {ys : List Int} (h : ys.Perm (keys L)) (n : Int) : look (rowsOf L ys) n = look L n := by
  by_cases m : n ∈ ys
  · have key : ∀ ys : List Int, n ∈ ys → look (rowsOf L ys) n = some ((look L n).getD (0, 0, 0)) := fun ys => by
      induction ys with
      | nil => intro z; cases z
      | cons a r ih =>
        intro z
        show look ((a, (look L a).getD (0, 0, 0)) :: rowsOf L r) n = _
        by_cases e : a = n
        · rw [look_cons_pos (p := (a, (look L a).getD (0, 0, 0))) e, e]
        · rw [look_cons_neg (p := (a, (look L a).getD (0, 0, 0))) e]
          exact ih ((List.mem_cons.mp z).resolve_left fun q => e q.symm)
    rw [key ys m]
    obtain ⟨nd, e⟩ := look_some_of (h.mem_iff.mp m)
    rw [e]
    rfl
  · rw [look_none (T := rowsOf L ys) (by rw [rowsOf_keys]; exact m), look_none fun z => m (h.mem_iff.mpr z)]
abbrev swritten : Stmt := tp 10
theorem scwritten : FnScope ["table", "cells", "number", "op", "arg", "successor"] ["table"] (defScope swritten) := ⟨rfl, rfl, rfl, by decide +kernel, rfl, by decide +kernel, by decide +kernel⟩
def spWritten : Sp := fun vs H Q _ => ∃ (d : Addr) (L : Tl), vs = [.ref d] ∧ TabAt H d L ∧ L.length ≤ 61 ∧ ∀ H' p R, Same H H' → H p = none → H' p = some (.lst ((flat R).map V.int)) → R.length = L.length → (∀ n, look (tabOf R) n = look L n) → Q (.ref p) H'
theorem c_written (F : Top K mg "written" swritten) (T : Txt K mg) : Cal P w K mg base 1 "written" ["table"] spWritten := by
  refine F.cal scwritten (fun vs H Q E h => ?_) (fun _ _ _ _ _ _ us hl => match us, hl with | [_], _ => rfl) (fun f cdv A outer s H vs Q E hr h => ?_)
  · obtain ⟨d, L, rfl, _⟩ := h
    rfl
  obtain ⟨d, L, rfl, tb, hL, q⟩ := h
  have hu := hu_of hr
  refine ⟨_, (pss_cons (ps_set (i := 1) scwritten.nd rfl (Or.inl rfl) (pe_lst pa_nil))
        (pss_cons (ps_for PassesOwn.never rfl (pi_list (pe_callB (call_sortedDI rfl) (by rfl) T.sorted b_sorted (pa_cons (pv 0) pa_nil))) (pg_name (i := 2) scwritten.nd rfl (Or.inl rfl)) (pss_cons (ps_asg (pe_dget hu (pv 0) (pv 2) (fun _ _ => rfl)) (pg_tup rfl (pgs_cons (pg_name (i := 3) scwritten.nd rfl (Or.inl rfl)) (pgs_cons (pg_name (i := 4) scwritten.nd rfl (Or.inl rfl)) (pgs_cons (pg_name (i := 5) scwritten.nd rfl (Or.inl rfl)) pgs_nil)))))
        (pss_one (ps_expr (pe_bm PySem.F.plainAttrs_list PySem.F.slot_list_extend PySem.F.type_list_extend mt_extend (pv 1) (pa_cons (pe_lst (pa_cons (pv 2) (pa_cons (pv 3) (pa_cons (pv 4) (pa_cons (pv 5) pa_nil))))) pa_nil))))))
        (pss_one (ps_ret (pv 1))))), ?_⟩
  refine ⟨Nat.zero_le _, fun p hp => ?_⟩
  obtain ⟨kvs, rd, en, ndk⟩ := tb.same (Same.new (o := .lst []) hp)
  have kl : (keys L).length = L.length := by
    unfold keys
    rw [List.length_map]
  refine ⟨_, rfl, d, kvs, keys L, rfl, rd, en.keys, by omega, fun ys b perm srt hb => ?_⟩
  have npb : p ≠ b := fun z => by
    rw [← z, upd_same] at hb
    cases hb
  have hb0 : H b = none := by
    rw [upd_ne npb.symm] at hb
    exact hb
  have yl : ys.length = L.length := by rw [perm.length_eq, kl]
  refine ⟨b, rfl, ⟨_, SqL.of upd_same⟩, for_list (K := K) (a := b) (xs := ys.map V.int) (fun i σ H' => Same H H' ∧ H' b = some (.lst (ys.map V.int)) ∧ H' p = some (.lst ((flat (rowsOf L (ys.take i))).map V.int)) ∧ ∃ v2 v3 v4 v5, σ = [some (.ref d), some (.ref p), v2, v3, v4, v5])
    ⟨Same.mut (Same.new hp) hb0, upd_same, by rw [upd_ne npb, upd_same]; rfl, none, none, none, none, rfl⟩ (fun i σ H' _ z => SqL.of z.2.1) ?_ ?_⟩
  · rintro i x σ H' hi ⟨s2, hb2, hp2, v2, v3, v4, v5, rfl⟩
    rw [List.getElem?_map] at hi
    obtain ⟨n, hn, ex⟩ := Option.map_eq_some_iff.mp hi
    subst ex
    have hil : i < ys.length := (List.getElem?_eq_some_iff.mp hn).1
    obtain ⟨nd, e⟩ := look_some_of (perm.mem_iff.mp (List.mem_of_getElem? hn))
    obtain ⟨t, g, ht⟩ := (tb.same s2).yes e
    refine ⟨_, rfl, _, rfl, d, _, rfl, g, t, _, rfl, SqT.of ht, rfl, _, _, rfl, _, _, rfl, _, _, rfl, rfl, ?_⟩
    refine ⟨_, rfl, .inl ⟨rfl, _, SqL.of hp2⟩, _, rfl, _, rfl, _, rfl, _, rfl, (by show 4 ≤ sizeLine; decide), fun u hu0 => ?_⟩
    have npu : p ≠ u := ne_of_none hp2 hu0
    have nbu : b ≠ u := ne_of_none hb2 hu0
    refine ⟨p, u, _, _, rfl, rfl, by rw [upd_ne npu]; exact hp2, upd_same, ?_, ?_⟩
    · rw [List.length_map, flat_len]
      unfold rowsOf
      rw [List.length_map, List.length_take]
      exact Nat.le_trans (show 4 * min i ys.length + 4 ≤ 1000 by omega) (by decide)
    · refine ⟨Same.mut (Same.mut s2 (s2.free hu0)) hp, by rw [upd_ne npb.symm, upd_ne nbu]; exact hb2, ?_, _, _, _, _, rfl⟩
      rw [upd_same, take_succ_some hn]
      unfold rowsOf
      rw [List.map_append, flat_append, List.map_append]
      show _ = some (HO.lst (_ ++ (flat [(n, (look L n).getD (0, 0, 0))]).map V.int))
      rw [e]
      rfl
  · rintro σ H' ⟨s2, hb2, hp2, v2, v3, v4, v5, rfl⟩
    rw [List.length_map, List.take_length] at hp2
    refine ⟨_, rfl, q H' p (rowsOf L ys) s2 hp hp2 ?_ fun n => ?_⟩
    · unfold rowsOf
      rw [List.length_map]
      exact yl
    · rw [tabOf_nodup (by rw [rowsOf_keys]; exact perm.nodup_iff.mpr ndk)]
      exact rowsOf_look perm n
end Zw
namespace Zw
open PySem PySem.Spec PyProof.Rows L2 PH
variable {P : Program} {w : World} {K : PySem.W.Frag} {mg : Str → Option Value} {base : Heap}
abbrev s_ways : Stmt := tp 11
theorem sc_ways : FnScope ["table", "number", "op", "arg", "successor", "ways", "k"] ["table", "number"] (defScope s_ways) := ⟨rfl, rfl, rfl, by decide +kernel, rfl, by decide +kernel, by decide +kernel⟩
def spWays : Sp := fun vs H Q _ => ∃ (d : Addr) (L : Tl) (n : Int), vs = [.ref d, .int n] ∧ TabAt H d L ∧ ∀ (H' : Hp) (p : Addr) (ws : List Int), Same H H' → H p = none → H' p = some (.lst (ws.map V.int)) → (∀ x, x ∈ ws ↔ Pl.Way (look L) n x) → ws.length ≤ 300 → Q (.ref p) H'
def lows (L : Tl) (i : Nat) : List Int := ((List.range i).map fun k : Nat => (1 + (k : Int))).filter fun x => (look L x).isSome
theorem lows_succ (L : Tl) (i : Nat) : lows L (i + 1) = if (look L (1 + (i : Int))).isSome = true then lows L i ++ [1 + (i : Int)] else lows L i := by
  unfold lows
  rw [List.range_succ, List.map_append, List.filter_append]
  show _ ++ List.filter _ [1 + (i : Int)] = _
  cases e : (look L (1 + (i : Int))).isSome with
  | true => rw [if_pos rfl, List.filter_cons, e, if_pos rfl, List.filter_nil]
  | false => rw [if_neg Bool.false_ne_true, List.filter_cons, e, if_neg Bool.false_ne_true, List.filter_nil, List.append_nil]
theorem lows_mem (L : Tl) (x : Int) : x ∈ lows L 199 ↔ (1 ≤ x ∧ x ≤ 199) ∧ (look L x).isSome = true := by
  unfold lows
  rw [List.mem_filter, List.mem_map]
  constructor
  · rintro ⟨⟨k, hk, e⟩, h⟩
    have := List.mem_range.mp hk
    exact ⟨by omega, h⟩
  · rintro ⟨⟨h1, h2⟩, h⟩
    exact ⟨⟨(x - 1).toNat, List.mem_range.mpr (by omega), by omega⟩, h⟩
theorem lows_len (L : Tl) (i : Nat) : (lows L i).length ≤ i := by
  unfold lows
  refine Nat.le_trans (List.length_filter_le _ _) ?_
  rw [List.length_map, List.length_range]
  exact Nat.le_refl _
theorem c__ways (F : Top K mg "_ways" s_ways) (T : Txt K mg) (Gis_letter : Cal P w K mg base 1 "is_letter" ["op"] spLet) : Cal P w K mg base 2 "_ways" ["table", "number"] spWays := by
  refine F.cal sc_ways (fun vs H Q E h => ?_) (fun _ _ _ _ _ _ us hl => match us, hl with | [_, _], _ => rfl) (fun f cdv A outer s H vs Q E hr h => ?_)
  · obtain ⟨d, L, n, rfl, _⟩ := h
    rfl
  obtain ⟨d, L, n, rfl, tb, q⟩ := h
  have hu := hu_of hr
  refine ⟨_, (pss_cons (ps_if (pt_cmp (pc_dnotin hu (pv 1) (pv 0)) rfl) (pss_one (ps_ret (pe_lst pa_nil))) pss_nil)
        (pss_cons (ps_asg (pe_dget hu (pv 0) (pv 1) (fun _ _ => rfl)) (pg_tup rfl (pgs_cons (pg_name (i := 2) sc_ways.nd rfl (Or.inl rfl)) (pgs_cons (pg_name (i := 3) sc_ways.nd rfl (Or.inl rfl)) (pgs_cons (pg_name (i := 4) sc_ways.nd rfl (Or.inl rfl)) pgs_nil)))))
        (pss_cons (ps_set (i := 5) sc_ways.nd rfl (Or.inl rfl) (pe_lst (pa_cons (pv 4) pa_nil)))
        (pss_cons (ps_if (pt_cmpR op_eq (pv 2) pe_int (nomark _)) (pss_one (ps_expr (pe_bm PySem.F.plainAttrs_list PySem.F.slot_list_append PySem.F.type_list_append mt_append (pv 5) (pa_cons (pv 3) pa_nil)))) pss_nil)
        (pss_cons (ps_if (pt_val (pe_c Gis_letter hr (pa_cons (pv 2) pa_nil))) (pss_one (ps_expr (pe_bm PySem.F.plainAttrs_list PySem.F.slot_list_append PySem.F.type_list_append mt_append (pv 5) (pa_cons (pv 2) pa_nil)))) pss_nil)
        (pss_cons (ps_if (pt_cmpR op_eq (pv 2) pe_int (nomark _)) (pss_one (ps_expr (pe_bm PySem.F.plainAttrs_list PySem.F.slot_list_extend PySem.F.type_list_extend mt_extend (pv 5) (pa_cons (pe_lc (own := [("k", 6)]) (tt := _) rfl sc_ways.nd (pi_range2 rfl T.range (pa_cons pe_int (pa_cons pe_int pa_nil))) (blkOk_by (own := [("k", 6)]) (N := ["table", "number", "op", "arg", "successor", "ways", "k"]) (sc := defScope (tp 11)) (by decide +kernel)) (fun _ _ _ _ _ => pg_name (i := 6) sc_ways.nd rfl (Or.inl rfl)) (fun _ _ _ _ _ => pts_one (pt_cmp (pc_din hu (pv 6) (pv 0)) rfl)) (fun _ _ _ _ _ => (pv 6))) pa_nil)))) pss_nil)
        (pss_one (ps_ret (pv 5))))))))), ?_⟩
  cases e : look L n with
  | none =>
    refine ⟨_, rfl, _, rfl, d, _, rfl, tb.no e, _, rfl, iteT ⟨Nat.zero_le _, fun p hp => ?_⟩⟩
    refine q _ p [] (Same.new hp) hp upd_same (fun x => ⟨fun z => (by cases z), ?_⟩) (Nat.zero_le _)
    rintro ⟨op, arg, sc, h, _⟩
    rw [e] at h
    cases h
  | some nd =>
    obtain ⟨op, arg, sc⟩ := nd
    obtain ⟨t, g, ht⟩ := tb.yes e
    refine ⟨_, rfl, _, rfl, d, _, rfl, g, _, rfl, iteF ?_⟩
    refine ⟨_, rfl, _, rfl, d, _, rfl, g, t, _, rfl, SqT.of ht, rfl, _, _, rfl, _, _, rfl, _, _, rfl, rfl, ?_⟩
    refine ⟨_, rfl, (by show 1 ≤ sizeLine; decide), fun p hp => ?_⟩
    have s1 : Same H (upd H p (.lst [.int sc])) := Same.new hp
    have w1 : ∀ x, Pl.Way (look L) n x ↔ (x = sc ∨ (op = 63 ∧ x = arg) ∨ (Pl.isLet op = true ∧ x = op) ∨ (op = 36 ∧ (1 ≤ x ∧ x ≤ 199) ∧ (look L x).isSome = true)) := fun x => by
      constructor
      · rintro ⟨op', arg', s', h, z⟩
        rw [e] at h
        cases h
        exact z
      · intro z
        exact ⟨op, arg, sc, e, z⟩
    refine ⟨_, rfl, rfl, _, rfl, ifI (fun h63 => ?_) fun n63 => ?_⟩
    · subst h63
      refine ⟨_, rfl, .inl ⟨rfl, _, SqL.of upd_same⟩, _, rfl, p, _, _, rfl, rfl, upd_same, (by show 1 < sizeLine; decide), ?_⟩
      refine ⟨_, rfl, (63 : Int), rfl, _, rfl, iteF ?_⟩
      refine ⟨_, rfl, rfl, _, rfl, iteF ⟨_, rfl, ?_⟩⟩
      refine q _ p [sc, arg] (Same.mut s1 hp) hp upd_same (fun x => ?_) (by show 2 ≤ 300; decide)
      rw [w1]
      constructor
      · intro z
        rcases List.mem_cons.mp z with z | z
        · exact .inl z
        · exact .inr (.inl ⟨rfl, List.mem_singleton.mp z⟩)
      · rintro (z | ⟨_, z⟩ | ⟨z, _⟩ | ⟨z, _⟩)
        · rw [z]; simp
        · rw [z]; simp
        · cases z
        · cases z
    · refine ⟨_, rfl, op, rfl, _, rfl, ?_⟩
      cases hl : Pl.isLet op with
      | true =>
        have n36 : ¬ op = 36 := fun z => by
          rw [z] at hl
          cases hl
        refine iteT ⟨_, rfl, .inl ⟨rfl, _, SqL.of upd_same⟩, _, rfl, p, _, _, rfl, rfl, upd_same, (by show 1 < sizeLine; decide), ?_⟩
        refine ⟨_, rfl, rfl, _, rfl, ifI (fun z => (n36 z).elim) fun _ => ⟨_, rfl, ?_⟩⟩
        refine q _ p [sc, op] (Same.mut s1 hp) hp upd_same (fun x => ?_) (by show 2 ≤ 300; decide)
        rw [w1]
        constructor
        · intro z
          rcases List.mem_cons.mp z with z | z
          · exact .inl z
          · exact .inr (.inr (.inl ⟨hl, List.mem_singleton.mp z⟩))
        · rintro (z | ⟨z, _⟩ | ⟨_, z⟩ | ⟨z, _⟩)
          · rw [z]; simp
          · exact (n63 z).elim
          · rw [z]; simp
          · exact (n36 z).elim
      | false =>
        refine iteF ⟨_, rfl, rfl, _, rfl, ifI (fun h36 => ?_) fun n36 => ⟨_, rfl, ?_⟩⟩
        · refine ⟨_, rfl, .inl ⟨rfl, _, SqL.of upd_same⟩, (1 : Int), (200 : Int), rfl, by decide, fun D hD => ?_⟩
          have npD : p ≠ D := fun z => by
            rw [← z, upd_same] at hD
            cases hD
          have hD0 : H D = none := by
            rw [upd_ne npD.symm] at hD
            exact hD
          refine lc_it (n := 199) walk_range (fun i H' => Same H H' ∧ H' p = some (.lst [.int sc]) ∧ H' D = some (.lst ((lows L i).map V.int))) ⟨Same.mut s1 hD0, by rw [upd_ne npD, upd_same], upd_same⟩ (fun _ _ _ _ => trivial) ?_ ?_
          · rintro i x H1 H2 hi ⟨s2, hp2, hD2⟩ ⟨e1, e2⟩
            subst e1 e2
            cases el : look L (1 + (i : Int)) with
            | none =>
              refine ⟨rfl, _, rfl, _, rfl, d, _, rfl, (tb.same s2).no el, _, rfl, ?_⟩
              refine iteF ⟨s2, hp2, ?_⟩
              rw [lows_succ, el]
              exact hD2
            | some nd =>
              obtain ⟨t2, g2, _⟩ := (tb.same s2).yes el
              refine ⟨rfl, _, rfl, _, rfl, d, _, rfl, g2, _, rfl, ?_⟩
              refine iteT ⟨_, rfl, _, hD2, ?_, Same.mut s2 hD0, by rw [upd_ne npD]; exact hp2, ?_⟩
              · rw [List.length_map]
                have := lows_len L i
                exact small1000 (by omega)
              · rw [upd_same, lows_succ, el, if_pos (show (some nd).isSome = true from rfl), List.map_append]
                rfl
          · rintro H2 ⟨s2, hp2, hD2⟩
            refine ⟨p, D, _, _, rfl, rfl, hp2, hD2, ?_, ?_⟩
            · rw [List.length_map]
              have := lows_len L 199
              exact Nat.le_trans (show 1 + (lows L 199).length ≤ 1000 by omega) (by decide)
            · refine ⟨_, rfl, q _ p (sc :: lows L 199) (Same.mut s2 hp) hp upd_same (fun x => ?_) (by have := lows_len L 199; rw [List.length_cons]; omega)⟩
              rw [w1, List.mem_cons, lows_mem]
              constructor
              · rintro (z | z)
                · exact .inl z
                · exact .inr (.inr (.inr ⟨h36, z⟩))
              · rintro (z | ⟨z, _⟩ | ⟨z, _⟩ | ⟨_, z⟩)
                · exact .inl z
                · exact (n63 z).elim
                · rw [hl] at z
                  cases z
                · exact .inr z
        · refine q _ p [sc] s1 hp upd_same (fun x => ?_) (by show 1 ≤ 300; decide)
          rw [w1, List.mem_singleton]
          constructor
          · exact .inl
          · rintro (z | ⟨z, _⟩ | ⟨z, _⟩ | ⟨z, _⟩)
            · exact z
            · exact (n63 z).elim
            · rw [hl] at z
              cases z
            · exact (n36 z).elim

def univ (L : Tl) : List Int := 0 :: L.flatMap fun e => [e.1, e.2.2.2, if e.2.1 = 63 then e.2.2.1 else e.2.1]
theorem univ_len (L : Tl) : (univ L).length = 3 * L.length + 1 := by
  unfold univ
  rw [List.length_cons]
  congr 1
  induction L with
  | nil => rfl
  | cons e L ih =>
    rw [List.flatMap_cons, List.length_append, ih, List.length_cons (a := e)]
    show 3 + 3 * L.length = _
    omega
theorem look_mem2 {L : Tl} {n : Int} {nd : Pl.Node} (h : look L n = some nd) : (n, nd) ∈ L := by
  unfold look at h
  obtain ⟨p, hp, e⟩ := Option.map_eq_some_iff.mp h
  have h1 := List.mem_of_find?_eq_some hp
  have h2 := List.find?_some hp
  have h2 : p.1 = n := of_decide_eq_true h2
  rw [← h2, ← e]
  exact h1
theorem reach_univ {L : Tl} {x : Int} (h : Pl.Reach (look L) x) : x ∈ univ L := by
  refine Pl.reach_min (S := univ L) (List.mem_cons_self ..) (fun n _ x hw => ?_) h
  obtain ⟨op, arg, s, e, q⟩ := hw
  have hm := look_mem2 e
  refine List.mem_cons_of_mem _ ?_
  rcases q with rfl | ⟨rfl, rfl⟩ | ⟨hl, rfl⟩ | ⟨rfl, _, h3⟩
  · exact List.mem_flatMap.mpr ⟨_, hm, by simp⟩
  · exact List.mem_flatMap.mpr ⟨_, hm, by simp⟩
  · refine List.mem_flatMap.mpr ⟨_, hm, ?_⟩
    have : ¬ x = 63 := fun z => by
      rw [z] at hl
      cases hl
    simp [this]
  · cases e2 : look L x with
    | none => rw [e2] at h3; cases h3
    | some nd => exact List.mem_flatMap.mpr ⟨_, look_mem2 e2, by simp⟩
theorem reach_len {L : Tl} {S : List Int} (nd : S.Nodup) (re : ∀ x, x ∈ S → Pl.Reach (look L) x) : S.length ≤ 3 * L.length + 1 := by
  rw [← univ_len]
  exact nd.length_le_of_subset fun x hx => reach_univ (re x hx)
abbrev sreached : Stmt := tp 12
theorem screached : FnScope ["table", "met", "queue", "number", "way"] ["table"] (defScope sreached) := ⟨rfl, rfl, rfl, by decide +kernel, rfl, by decide +kernel, by decide +kernel⟩
def spReached : Sp := fun vs H Q _ => ∃ (d : Addr) (L : Tl), vs = [.ref d] ∧ TabAt H d L ∧ L.length ≤ 20 ∧
  ∀ (H' : Hp) (p : Addr) (ys : List Int), Same H H' → H p = none → H' p = some (.lst (ys.map V.int)) → (∀ x, x ∈ ys ↔ Pl.Reach (look L) x) → ys.Nodup → ys.Pairwise (· ≤ ·) → ys.length ≤ 61 → Q (.ref p) H'
theorem c_reached (F : Top K mg "reached" sreached) (T : Txt K mg) (G_ways : Cal P w K mg base 2 "_ways" ["table", "number"] spWays) : Cal P w K mg base 3 "reached" ["table"] spReached := by
  refine F.cal screached (fun vs H Q E h => ?_) (fun _ _ _ _ _ _ us hl => match us, hl with | [_], _ => rfl) (fun f cdv A outer s H vs Q E hr h => ?_)
  · obtain ⟨d, L, rfl, _⟩ := h
    rfl
  obtain ⟨d, L, rfl, tb, hL, q⟩ := h
  have hu := hu_of hr
  refine ⟨_, (pss_cons (ps_set (i := 1) screached.nd rfl (Or.inl rfl) (pe_disp (pps_cons pe_int pe_bl pps_nil) (by rfl) (by rfl) (fun z => by cases z) (by decide)))
        (pss_cons (ps_set (i := 2) screached.nd rfl (Or.inl rfl) (pe_lst (pa_cons pe_int pa_nil)))
        (pss_cons (ps_while PassesOwn.never (pt_truth (pv 2) (by intro _; rfl)) (pss_cons (ps_set (i := 3) screached.nd rfl (Or.inl rfl) (pe_bm0 PySem.F.plainAttrs_list PySem.F.slot_list_pop PySem.F.type_list_pop mt_pop (pv 2)))
        (pss_one (ps_for PassesOwn.never rfl (pi_list (pe_c G_ways hr (pa_cons (pv 0) (pa_cons (pv 3) pa_nil)))) (pg_name (i := 4) screached.nd rfl (Or.inl rfl)) (pss_one (ps_if (pt_cmp (pc_dnotin hu (pv 4) (pv 1)) rfl) (pss_cons (ps_dput hu (pv 1) (pv 4) pe_bl rfl)
        (pss_one (ps_expr (pe_bm PySem.F.plainAttrs_list PySem.F.slot_list_append PySem.F.type_list_append mt_append (pv 2) (pa_cons (pv 4) pa_nil))))) pss_nil))))))
        (pss_one (ps_ret (pe_callB (call_sortedDI rfl) (by rfl) T.sorted b_sorted (pa_cons (pv 1) pa_nil))))))), ?_⟩
  intro p hp
  refine ⟨upd_same, [((Sum.inl 0 : Key), V.bl true)], rfl, by decide, ?_⟩
  have hm0 : (upd (upd H p (.dK [])) p (.dK (mergeK [] [((Sum.inl 0 : Key), V.bl true)]))) = upd H p (.dK (setK [0])) := upd_upd
  rw [hm0]
  refine ⟨(by show 1 ≤ sizeLine; decide), fun b hb => ?_⟩
  have npb : p ≠ b := fun z => by
    rw [← z, upd_same] at hb
    cases hb
  have hb0 : H b = none := by
    rw [upd_ne npb.symm] at hb
    exact hb
  refine ⟨fun m σ H' => ∃ (S qu : List Int), m = 2 * (61 - S.length) + qu.length ∧ qu.length ≤ S.length ∧ Pl.RI (look L) S qu ∧ Same H H' ∧ H' p = some (.dK (setK S)) ∧ H' b = some (.lst (qu.map V.int)) ∧ ∃ v3 v4, σ = [some (.ref d), some (.ref p), some (.ref b), v3, v4],
    ⟨_, [0], [0], rfl, Nat.le_refl _, Pl.RI.start _, Same.mut (Same.new hp) hb0, by rw [upd_ne npb, upd_same], upd_same, none, none, rfl⟩, ?_⟩
  rintro m σ H' ⟨S, qu, rfl, ql, ri, s1, hp1, hb1, v3, v4, rfl⟩
  refine ⟨_, rfl, _, .inl ⟨_, SqL.of hb1, rfl⟩, ?_⟩
  rcases List.eq_nil_or_concat qu with e | ⟨q0, n, e⟩
  · subst e
    refine iteF ⟨_, rfl, p, _, S, rfl, .inl hp1, setK_keys S, ?_, fun ys y perm srt hy => ?_⟩
    · have := reach_len ri.nd ri.re
      omega
    · refine q _ y ys (Same.mut s1 (s1.free hy)) (s1.free hy) upd_same (fun x => ?_) (perm.nodup_iff.mpr ri.nd) srt ?_
      · rw [perm.mem_iff]
        exact ri.done x
      · have := reach_len ri.nd ri.re
        rw [perm.length_eq]
        omega
  · rw [List.concat_eq_append] at e
    subst e
    rw [List.length_append] at ql
    have ql : q0.length + 1 ≤ S.length := ql
    have ht : (!((q0 ++ [n]).map V.int).isEmpty) = true := by
      rw [List.map_append]
      cases q0 <;> rfl
    rw [ht]
    refine iteT ⟨fun σ' H'' => ∃ m', m' < 2 * (61 - S.length) + (q0 ++ [n]).length ∧ ∃ (S qu : List Int), m' = 2 * (61 - S.length) + qu.length ∧ qu.length ≤ S.length ∧ Pl.RI (look L) S qu ∧ Same H H'' ∧ H'' p = some (.dK (setK S)) ∧ H'' b = some (.lst (qu.map V.int)) ∧
      ∃ v3 v4, σ' = [some (.ref d), some (.ref p), some (.ref b), v3, v4], fun _ _ z => z, ?_⟩
    have hpop : ((q0 ++ [n]).map V.int)[((q0 ++ [n]).map V.int).length - 1]? = some (.int n) := by
      rw [List.map_append, List.length_append]
      show (q0.map V.int ++ [V.int n])[(q0.map V.int).length + 1 - 1]? = _
      rw [Nat.add_sub_cancel, List.getElem?_append_right (Nat.le_refl _), Nat.sub_self]
      rfl
    have hdl : ((q0 ++ [n]).map V.int).dropLast = q0.map V.int := by
      rw [List.map_append]
      exact List.dropLast_concat
    refine ⟨_, rfl, .inl ⟨rfl, _, SqL.of hb1⟩, b, _, _, rfl, rfl, hb1, hpop, ?_⟩
    rw [hdl]
    have s2 : Same H (upd H' b (.lst (q0.map V.int))) := Same.mut s1 hb0
    refine ⟨_, rfl, _, rfl, d, L, n, rfl, tb.same s2, fun H2 pw ws s3 hpw hws hmem hlen => ?_⟩
    have hp2 : H2 p = some (.dK (setK S)) := s3 _ _ (by rw [upd_ne npb]; exact hp1)
    have hb2 : H2 b = some (.lst (q0.map V.int)) := s3 _ _ upd_same
    have s4 : Same H H2 := s2.trans s3
    have npw : pw ≠ p := fun z => by
      rw [z, hp2] at hws
      cases hws
    have nbw : pw ≠ b := fun z => by
      rw [z, upd_same] at hpw
      cases hpw
    refine ⟨pw, rfl, ⟨_, SqL.of hws⟩, for_list (K := K) (a := pw) (xs := ws.map V.int) (fun j σ H' => ∃ (S' q' : List Int), Pl.RW (look L) S' q' n ws j ∧ (S'.length + q0.length = S.length + q'.length ∧ S.length ≤ S'.length) ∧ Same H H' ∧ H' p = some (.dK (setK S')) ∧ H' b = some (.lst (q'.map V.int)) ∧ H' pw = some (.lst (ws.map V.int)) ∧
      ∃ v4, σ = [some (.ref d), some (.ref p), some (.ref b), some (.int n), v4]) ⟨S, q0, ri.turn ws, ⟨rfl, Nat.le_refl _⟩, s4, hp2, hb2, hws, _, rfl⟩ (fun _ _ _ _ ⟨_, _, _, _, _, _, _, z, _⟩ => SqL.of z) ?_ ?_⟩
    · rintro j x σ H3 hj ⟨S', q', rw', el, s5, hp3, hb3, hw3, v4', rfl⟩
      rw [List.getElem?_map] at hj
      obtain ⟨y, hy, ex⟩ := Option.map_eq_some_iff.mp hj
      subst ex
      refine ⟨_, rfl, _, rfl, p, _, rfl, setK_get hp3 y, _, rfl, ?_⟩
      by_cases mem : y ∈ S'
      · rw [if_pos mem]
        exact iteF ⟨S', q', rw'.old hy mem, el, s5, hp3, hb3, hw3, _, rfl⟩
      · rw [if_neg mem]
        have hS := reach_len rw'.nd rw'.re
        have nw := rw'.new hy mem fun z hz => (hmem z).mp hz
        have hS2 := reach_len nw.nd nw.re
        rw [List.length_append] at hS2
        refine iteT ⟨_, rfl, _, rfl, p, _, rfl, setK_dput hp3 mem (by omega), ?_⟩
        refine ⟨_, rfl, .inl ⟨rfl, _, SqL.of (by rw [upd_ne npb.symm]; exact hb3)⟩, _, rfl, b, _, _, rfl, rfl, by rw [upd_ne npb.symm]; exact hb3, ?_, ?_⟩
        · rw [List.length_map]
          have hS3 : S'.length ≤ 61 := by omega
          exact small1000 (by omega)
        · refine ⟨S' ++ [y], q' ++ [y], nw, ?_, Same.mut (Same.mut s5 hp) hb0, by rw [upd_ne npb, upd_same], by rw [upd_same, List.map_append]; rfl, by rw [upd_ne nbw, upd_ne npw]; exact hw3, _, rfl⟩
          rw [List.length_append, List.length_append, List.length_singleton (a := y)]
          omega
    · rintro σ H3 ⟨S', q', rw', el, s5, hp3, hb3, hw3, v4', rfl⟩
      rw [List.length_map] at rw'
      have hS := reach_len rw'.nd rw'.re
      refine ⟨_, ?_, S', q', rfl, by omega, rw'.fin fun y hy => (hmem y).mpr hy, s5, hp3, hb3, _, _, rfl⟩
      rw [List.length_append]
      show 2 * (61 - S'.length) + q'.length < 2 * (61 - S.length) + (q0.length + 1)
      have := reach_len ri.nd ri.re
      omega
abbrev sis_closed_table : Stmt := tp 13
theorem scis_closed_table : FnScope ["table", "number"] ["table"] (defScope sis_closed_table) := ⟨rfl, rfl, rfl, by decide +kernel, rfl, by decide +kernel, by decide +kernel⟩
def spClosed : Sp := fun vs H Q _ => ∃ (d : Addr) (L : Tl), vs = [.ref d] ∧ TabAt H d L ∧ L.length ≤ 20 ∧ Clos L ∧ ∀ H', Same H H' → Q (.bl true) H'
theorem c_is_closed_table (F : Top K mg "is_closed_table" sis_closed_table) (T : Txt K mg) (Greached : Cal P w K mg base 3 "reached" ["table"] spReached) : Cal P w K mg base 4 "is_closed_table" ["table"] spClosed := by
  refine F.cal scis_closed_table (fun vs H Q E h => ?_) (fun _ _ _ _ _ _ us hl => match us, hl with | [_], _ => rfl) (fun f cdv A outer s H vs Q E hr h => ?_)
  · obtain ⟨d, L, rfl, _⟩ := h
    rfl
  obtain ⟨d, L, rfl, tb, hL, cl, q⟩ := h
  have hu := hu_of hr
  refine ⟨_, (pss_cons (ps_for PassesOwn.never rfl (pi_list (pe_c Greached hr (pa_cons (pv 0) pa_nil))) (pg_name (i := 1) scis_closed_table.nd rfl (Or.inl rfl)) (pss_one (ps_if (PW.pt (pw_and (pt_cmp (pc_din hu (pv 1) (pv 0)) rfl) (pw_and1 (pt_cmpR op_in_seq (pe_ix ix_tup (pe_dget hu (pv 0) (pv 1) (fun _ _ => rfl)) pe_int (fun _ _ => rfl)) (pe_tup (pa_cons pe_int (pa_cons pe_int pa_nil))) (by rfl))))) (pss_one (ps_ret pe_bl)) pss_nil)))
        (pss_one (ps_ret pe_bl))), ?_⟩
  refine ⟨_, rfl, d, L, rfl, tb, hL, fun H1 b ys s1 hb hy hmem nd srt hlen => ?_⟩
  refine ⟨b, rfl, ⟨_, SqL.of hy⟩, for_list (K := K) (a := b) (xs := ys.map V.int) (fun j σ H' => Same H1 H' ∧ ∃ v, σ = [some (.ref d), v]) ⟨Same.refl _, none, rfl⟩ (fun _ _ _ _ z => SqL.of (z.1 _ _ hy)) ?_ ?_⟩
  · rintro j x σ H2 hj ⟨s2, v, rfl⟩
    rw [List.getElem?_map] at hj
    obtain ⟨n, hn, ex⟩ := Option.map_eq_some_iff.mp hj
    subst ex
    have tb2 := tb.same (s1.trans s2)
    cases e : look L n with
    | none => exact ⟨_, rfl, _, rfl, d, _, rfl, tb2.no e, _, rfl, iteF (iteF ⟨s2, _, rfl⟩)⟩
    | some nd =>
      obtain ⟨op, arg, sc⟩ := nd
      obtain ⟨t, g, ht⟩ := tb2.yes e
      obtain ⟨c1, c2⟩ := cl n op arg sc e
      refine ⟨_, rfl, _, rfl, d, _, rfl, g, _, rfl, iteT ⟨_, rfl, _, rfl, d, _, rfl, g, t, _, _, _, rfl, rfl, SqT.of ht, rfl, (by show 2 ≤ sizeLine; decide), fun u hu0 => ?_⟩⟩
      refine ⟨u, [V.int 38, V.int 40], rfl, Or.inr (SqT.of upd_same), rfl, rfl, _, rfl, ?_⟩
      have hin : inV (.int op) [V.int 38, V.int 40] = false := by
        rw [show [V.int 38, V.int 40] = ([38, 40] : List Int).map V.int from rfl, inV_ints]
        simp [c1, c2]
      rw [show inV (V.int (op, arg, sc).1) [V.int 38, V.int 40] = false from hin]
      exact iteF ⟨s2.trans (Same.new hu0), _, rfl⟩
  · rintro σ H2 ⟨s2, v, rfl⟩
    exact q H2 (s1.trans s2)
end Zw
namespace Zw
open PySem PySem.Spec PyProof.Rows L2 PH
variable {P : Program} {w : World} {K : PySem.W.Frag} {mg : Str → Option Value} {base : Heap}
theorem unlock {H H' : Hp} {d : Addr} {o : Obj} {u : HO} (e : H d = some u) (s : Same (upd H d (.frz o u)) H') : Same H (upd H' d u) := fun b z hz => by
  by_cases q : b = d
  · subst q
    rw [upd_same]
    rw [e] at hz
    exact hz
  · rw [upd_ne q]
    exact s b z (by rw [upd_ne q]; exact hz)
theorem tk_lock {H : Hp} {d : Addr} {o : Obj} {kvs : List (Key × V)} (e : H d = some (.dK kvs)) : TK H (upd H d (.frz o (.dK kvs))) := TK.updS e
theorem tk_unlock {H : Hp} {d : Addr} {o : Obj} {u v : HO} (e : H d = some (.frz o u)) : TK H (upd H d v) := TK.updS e
theorem Ents.get {H : Hp} {kvs : List (Key × V)} {L : Tl} (h : Ents H kvs L) {i : Nat} {kv : Key × V} (e : kvs[i]? = some kv) : ∃ n nd t, L[i]? = some (n, nd) ∧ kv = (Sum.inl n, V.ref t) ∧ H t = some (.tup [.int nd.1, .int nd.2.1, .int nd.2.2]) := by
  unfold Ents at h
  induction h generalizing i with
  | nil => simp at e
  | @cons p q ps qs h t ih =>
    cases i with
    | zero =>
      cases e
      obtain ⟨h1, a, h2, h3⟩ := h
      exact ⟨q.1, q.2, a, rfl, Prod.ext h1 h2, h3⟩
    | succ i => exact ih (by simpa using e)
theorem keys_take {L : Tl} {i : Nat} {n : Int} {nd : Pl.Node} (e : L[i]? = some (n, nd)) (m : Int) : m ∈ keys (L.take (i + 1)) ↔ m ∈ keys (L.take i) ∨ m = n := by
  rw [take_succ_some e]
  unfold keys
  rw [List.map_append, List.mem_append]
  exact or_congr Iff.rfl (by simp)
theorem look_of_at {L : Tl} (nd : (keys L).Nodup) {i : Nat} {n : Int} {v : Pl.Node} (e : L[i]? = some (n, v)) : look L n = some v := look_at nd (p := (n, v)) (List.mem_of_getElem? e)
theorem TabM.mut {H H' : Hp} {c : Addr} {L : Tl} (h : TabM H c L) (k : TK H H') (e : ∀ kvs, H c = some (.dK kvs) → H' c = some (.dK kvs)) : TabM H' c L := let ⟨kvs, a, b, nd⟩ := h; ⟨kvs, e _ a, b.keep k, nd⟩
theorem tab_len {L L' : Tl} (nd : (keys L').Nodup) (h : ∀ n, look L n = none → look L' n = none) : L'.length ≤ L.length := by
  have := nd.length_le_of_subset (l₂ := keys L) fun n hn => by
    obtain ⟨v, e⟩ := look_some_of hn
    cases q : look L n with
    | none =>
      rw [h n q] at e
      cases e
    | some v => exact look_mem q
  unfold keys at this
  rw [List.length_map, List.length_map] at this
  exact this
abbrev sthreaded : Stmt := tp 18
theorem scthreaded : FnScope ["table", "changed", "number", "op", "arg", "successor", "end"] ["table"] (defScope sthreaded) := ⟨rfl, rfl, rfl, by decide +kernel, rfl, by decide +kernel, by decide +kernel⟩
def spThreaded : Sp := fun vs H Q _ => ∃ (d : Addr) (L : Tl), vs = [.ref d] ∧ TabM H d L ∧ L.length ≤ 60 ∧
  ∀ (H' : Hp) (p : Addr) (L' : Tl), Same H H' → H p = none → TabM H' p L' → Pl.ThreadSpec (look L) (look L') → Q (.ref p) H'
theorem c_threaded (F : Top K mg "threaded" sthreaded) (T : Txt K mg) (Gis_nop : Cal P w K mg base 2 "is_nop" ["op"] spNop) (Ghas_nop : Cal P w K mg base 3 "has_nop" ["table", "number"] spHas) (Gtarget_in : Cal P w K mg base 5 "target_in" ["table", "number"] spTgt) :
    Cal P w K mg base 6 "threaded" ["table"] spThreaded := by
  refine F.cal scthreaded (fun vs H Q E h => ?_) (fun _ _ _ _ _ _ us hl => match us, hl with | [_], _ => rfl) (fun f cdv A outer s H vs Q E hr h => ?_)
  · obtain ⟨d, L, rfl, _⟩ := h
    rfl
  obtain ⟨d, L, rfl, tb, hL, q⟩ := h
  have hu := hu_of hr
  refine ⟨_, (pss_cons (ps_set (i := 1) scthreaded.nd rfl (Or.inl rfl) pe_dnewK)
        (pss_cons (ps_lock (ps_for PassesOwn.never rfl (pi_items (pv 0)) (pg_tup rfl (pgs_cons (pg_name (i := 2) scthreaded.nd rfl (Or.inl rfl)) (pgs_cons (pg_tup rfl (pgs_cons (pg_name (i := 3) scthreaded.nd rfl (Or.inl rfl)) (pgs_cons (pg_name (i := 4) scthreaded.nd rfl (Or.inl rfl)) (pgs_cons (pg_name (i := 5) scthreaded.nd rfl (Or.inl rfl)) pgs_nil)))) pgs_nil))) (pss_one (ps_if (pt_not (pt_val (pe_c Gis_nop hr (pa_cons (pv 3) pa_nil)))) (pss_cons (ps_if (pt_cmpR op_eq (pv 3) pe_int (nomark _)) (pss_one (ps_set (i := 4) scthreaded.nd rfl (Or.inl rfl) (pe_c Gtarget_in hr (pa_cons (pv 0) (pa_cons (pv 4) pa_nil))))) pss_nil)
        (pss_one (ps_dput hu (pv 1) (pv 2) (pe_tup (pa_cons (pv 3) (pa_cons (pv 4) (pa_cons (pe_c Gtarget_in hr (pa_cons (pv 0) (pa_cons (pv 5) pa_nil))) pa_nil)))) rfl))) pss_nil))))
        (pss_cons (ps_lock (ps_for PassesOwn.never rfl (pi_keys (pv 0)) (pg_name (i := 2) scthreaded.nd rfl (Or.inl rfl)) (pss_one (ps_if (pt_val (pe_c Ghas_nop hr (pa_cons (pv 0) (pa_cons (pv 2) pa_nil)))) (pss_cons (ps_set (i := 6) scthreaded.nd rfl (Or.inl rfl) (pe_c Gtarget_in hr (pa_cons (pv 0) (pa_cons (pv 2) pa_nil))))
        (pss_one (ps_if (PW.pt (pw_and (pt_cmp (pc_din hu (pv 6) (pv 0)) rfl) (pw_and1 (pt_not (pt_val (pe_c Ghas_nop hr (pa_cons (pv 0) (pa_cons (pv 6) pa_nil)))))))) (pss_one (ps_dput hu (pv 1) (pv 2) (pe_dget hu (pv 1) (pv 6) (fun _ _ => rfl)) rfl)) (pss_one (ps_dput hu (pv 1) (pv 2) (pe_tup (pa_cons pe_int (pa_cons pe_int (pa_cons (pv 6) pa_nil)))) rfl))))) pss_nil))))
        (pss_one (ps_ret (pv 1)))))), ?_⟩
  intro c hc
  obtain ⟨kvs, hd, en, nd⟩ := id tb
  have ndc : d ≠ c := ne_of_none hd hc
  have el : kvs.length = L.length := en.len
  have hdc : (upd H c (.dK [])) d = some (.dK kvs) := by rw [upd_ne ndc]; exact hd
  refine ⟨d, .dK kvs, hdc, trivial, fun od => ?_⟩
  generalize hHl : upd (upd H c (.dK [])) d (.frz od (.dK kvs)) = Hl
  have hld : Hl d = some (.frz od (.dK kvs)) := by rw [← hHl, upd_same]
  have enl : Ents Hl kvs L := by
    rw [← hHl]
    exact (en.keep (TK.updN hc)).keep (tk_lock hdc)
  have tbl : TabAt Hl d L := ⟨kvs, .inr ⟨od, hld⟩, enl, nd⟩
  -- what is known of a heap within: the changed table at c
  have back : ∀ H', Same (upd H d (.frz od (.dK kvs))) H' → Same H (upd H' d (.dK kvs)) := fun H' s => unlock hd s
  have sl0 : Same (upd H d (.frz od (.dK kvs))) Hl := fun b o e => by
    rw [← hHl]
    by_cases z : b = d
    · subst z
      rw [upd_same] at e ⊢
      exact e
    · rw [upd_ne z] at e ⊢
      rw [upd_ne (ne_of_none e hc)]
      exact e
  generalize hHf : upd H d (.frz od (.dK kvs)) = Hf at back sl0
  have hfc : Hf c = none := by
    rw [← hHf, upd_ne ndc.symm]
    exact hc
  have hfd : Hf d = some (.frz od (.dK kvs)) := by rw [← hHf, upd_same]
  have tbf : TabAt Hf d L := by
    refine ⟨kvs, .inr ⟨od, hfd⟩, ?_, nd⟩
    rw [← hHf]
    exact en.keep (tk_lock hd)
  refine ⟨_, rfl, d, od, kvs, rfl, hld, for_it walk_items (fun i σ H' => Same Hf H' ∧ ∃ L1, TabM H' c L1 ∧ L1.length ≤ i ∧ Pl.Th1 (look L) (fun m => m ∈ keys (L.take i)) (look L1) ∧ ∃ v2 v3 v4 v5 v6, σ = [some (.ref d), some (.ref c), v2, v3, v4, v5, v6])
    ⟨sl0, [], ⟨[], by rw [← hHl, upd_ne ndc.symm, upd_same], .nil, List.nodup_nil⟩, Nat.le_refl _, ⟨fun n nd (z : n ∈ ([] : List Int)) => (nomatch z), fun n nd' (z : (none : Option Pl.Node) = some nd') => nomatch z⟩, none, none, none, none, none, rfl⟩ (fun i σ H' _ z => z.1 _ _ hfd) ?_ ?_⟩
  · rintro i x σ H1 H2 hi ⟨s1, L1, tb1, ll1, th, v2, v3, v4, v5, v6, rfl⟩ ⟨T0, x1, x2, rfl, hT, rfl, e1, e2⟩
    obtain ⟨kv, hkv, e3⟩ := Option.map_eq_some_iff.mp e1
    have e2 : kvs[i]?.map Prod.snd = some x2 := e2
    rw [hkv] at e2
    obtain ⟨n, nd0, t, hLi, ekv, ht⟩ := en.get hkv
    subst ekv
    have e3 : V.int n = x1 := e3
    have e2 : V.ref t = x2 := Option.some.inj e2
    subst e2 e3
    obtain ⟨op, arg, sc⟩ := nd0
    have hf : look L n = some (op, arg, sc) := look_of_at nd hLi
    have s2 : Same Hf (upd H1 T0 (.tup [.int n, .ref t])) := s1.trans (Same.new hT)
    have htf : Hf t = some (.tup [.int op, .int arg, .int sc]) := by
      rw [← hHf]
      exact tk_lock hd _ _ ht
    have ht2 := s2 _ _ htf
    refine ⟨T0, _, rfl, SqT.of upd_same, rfl, _, _, rfl, _, _, rfl, t, _, rfl, SqT.of ht2, rfl, _, _, rfl, _, _, rfl, _, _, rfl, rfl, rfl, ?_⟩
    have hdn : ∀ m, m ∈ keys (L.take (i + 1)) ↔ m ∈ keys (L.take i) ∨ m = n := keys_take hLi
    have tb2 : TabM (upd H1 T0 (.tup [.int n, .ref t])) c L1 := tb1.same (Same.new hT)
    refine ⟨_, rfl, op, rfl, _, rfl, ?_⟩
    cases hn : Pl.isNop op with
    | true => exact iteF ⟨s2, L1, tb2, by omega, th.skip hf hn hdn, _, _, _, _, _, rfl⟩
    | false =>
      refine iteT ?_
      -- the store
      have put : ∀ (H3 : Hp) (arg' s' : Int), Same Hf H3 → TabM H3 c L1 → Pl.Tgt (look L) sc s' → (if op = 63 then Pl.Tgt (look L) arg arg' else arg' = arg) → ∀ u, H3 u = none →
          ∃ a H4, V.ref c = V.ref a ∧ DPut (upd H3 u (.tup [.int op, .int arg', .int s'])) a (.int n) (.ref u) H4 ∧ Same Hf H4 ∧ ∃ L1, TabM H4 c L1 ∧ L1.length ≤ i + 1 ∧ Pl.Th1 (look L) (fun m => m ∈ keys (L.take (i + 1))) (look L1) := fun H3 arg' s' s3 tb3 h1 h2 u hu0 => by
        have tb4 : TabM (upd H3 u (.tup [.int op, .int arg', .int s'])) c L1 := tb3.same (Same.new hu0)
        obtain ⟨H4, dp, tb5, kz, eH⟩ := tb4.put (n := n) (t := u) (nd := (op, arg', s')) upd_same (by omega)
        refine ⟨c, H4, rfl, dp, ?_, _, tb5, Nat.le_trans (putT_len _ _ _) (by omega), th.put (nd' := (op, arg', s')) hf hn ⟨rfl, h1, h2⟩ (look_put L1 n · (op, arg', s')) hdn⟩
        rw [eH]
        exact Same.mut (s3.trans (Same.new hu0)) hfc
      refine ⟨_, rfl, rfl, _, rfl, ifI (fun h63 => ?_) fun n63 => ?_⟩
      · refine ⟨_, rfl, _, rfl, d, L, arg, rfl, tbf.same s2, by omega, fun a' H3 s3 ta => ?_⟩
        have s4 := s2.trans s3
        refine ⟨_, rfl, _, rfl, _, rfl, _, rfl, d, L, sc, rfl, tbf.same s4, by omega, fun z' H4 s5 tz => ?_⟩
        refine ⟨(by show 3 ≤ sizeLine; decide), fun u hu0 => ?_⟩
        obtain ⟨a, H5, ea, dp, s6, L2, t2, ll2, th2⟩ := put H4 a' z' (s4.trans s5) (tb2.same (s3.trans s5)) tz (by rw [if_pos h63]; exact ta) u hu0
        exact ⟨_, rfl, _, rfl, a, H5, ea, dp, s6, L2, t2, ll2, th2, _, _, _, _, _, rfl⟩
      · refine ⟨_, rfl, _, rfl, _, rfl, _, rfl, d, L, sc, rfl, tbf.same s2, by omega, fun z' H4 s5 tz => ?_⟩
        refine ⟨(by show 3 ≤ sizeLine; decide), fun u hu0 => ?_⟩
        obtain ⟨a, H5, ea, dp, s6, L2, t2, ll2, th2⟩ := put H4 arg z' (s2.trans s5) (tb2.same s5) tz (by rw [if_neg n63]) u hu0
        exact ⟨_, rfl, _, rfl, a, H5, ea, dp, s6, L2, t2, ll2, th2, _, _, _, _, _, rfl⟩
  · rintro σ H1 ⟨s1, L1, tb1, ll1, th, v2, v3, v4, v5, v6, rfl⟩
    refine ⟨s1 _ _ hfd, ?_⟩
    have tc1 : TabM (upd H1 d (.dK kvs)) c L1 := tb1.mut (tk_unlock (s1 _ _ hfd)) fun kz ez => by rw [upd_ne ndc.symm]; exact ez
    have sb1 := back H1 s1
    generalize hU : upd H1 d (.dK kvs) = U at tc1 sb1
    have th2 := th.th2 fun n v e => by
      show n ∈ keys (L.take kvs.length)
      rw [el, List.take_length]
      exact look_mem e
    refine ⟨d, .dK kvs, sb1 _ _ hd, trivial, fun od2 => ?_⟩
    have hUd : U d = some (.dK kvs) := sb1 _ _ hd
    have back2 : ∀ H', Same (upd H d (.frz od2 (.dK kvs))) H' → Same H (upd H' d (.dK kvs)) := fun H' s => unlock hd s
    have sg0 : Same (upd H d (.frz od2 (.dK kvs))) (upd U d (.frz od2 (.dK kvs))) := fun b o e => by
      by_cases z : b = d
      · subst z
        rw [upd_same] at e ⊢
        exact e
      · rw [upd_ne z] at e ⊢
        exact sb1 _ _ e
    have tg0 : TabM (upd U d (.frz od2 (.dK kvs))) c L1 := tc1.mut (tk_lock hUd) fun kz ez => by rw [upd_ne ndc.symm]; exact ez
    have tbg : TabAt (upd H d (.frz od2 (.dK kvs))) d L := ⟨kvs, .inr ⟨od2, upd_same⟩, en.keep (tk_lock hd), nd⟩
    have hgc : (upd H d (.frz od2 (.dK kvs))) c = none := by
      rw [upd_ne ndc.symm]
      exact hc
    have hgd : (upd H d (.frz od2 (.dK kvs))) d = some (.frz od2 (.dK kvs)) := upd_same
    generalize hHg : upd H d (.frz od2 (.dK kvs)) = Hg at back2 sg0 tbg hgc hgd
    refine ⟨_, rfl, d, od2, rfl, .inl ⟨kvs, upd_same, for_it walk_keys (fun i σ H' => Same Hg H' ∧ ∃ L2, TabM H' c L2 ∧ L2.length ≤ 60 + i ∧ Pl.Th2 (look L) (fun m => m ∈ keys (L.take i)) (look L2) ∧ ∃ v2 v3 v4 v5 v6, σ = [some (.ref d), some (.ref c), v2, v3, v4, v5, v6])
      ⟨sg0, L1, tg0, by omega, ⟨th2.op, fun n (z : n ∈ ([] : List Int)) => (nomatch z), th2.dom⟩, _, _, _, _, _, rfl⟩ (fun i σ H' _ z => z.1 _ _ hgd) ?_ ?_⟩⟩
    · rintro i x σ H2 H3 hi ⟨s2, L2, tb2, ll2, th3, w2, w3, w4, w5, w6, rfl⟩ ⟨e1, k, v, hkv, ex⟩
      subst e1 ex
      obtain ⟨n, nd0, t, hLi, ekv, ht⟩ := en.get hkv
      cases ekv
      have hf : look L n = some nd0 := look_of_at nd hLi
      have hdn : ∀ m, m ∈ keys (L.take (i + 1)) ↔ m ∈ keys (L.take i) ∨ m = n := keys_take hLi
      refine ⟨_, rfl, _, rfl, d, L, n, rfl, tbg.same s2, _, rfl, ?_⟩
      cases hn : Pl.nopAt (look L) n with
      | false => exact iteF ⟨s2, L2, tb2, by omega, th3.skip hn hdn, _, _, _, _, _, rfl⟩
      | true =>
        refine iteT ⟨_, rfl, _, rfl, d, L, n, rfl, tbg.same s2, by omega, fun e H4 s3 te => ?_⟩
        have s4 := s2.trans s3
        have tb4 := tb2.same s3
        -- the store of the node at u
        have put : ∀ (H5 : Hp) (u : Addr) (nd' : Pl.Node), Same H4 H5 → H5 u = some (.tup [.int nd'.1, .int nd'.2.1, .int nd'.2.2]) →
            ((Pl.nopAt (look L) e = false ∧ (look L e).isSome = true ∧ look L2 e = some nd') ∨ ((look L e = none ∨ Pl.nopAt (look L) e = true) ∧ nd' = (32, 0, e))) →
            ∃ a H6, V.ref c = V.ref a ∧ DPut H5 a (.int n) (.ref u) H6 ∧ Same Hg H6 ∧ ∃ L2, TabM H6 c L2 ∧ L2.length ≤ 60 + (i + 1) ∧ Pl.Th2 (look L) (fun m => m ∈ keys (L.take (i + 1))) (look L2) := fun H5 u nd' s5 hu5 hx => by
          obtain ⟨H6, dp, tb6, kz, eH⟩ := (tb4.same s5).put (n := n) (t := u) (nd := nd') hu5 (by omega)
          refine ⟨c, H6, rfl, dp, ?_, _, tb6, Nat.le_trans (putT_len _ _ _) (by omega), th3.put hn te (look_put L2 n · nd') hdn hx⟩
          rw [eH]
          exact Same.mut (s4.trans s5) hgc
        have dull : (look L e = none ∨ Pl.nopAt (look L) e = true) → ∀ u, H4 u = none → ∃ a H6, V.ref c = V.ref a ∧ DPut (upd H4 u (.tup [.int 32, .int 0, .int e])) a (.int n) (.ref u) H6 ∧ Same Hg H6 ∧ ∃ L2, TabM H6 c L2 ∧ L2.length ≤ 60 + (i + 1) ∧ Pl.Th2 (look L) (fun m => m ∈ keys (L.take (i + 1))) (look L2) :=
          fun hx u hu0 => put _ u (32, 0, e) (Same.new hu0) upd_same (.inr ⟨hx, rfl⟩)
        cases he : look L e with
        | none =>
          refine ⟨_, rfl, _, rfl, d, _, rfl, (tbg.same s4).no he, _, rfl, ?_⟩
          refine iteF ⟨_, rfl, (by show 3 ≤ sizeLine; decide), fun u hu0 => ?_⟩
          obtain ⟨a, H6, ea, dp, s6, L3, t3, ll3, th4⟩ := dull (.inl he) u hu0
          exact ⟨_, rfl, _, rfl, a, H6, ea, dp, s6, L3, t3, ll3, th4, _, _, _, _, _, rfl⟩
        | some nde =>
          obtain ⟨te0, ge, _⟩ := (tbg.same s4).yes he
          refine ⟨_, rfl, _, rfl, d, _, rfl, ge, _, rfl, iteT ⟨_, rfl, _, rfl, d, L, e, rfl, tbg.same s4, _, rfl, ?_⟩⟩
          cases hne : Pl.nopAt (look L) e with
          | true =>
            refine iteF ⟨_, rfl, (by show 3 ≤ sizeLine; decide), fun u hu0 => ?_⟩
            obtain ⟨a, H6, ea, dp, s6, L3, t3, ll3, th4⟩ := dull (.inr hne) u hu0
            exact ⟨_, rfl, _, rfl, a, H6, ea, dp, s6, L3, t3, ll3, th4, _, _, _, _, _, rfl⟩
          | false =>
            obtain ⟨nd', g1, _⟩ := th3.op e nde he (by rw [← Pl.nopAt_nd he]; exact hne)
            obtain ⟨t5, g5, ht5⟩ := tb4.at_.yes g1
            obtain ⟨a, H6, ea, dp, s6, L3, t3, ll3, th4⟩ := put H4 t5 nd' (Same.refl _) ht5 (.inl ⟨hne, by rw [he]; rfl, g1⟩)
            exact iteT ⟨_, rfl, _, rfl, c, _, rfl, g5, _, rfl, _, rfl, a, H6, ea, dp, s6, L3, t3, ll3, th4, _, _, _, _, _, rfl⟩
    · rintro σ H2 ⟨s2, L2, tb2, ll2, th3, w2, w3, w4, w5, w6, rfl⟩
      have tc2 : TabM (upd H2 d (.dK kvs)) c L2 := tb2.mut (tk_unlock (s2 _ _ hgd)) fun kz ez => by rw [upd_ne ndc.symm]; exact ez
      refine ⟨s2 _ _ hgd, _, rfl, q _ c L2 (back2 H2 s2) hc tc2 (th3.spec fun n v e => ?_)⟩
      show n ∈ keys (L.take kvs.length)
      rw [el, List.take_length]
      exact look_mem e
end Zw
namespace Zw
open PySem PySem.Spec PyProof.Rows L2 PH
variable {P : Program} {w : World} {K : PySem.W.Frag} {mg : Str → Option Value} {base : Heap}
theorem TabM.putU {H : Hp} {d t : Addr} {L : Tl} {n : Int} {nd : Pl.Node} (h : TabM H d L) (ht : H t = some (.tup [.int nd.1, .int nd.2.1, .int nd.2.2])) :
    ∃ kvs, H d = some (.dK kvs) ∧ kvs.length = L.length ∧ TabM (upd H d (.dK (putK kvs (Sum.inl n) (.ref t)))) d (putT L n nd) := by
  obtain ⟨kvs, a, b, c⟩ := h
  exact ⟨kvs, a, b.len, _, upd_same, (b.put ht).keep (TK.updS a), putT_nd c n nd⟩
abbrev s_folded : Stmt := tp 19
theorem sc_folded : FnScope ["table", "number", "node", "op", "arg", "successor", "op2", "arg2", "successor2"] ["table", "number"] (defScope s_folded) := ⟨rfl, rfl, rfl, by decide +kernel, rfl, by decide +kernel, by decide +kernel⟩
def spFolded : Sp := fun vs H Q _ => ∃ (d : Addr) (L : Tl) (n : Int) (nd : Pl.Node), vs = [.ref d, .int n] ∧ TabAt H d L ∧ look L n = some nd ∧
  ∀ (H' : Hp) (t : Addr) (nd' : Pl.Node), Same H H' → nd' = Pl.foldN (look L) nd → H' t = some (.tup [.int nd'.1, .int nd'.2.1, .int nd'.2.2]) → Q (.ref t) H'
theorem c__folded (F : Top K mg "_folded" s_folded) (T : Txt K mg) (Gcombined : Cal P w K mg base 1 "combined" ["op", "x", "y"] spComb) : Cal P w K mg base 2 "_folded" ["table", "number"] spFolded := by
  refine F.cal sc_folded (fun vs H Q E h => ?_) (fun _ _ _ _ _ _ us hl => match us, hl with | [_, _], _ => rfl) (fun f cdv A outer s H vs Q E hr h => ?_)
  · obtain ⟨d, L, n, nd, rfl, _⟩ := h
    rfl
  obtain ⟨d, L, n, ⟨op, arg, sc⟩, rfl, tb, e0, q⟩ := h
  have hu := hu_of hr
  refine ⟨_, (pss_cons (ps_set (i := 2) sc_folded.nd rfl (Or.inl rfl) (pe_dget hu (pv 0) (pv 1) (fun _ _ => rfl)))
        (pss_cons (ps_asg (pv 2) (pg_tup rfl (pgs_cons (pg_name (i := 3) sc_folded.nd rfl (Or.inl rfl)) (pgs_cons (pg_name (i := 4) sc_folded.nd rfl (Or.inl rfl)) (pgs_cons (pg_name (i := 5) sc_folded.nd rfl (Or.inl rfl)) pgs_nil)))))
        (pss_cons (ps_if (PW.pt (pw_or (pt_cmpR op_ne (pv 3) pe_int (nomark _)) (pw_or1 (pt_cmp (pc_dnotin hu (pv 5) (pv 0)) rfl)))) (pss_one (ps_ret (pv 2))) pss_nil)
        (pss_cons (ps_asg (pe_dget hu (pv 0) (pv 5) (fun _ _ => rfl)) (pg_tup rfl (pgs_cons (pg_name (i := 6) sc_folded.nd rfl (Or.inl rfl)) (pgs_cons (pg_name (i := 7) sc_folded.nd rfl (Or.inl rfl)) (pgs_cons (pg_name (i := 8) sc_folded.nd rfl (Or.inl rfl)) pgs_nil)))))
        (pss_cons (ps_if (PW.pt (pw_and (pt_cmpR op_eq (pv 6) pe_int (nomark _)) (pw_and (pt_cmp (pc_din hu (pv 8) (pv 0)) rfl) (pw_and1 (pt_cmpR op_in_seq (pe_ix ix_tup (pe_dget hu (pv 0) (pv 8) (fun _ _ => rfl)) pe_int (fun _ _ => rfl)) (pe_ref_glob T.mPAIRS) (by rfl)))))) (pss_one (ps_ret (pe_tup (pa_cons pe_int (pa_cons (pe_c Gcombined hr (pa_cons (pe_ix ix_tup (pe_dget hu (pv 0) (pv 8) (fun _ _ => rfl)) pe_int (fun _ _ => rfl)) (pa_cons (pv 4) (pa_cons (pv 7) pa_nil)))) (pa_cons (pe_ix ix_tup (pe_dget hu (pv 0) (pv 8) (fun _ _ => rfl)) pe_int (fun _ _ => rfl)) pa_nil)))))) pss_nil)
        (pss_cons (ps_if (pt_cmpR op_eq (pv 6) pe_int (nomark _)) (pss_one (ps_ret (pe_tup (pa_cons pe_int (pa_cons pe_int (pa_cons (pv 8) pa_nil)))))) pss_nil)
        (pss_cons (ps_if (pt_cmpR op_eq (pv 6) pe_int (nomark _)) (pss_cons (ps_if (pt_cmpR op_eq (pv 4) pe_int (nomark _)) (pss_one (ps_ret (pe_tup (pa_cons pe_int (pa_cons pe_int (pa_cons (pv 7) pa_nil)))))) pss_nil)
        (pss_one (ps_ret (pe_tup (pa_cons pe_int (pa_cons pe_int (pa_cons (pv 8) pa_nil))))))) pss_nil)
        (pss_one (ps_ret (pv 2)))))))))), ?_⟩
  obtain ⟨t, g, ht⟩ := tb.yes e0
  refine ⟨_, rfl, _, rfl, d, _, rfl, g, ?_⟩
  refine ⟨_, rfl, t, _, rfl, SqT.of ht, rfl, _, _, rfl, _, _, rfl, _, _, rfl, rfl, ?_⟩
  refine ⟨_, rfl, rfl, _, rfl, ?_⟩
  by_cases h35 : op = 35
  rotate_left
  · rw [show decide (V.int (op, arg, sc).1 = V.int 35) = false from decide_eq_false fun z => h35 (V.int.inj z)]
    refine iteT (iteT ⟨_, rfl, q H t (op, arg, sc) (Same.refl _) ?_ ht⟩)
    unfold Pl.foldN
    simp [h35]
  subst h35
  rw [show decide (V.int ((35 : Int), arg, sc).1 = V.int 35) = true from decide_eq_true rfl]
  refine iteF ?_
  cases e1 : look L sc with
  | none =>
    refine ⟨_, rfl, _, rfl, d, _, rfl, tb.no e1, _, rfl, iteT ⟨_, rfl, q H t (35, arg, sc) (Same.refl _) ?_ ht⟩⟩
    simp [Pl.foldN, e1]
  | some nd2 =>
    obtain ⟨op2, arg2, sc2⟩ := nd2
    obtain ⟨t2, g2, ht2⟩ := tb.yes e1
    refine ⟨_, rfl, _, rfl, d, _, rfl, g2, _, rfl, iteF ?_⟩
    refine ⟨_, rfl, _, rfl, d, _, rfl, g2, t2, _, rfl, SqT.of ht2, rfl, _, _, rfl, _, _, rfl, _, _, rfl, rfl, ?_⟩
    -- behind the first case
    have nope : ∀ (c : Prop), c → (op2 = 35 → ∀ op3 a3 s3, look L sc2 = some (op3, a3, s3) → ¬ op3 ∈ Pl.PR) → (op2 = 35 → Pl.foldN (look L) (35, arg, sc) = (35, arg, sc)) ∧ (op2 = 95 → Pl.foldN (look L) (35, arg, sc) = (32, 0, sc2)) ∧
        (op2 = 63 → Pl.foldN (look L) (35, arg, sc) = if arg = 0 then (32, 0, arg2) else (32, 0, sc2)) ∧ (¬ op2 = 35 → ¬ op2 = 95 → ¬ op2 = 63 → Pl.foldN (look L) (35, arg, sc) = (35, arg, sc)) := fun c _ hn => by
      refine ⟨fun h => ?_, fun h => ?_, fun h => ?_, fun h1 h2 h3 => ?_⟩
      · cases e2 : look L sc2 with
        | none => simp [Pl.foldN, e1, e2, h]
        | some nd3 =>
          obtain ⟨o3, a3, s3⟩ := nd3
          have := hn h o3 a3 s3 e2
          simp [Pl.foldN, e1, e2, h, this]
      · simp [Pl.foldN, e1, h]
      · simp [Pl.foldN, e1, h]
      · simp [Pl.foldN, e1, h1, h2, h3]
    refine ⟨_, rfl, rfl, _, rfl, ?_⟩
    by_cases h2 : op2 = 35
    · subst h2
      rw [show decide (V.int ((35 : Int), arg2, sc2).1 = V.int 35) = true from decide_eq_true rfl]
      refine iteT ?_
      cases e2 : look L sc2 with
      | none =>
        have z := (nope True trivial fun _ o a s h => by rw [e2] at h; cases h).1 rfl
        refine ⟨_, rfl, _, rfl, d, _, rfl, tb.no e2, _, rfl, iteF (iteF ?_)⟩
        refine ⟨_, rfl, rfl, _, rfl, ifI (fun h => by cases h) fun _ => ⟨_, rfl, rfl, _, rfl, ifI (fun h => by cases h) fun _ => ⟨_, rfl, q H t (35, arg, sc) (Same.refl _) z.symm ht⟩⟩⟩
      | some nd3 =>
        obtain ⟨op3, arg3, sc3⟩ := nd3
        obtain ⟨t3, g3, ht3⟩ := tb.yes e2
        refine ⟨_, rfl, _, rfl, d, _, rfl, g3, _, rfl, iteT ?_⟩
        refine ⟨_, rfl, _, rfl, d, _, rfl, g3, t3, _, _, _, rfl, rfl, SqT.of ht3, rfl, _, _, rfl, Or.inr (T.pairs H), rfl, flat_ints _, _, rfl, ?_⟩
        rw [inV_ints]
        refine ifD (fun hp => ?_) fun hp => ?_
        · refine ⟨_, rfl, _, rfl, d, _, rfl, g3, t3, _, _, _, rfl, rfl, SqT.of ht3, rfl, _, rfl, _, rfl, op3, arg, arg2, rfl, ?_⟩
          refine ⟨_, rfl, _, rfl, d, _, rfl, g3, t3, _, _, _, rfl, rfl, SqT.of ht3, rfl, (by show 3 ≤ sizeLine; decide), fun u hu0 => ?_⟩
          refine q _ u (35, Pl.comb op3 arg arg2, sc3) (Same.new hu0) ?_ upd_same
          have hp : op3 ∈ Pl.PR := hp
          simp [Pl.foldN, e1, e2, hp]
        · have z := (nope True trivial fun _ o a s h => by rw [e2] at h; cases h; exact hp).1 rfl
          refine ⟨_, rfl, rfl, _, rfl, ifI (fun h => by cases h) fun _ => ⟨_, rfl, rfl, _, rfl, ifI (fun h => by cases h) fun _ => ⟨_, rfl, q H t (35, arg, sc) (Same.refl _) z.symm ht⟩⟩⟩
    · have z := nope True trivial fun h => (h2 h).elim
      rw [show decide (V.int (op2, arg2, sc2).1 = V.int 35) = false from decide_eq_false fun z => h2 (V.int.inj z)]
      refine iteF (iteF ?_)
      refine ⟨_, rfl, rfl, _, rfl, ifI (fun h => ?_) fun h95 => ?_⟩
      · refine ⟨_, rfl, (by show 3 ≤ sizeLine; decide), fun u hu0 => ?_⟩
        exact q _ u (32, 0, sc2) (Same.new hu0) (z.2.1 h).symm upd_same
      · refine ⟨_, rfl, rfl, _, rfl, ifI (fun h => ?_) fun h63 => ?_⟩
        · refine ⟨_, rfl, rfl, _, rfl, ifI (fun h0 => ?_) fun h0 => ?_⟩
          · refine ⟨_, rfl, (by show 3 ≤ sizeLine; decide), fun u hu0 => ?_⟩
            refine q _ u (32, 0, arg2) (Same.new hu0) ?_ upd_same
            rw [z.2.2.1 h, if_pos h0]
          · refine ⟨_, rfl, (by show 3 ≤ sizeLine; decide), fun u hu0 => ?_⟩
            refine q _ u (32, 0, sc2) (Same.new hu0) ?_ upd_same
            rw [z.2.2.1 h, if_neg h0]
        · exact ⟨_, rfl, q H t (35, arg, sc) (Same.refl _) (z.2.2.2 h2 h95 h63).symm ht⟩
abbrev s_folded_table : Stmt := tp 20
theorem sc_folded_table : FnScope ["table", "number"] ["table"] (defScope s_folded_table) := ⟨rfl, rfl, rfl, by decide +kernel, rfl, by decide +kernel, by decide +kernel⟩
def spFoldT : Sp := fun vs H Q _ => ∃ (d : Addr) (L : Tl), vs = [.ref d] ∧ TabM H d L ∧ L.length ≤ 60 ∧
  ∀ (H' : Hp) (p : Addr) (L' : Tl), Same H H' → H p = none → TabM H' p L' → Pl.FoldSpec (look L) (look L') → Q (.ref p) H'
theorem c__folded_table (F : Top K mg "_folded_table" s_folded_table) (T : Txt K mg) (G_folded : Cal P w K mg base 2 "_folded" ["table", "number"] spFolded) : Cal P w K mg base 3 "_folded_table" ["table"] spFoldT := by
  refine F.cal sc_folded_table (fun vs H Q E h => ?_) (fun _ _ _ _ _ _ us hl => match us, hl with | [_], _ => rfl) (fun f cdv A outer s H vs Q E hr h => ?_)
  · obtain ⟨d, L, rfl, _⟩ := h
    rfl
  obtain ⟨d, L, rfl, tb, hL, q⟩ := h
  have hu := hu_of hr
  refine ⟨_, (pss_one (ps_ret (pe_lock (pe_dc (own := [("number", 1)]) (tt := tYes) rfl sc_folded_table.nd (pi_keys (pv 0)) (blkOk_by (own := [("number", 1)]) (N := ["table", "number"]) (sc := defScope (tp 20)) (by decide +kernel)) (fun _ _ _ _ _ => pg_name (i := 1) sc_folded_table.nd rfl (Or.inl rfl)) (fun _ _ _ _ _ => pts_nil) (fun _ _ _ _ _ => (pv 1)) (fun _ _ _ _ _ => (pe_c G_folded hr (pa_cons (pv 0) (pa_cons (pv 1) pa_nil)))))))), ?_⟩
  obtain ⟨kvs, hd, en, nd⟩ := id tb
  have el : kvs.length = L.length := en.len
  refine ⟨d, .dK kvs, hd, trivial, fun od => ?_⟩
  have back : ∀ H', Same (upd H d (.frz od (.dK kvs))) H' → Same H (upd H' d (.dK kvs)) := fun H' s => unlock hd s
  have tbf : TabAt (upd H d (.frz od (.dK kvs))) d L := ⟨kvs, .inr ⟨od, upd_same⟩, en.keep (tk_lock hd), nd⟩
  have hfd : (upd H d (.frz od (.dK kvs))) d = some (.frz od (.dK kvs)) := upd_same
  generalize hHf : upd H d (.frz od (.dK kvs)) = Hf at back tbf hfd
  refine ⟨_, rfl, d, od, rfl, .inl ⟨kvs, hfd, fun D hD => ?_⟩⟩
  have ndD : d ≠ D := ne_of_none hfd hD
  refine dc_it walk_keys (fun i H' => Same Hf H' ∧ ∃ L1, TabM H' D L1 ∧ L1.length ≤ i ∧ ∀ m, look L1 m = if m ∈ keys (L.take i) then (look L m).map (Pl.foldN (look L)) else none)
    ⟨Same.new hD, [], ⟨[], upd_same, .nil, List.nodup_nil⟩, Nat.le_refl _, fun m => (if_neg (fun z : m ∈ ([] : List Int) => nomatch z)).symm⟩ (fun i H' _ z => z.1 _ _ hfd) ?_ ?_
  · rintro i x H2 H3 hi ⟨s2, L1, tb1, ll1, lk⟩ ⟨e1, k, v, hkv, ex⟩
    subst e1 ex
    obtain ⟨n, nd0, t, hLi, ekv, ht⟩ := en.get hkv
    cases ekv
    have hf : look L n = some nd0 := look_of_at nd hLi
    refine ⟨rfl, _, rfl, _, rfl, _, rfl, d, L, n, nd0, rfl, tbf.same s2, hf, fun H4 u nd' s4 en' hu4 => ?_⟩
    obtain ⟨kz, hz, lz, tb5⟩ := (tb1.same s4).putU (n := n) hu4
    refine ⟨kz, Sum.inl n, rfl, hz, small1000 (by omega), Same.mut (s2.trans s4) hD, _, tb5, Nat.le_trans (putT_len _ _ _) (by omega), fun m => ?_⟩
    rw [look_put, lk]
    by_cases z : m = n
    · rw [if_pos z, if_pos ((keys_take hLi m).mpr (.inr z)), z, hf, en']
      rfl
    · rw [if_neg z]
      by_cases y : m ∈ keys (L.take i)
      · rw [if_pos y, if_pos ((keys_take hLi m).mpr (.inl y))]
      · rw [if_neg y, if_neg fun x => ((keys_take hLi m).mp x).elim y z]
  · rintro H2 ⟨s2, L1, tb1, ll1, lk⟩
    have tc : TabM (upd H2 d (.dK kvs)) D L1 := tb1.mut (tk_unlock (s2 _ _ hfd)) fun kz ez => by rw [upd_ne ndD.symm]; exact ez
    have hDH : H D = none := by
      cases z : H D with
      | none => rfl
      | some o =>
        have : Hf D = some o := by
          rw [← hHf, upd_ne ndD.symm]
          exact z
        rw [hD] at this
        cases this
    refine ⟨s2 _ _ hfd, q _ D L1 (back H2 s2) hDH tc fun m => ?_⟩
    rw [lk, el, List.take_length]
    by_cases y : m ∈ keys L
    · rw [if_pos y]
    · rw [if_neg y, look_none y]
      rfl
abbrev s_pruned : Stmt := tp 21
theorem sc_pruned : FnScope ["table", "number"] ["table"] (defScope s_pruned) := ⟨rfl, rfl, rfl, by decide +kernel, rfl, by decide +kernel, by decide +kernel⟩
def spPruned : Sp := fun vs H Q _ => ∃ (d : Addr) (L : Tl), vs = [.ref d] ∧ TabAt H d L ∧ L.length ≤ 20 ∧
  ∀ (H' : Hp) (p : Addr) (L' : Tl), Same H H' → H p = none → TabM H' p L' → Pl.PruneSpec (look L) (look L') → Q (.ref p) H'
theorem c__pruned (F : Top K mg "_pruned" s_pruned) (T : Txt K mg) (Greached : Cal P w K mg base 3 "reached" ["table"] spReached) : Cal P w K mg base 4 "_pruned" ["table"] spPruned := by
  refine F.cal sc_pruned (fun vs H Q E h => ?_) (fun _ _ _ _ _ _ us hl => match us, hl with | [_], _ => rfl) (fun f cdv A outer s H vs Q E hr h => ?_)
  · obtain ⟨d, L, rfl, _⟩ := h
    rfl
  obtain ⟨d, L, rfl, tb, hL, q⟩ := h
  have hu := hu_of hr
  refine ⟨_, (pss_one (ps_ret (pe_dc (own := [("number", 1)]) (tt := _) rfl sc_pruned.nd (pi_list (pe_c Greached hr (pa_cons (pv 0) pa_nil))) (blkOk_by (own := [("number", 1)]) (N := ["table", "number"]) (sc := defScope (tp 21)) (by decide +kernel)) (fun _ _ _ _ _ => pg_name (i := 1) sc_pruned.nd rfl (Or.inl rfl)) (fun _ _ _ _ _ => pts_one (pt_cmp (pc_din hu (pv 1) (pv 0)) rfl)) (fun _ _ _ _ _ => (pv 1)) (fun _ _ _ _ _ => (pe_dget hu (pv 0) (pv 1) (fun _ _ => rfl)))))), ?_⟩
  refine ⟨_, rfl, d, L, rfl, tb, hL, fun H1 b ys s1 hb hy hmem nd srt hlen => ?_⟩
  refine ⟨b, rfl, ⟨_, SqL.of hy⟩, fun D hD => ?_⟩
  refine dc_it (walk_list (K := K) (a := b) (xs := ys.map V.int)) (fun i H' => Same H1 H' ∧ ∃ L1, TabM H' D L1 ∧ L1.length ≤ i ∧ ∀ m, look L1 m = if m ∈ ys.take i then look L m else none)
    ⟨Same.new hD, [], ⟨[], upd_same, .nil, List.nodup_nil⟩, Nat.le_refl _, fun m => (if_neg (fun z : m ∈ ([] : List Int) => nomatch z)).symm⟩ (fun i H' _ z => SqL.of (z.1 _ _ hy)) ?_ ?_
  · rintro i x H2 H3 hi ⟨s2, L1, tb1, ll1, lk⟩ ⟨e1, hx⟩
    subst e1
    rw [List.getElem?_map] at hx
    obtain ⟨n, hn, ex⟩ := Option.map_eq_some_iff.mp hx
    subst ex
    have tk : ∀ m, m ∈ ys.take (i + 1) ↔ m ∈ ys.take i ∨ m = n := fun m => by
      rw [take_succ_some hn, List.mem_append, List.mem_singleton]
    have tb2 := tb.same (s1.trans s2)
    rw [List.length_map] at hi
    cases e : look L n with
    | none =>
      refine ⟨rfl, _, rfl, _, rfl, d, _, rfl, tb2.no e, _, rfl, ?_⟩
      refine iteF ⟨s2, L1, tb1, by omega, fun m => ?_⟩
      rw [lk]
      by_cases z : m = n
      · rw [if_pos ((tk m).mpr (.inr z)), z, e]
        by_cases y : n ∈ ys.take i
        · rw [if_pos y]
        · rw [if_neg y]
      · by_cases y : m ∈ ys.take i
        · rw [if_pos y, if_pos ((tk m).mpr (.inl y))]
        · rw [if_neg y, if_neg fun x => ((tk m).mp x).elim y z]
    | some nd0 =>
      obtain ⟨t, g, ht⟩ := tb2.yes e
      refine ⟨rfl, _, rfl, _, rfl, d, _, rfl, g, _, rfl, ?_⟩
      obtain ⟨kz, hz, lz, tb5⟩ := tb1.putU (n := n) ht
      refine iteT ⟨_, rfl, _, rfl, _, rfl, d, _, rfl, g, kz, Sum.inl n, rfl, hz, small1000 (by omega), Same.mut s2 hD, _, tb5, Nat.le_trans (putT_len _ _ _) (by omega), fun m => ?_⟩
      rw [look_put, lk]
      by_cases z : m = n
      · rw [if_pos z, if_pos ((tk m).mpr (.inr z)), z, e]
      · rw [if_neg z]
        by_cases y : m ∈ ys.take i
        · rw [if_pos y, if_pos ((tk m).mpr (.inl y))]
        · rw [if_neg y, if_neg fun x => ((tk m).mp x).elim y z]
  · rintro H2 ⟨s2, L1, tb1, ll1, lk⟩
    rw [List.length_map, List.take_length] at lk
    refine q H2 D L1 (s1.trans s2) (s1.free hD) tb1 fun n => ⟨fun hr => ?_, fun hr => ?_⟩
    · rw [lk, if_pos ((hmem n).mpr hr)]
    · rw [lk, if_neg fun z => hr ((hmem n).mp z)]
end Zw
namespace Zw
open PySem PySem.Spec PyProof.Rows L2 PH
variable {P : Program} {w : World} {K : PySem.W.Frag} {mg : Str → Option Value} {base : Heap}
abbrev s_order : Stmt := tp 22
theorem sc_order : FnScope ["table", "queue", "number", "met", "at", "op", "arg", "successor", "ways", "way"] ["table"] (defScope s_order) := ⟨rfl, rfl, rfl, by decide +kernel, rfl, by decide +kernel, by decide +kernel⟩
def spOrder : Sp := fun vs H Q _ => ∃ (d : Addr) (L : Tl), vs = [.ref d] ∧ TabAt H d L ∧ L.length ≤ 20 ∧
  ∀ (H' : Hp) (p : Addr) (ys : List Int), Same H H' → H p = none → H' p = some (.lst (ys.map V.int)) → (∀ x, x ∈ ys ↔ Pl.Reach (look L) x) → ys.Nodup → ys.length ≤ 61 → Q (.ref p) H'
theorem c__order (F : Top K mg "_order" s_order) (T : Txt K mg) (Greached : Cal P w K mg base 3 "reached" ["table"] spReached) : Cal P w K mg base 4 "_order" ["table"] spOrder := by
  refine F.cal sc_order (fun vs H Q E h => ?_) (fun _ _ _ _ _ _ us hl => match us, hl with | [_], _ => rfl) (fun f cdv A outer s H vs Q E hr h => ?_)
  · obtain ⟨d, L, rfl, _⟩ := h
    rfl
  obtain ⟨d, L, rfl, tb, hL, q⟩ := h
  have hu := hu_of hr
  refine ⟨_, (pss_cons (ps_setLc (i := 1) (own := [("number", 2)]) (tt := _) rfl sc_order.nd rfl rfl (sw_true rfl rfl rfl (by decide +kernel)) (pi_list (pe_c Greached hr (pa_cons (pv 0) pa_nil))) (blkOk_by (own := [("number", 2)]) (N := ["table", "queue", "number", "met", "at", "op", "arg", "successor", "ways", "way"]) (sc := defScope (tp 22)) (by decide +kernel)) (fun _ _ _ _ _ => pg_name (i := 2) sc_order.nd rfl (Or.inl rfl)) (fun _ _ _ _ _ => pts_one (pt_chain op_le op_lt pe_int (pv 2) pe_int)) (fun _ _ _ _ _ => (pv 2)))
        (pss_cons (ps_setDc (i := 3) (own := [("number", 2)]) (tt := tYes) rfl sc_order.nd rfl rfl (sw_dc rfl rfl rfl (by decide +kernel)) (pi_list (pv 1)) (blkOk_by (own := [("number", 2)]) (N := ["table", "queue", "number", "met", "at", "op", "arg", "successor", "ways", "way"]) (sc := defScope (tp 22)) (by decide +kernel)) (fun _ _ _ _ _ => pg_name (i := 2) sc_order.nd rfl (Or.inl rfl)) (fun _ _ _ _ _ => pts_nil) (fun _ _ _ _ _ => (pv 2)) (fun _ _ _ _ _ => pe_bl))
        (pss_cons (ps_set (i := 4) sc_order.nd rfl (Or.inl rfl) pe_int)
        (pss_cons (ps_while PassesOwn.never (pt_cmpR op_lt (pv 4) (pe_callB call_len_seq (by rfl) T.len PySem.boot_len (pa_cons (pv 1) pa_nil)) (nomark _)) (pss_cons (ps_if (pt_cmp (pc_din hu (pe_ix ix_list (pv 1) (pv 4) (fun _ _ => rfl)) (pv 0)) rfl) (pss_cons (ps_asg (pe_dget hu (pv 0) (pe_ix ix_list (pv 1) (pv 4) (fun _ _ => rfl)) (fun _ _ => rfl)) (pg_tup rfl (pgs_cons (pg_name (i := 5) sc_order.nd rfl (Or.inl rfl)) (pgs_cons (pg_name (i := 6) sc_order.nd rfl (Or.inl rfl)) (pgs_cons (pg_name (i := 7) sc_order.nd rfl (Or.inl rfl)) pgs_nil)))))
        (pss_cons (ps_set (i := 8) sc_order.nd rfl (Or.inl rfl) (pe_lst (pa_cons (pv 7) pa_nil)))
        (pss_cons (ps_if (pt_cmpR op_eq (pv 5) pe_int (nomark _)) (pss_one (ps_expr (pe_bm PySem.F.plainAttrs_list PySem.F.slot_list_append PySem.F.type_list_append mt_append (pv 8) (pa_cons (pv 6) pa_nil)))) pss_nil)
        (pss_one (ps_for PassesOwn.never rfl (pi_list (pv 8)) (pg_name (i := 9) sc_order.nd rfl (Or.inl rfl)) (pss_one (ps_if (pt_cmp (pc_dnotin hu (pv 9) (pv 3)) rfl) (pss_cons (ps_dput hu (pv 3) (pv 9) pe_bl rfl)
        (pss_one (ps_expr (pe_bm PySem.F.plainAttrs_list PySem.F.slot_list_append PySem.F.type_list_append mt_append (pv 1) (pa_cons (pv 9) pa_nil))))) pss_nil))))))) pss_nil)
        (pss_one (ps_set (i := 4) sc_order.nd rfl (Or.inl rfl) (pe_op op_add (pv 4) pe_int)))))
        (pss_one (ps_ret (pv 1))))))), ?_⟩
  refine ⟨_, rfl, d, L, rfl, tb, hL, fun H1 b ys s1 hb hy hmem nd srt hlen => ?_⟩
  refine ⟨b, rfl, ⟨_, SqL.of hy⟩, fun p hp => ?_⟩
  have hp0 : H p = none := s1.free hp
  refine lc_list (K := K) (a := b) (xs := ys.map V.int) (fun i H' => Same H1 H' ∧ H' p = some (.lst (((ys.take i).filter Pl.fx).map V.int))) ⟨Same.new hp, upd_same⟩ (fun i H' _ z => SqL.of (z.1 _ _ hy)) ?_ ?_
  · rintro j x H2 hj ⟨s2, hp2⟩
    rw [List.getElem?_map] at hj
    obtain ⟨y, hy1, ex⟩ := Option.map_eq_some_iff.mp hj
    subst ex
    have hjl : j < ys.length := (List.getElem?_eq_some_iff.mp hy1).1
    refine ⟨rfl, _, rfl, _, _, rfl, rfl, _, rfl, ?_⟩
    have no : Pl.fx y = false → Same H1 H2 ∧ H2 p = some (.lst (((ys.take (j + 1)).filter Pl.fx).map V.int)) := fun hf => by
      refine ⟨s2, ?_⟩
      rw [take_succ_some hy1, List.filter_append, List.filter_cons, hf, List.filter_nil, if_neg Bool.false_ne_true, List.append_nil]
      exact hp2
    refine ifD (fun h0 => ⟨_, _, rfl, rfl, _, rfl, ifD (fun h1 => ?_) fun h1 => ?_⟩) fun h0 => ⟨_, rfl, iteF (no (by unfold Pl.fx; rw [decide_eq_false h0]; rfl))⟩
    · have hf : Pl.fx y = true := Pl.fx_of h0 h1
      refine ⟨_, rfl, _, hp2, ?_, Same.mut s2 hp, ?_⟩
      · rw [List.length_map]
        refine small1000 (Nat.le_trans (List.length_filter_le _ _) ?_)
        rw [List.length_take]
        omega
      · rw [upd_same, take_succ_some hy1, List.filter_append, List.filter_cons, hf, List.filter_nil, List.map_append]
        rfl
    · exact no (by unfold Pl.fx; rw [decide_eq_false h1, Bool.and_false])
  · rintro H2 ⟨s2, hp2⟩
    rw [List.length_map, List.take_length] at hp2
    generalize hq0 : ys.filter Pl.fx = q0 at hp2
    have oi : Pl.OI (look L) q0 0 := by
      subst hq0
      refine ⟨nd.sublist List.filter_sublist, fun x hx => (hmem x).mp (List.mem_filter.mp hx).1, fun x hx hf => List.mem_filter.mpr ⟨(hmem x).mpr hx, hf⟩, fun j x hj => absurd hj (Nat.not_lt_zero _)⟩
    have s12 : Same H H2 := s1.trans s2
    refine ⟨_, rfl, p, rfl, ⟨_, SqL.of hp2⟩, fun m hm => ?_⟩
    have npm : p ≠ m := ne_of_none hp2 hm
    have hm0 : H m = none := s12.free hm
    refine dc_it (walk_list (K := K) (a := p) (xs := q0.map V.int)) (fun i H' => Same H H' ∧ H' p = some (.lst (q0.map V.int)) ∧ H' m = some (.dK (setK (q0.take i)))) ⟨Same.mut s12 hm0, by rw [upd_ne npm]; exact hp2, upd_same⟩ (fun i H' _ z => SqL.of z.2.1) ?_ ?_
    · rintro i x H3 H4 hi ⟨s3, hp3, hm3⟩ ⟨e1, hx⟩
      subst e1
      rw [List.getElem?_map] at hx
      obtain ⟨n, hn, ex⟩ := Option.map_eq_some_iff.mp hx
      subst ex
      have nw : ¬ n ∈ q0.take i := fun z => by
        have h2 : (q0.take (i + 1)).Nodup := oi.nd.sublist (List.take_sublist _ _)
        rw [take_succ_some hn, List.nodup_append] at h2
        exact h2.2.2 _ z _ (List.mem_singleton.mpr rfl) rfl
      refine ⟨rfl, _, rfl, setK (q0.take i), Sum.inl n, rfl, hm3, ?_, Same.mut s3 hm0, by rw [upd_ne npm]; exact hp3, ?_⟩
      · unfold setK
        rw [List.length_map, List.length_take]
        rw [List.length_map] at hi
        have := reach_len oi.nd oi.re
        exact small1000 (by omega)
      · rw [upd_same, setK_put nw, take_succ_some hn]
    · rintro H3 ⟨s3, hp3, hm3⟩
      rw [List.length_map, List.take_length] at hm3
      refine ⟨fun μ σ H' => ∃ (i : Nat) (q1 : List Int), μ = 61 - i ∧ i ≤ q1.length ∧ Pl.OI (look L) q1 i ∧ Same H H' ∧ H' p = some (.lst (q1.map V.int)) ∧ H' m = some (.dK (setK q1)) ∧ ∃ v2 v5 v6 v7 v8 v9, σ = [some (.ref d), some (.ref p), v2, some (.ref m), some (.int (i : Int)), v5, v6, v7, v8, v9],
        ⟨_, 0, q0, rfl, Nat.zero_le _, oi, s3, hp3, hm3, none, none, none, none, none, none, rfl⟩, ?_⟩
      rintro μ σ H4 ⟨i, q1, rfl, hiq, oi1, s4, hp4, hm4, v2, v5, v6, v7, v8, v9, rfl⟩
      have hq61 := reach_len oi1.nd oi1.re
      refine ⟨_, rfl, _, rfl, p, _, rfl, .inl (SqL.of hp4), _, _, rfl, rfl, _, rfl, ?_⟩
      rw [List.length_map]
      refine ifD (fun hlt => ?_) fun hge => ?_
      · have hlt' : i < q1.length := by omega
        obtain ⟨n, hn⟩ : ∃ n, q1[i]? = some n := ⟨_, List.getElem?_eq_getElem hlt'⟩
        have hat : atI (q1.map V.int) ((i : Nat) : Int) = some (.int n) := atI_nat (by rw [List.getElem?_map, hn]; rfl)
        refine ⟨fun σ' H' => ∃ m', m' < 61 - i ∧ ∃ (i : Nat) (q1 : List Int), m' = 61 - i ∧ i ≤ q1.length ∧ Pl.OI (look L) q1 i ∧ Same H H' ∧ H' p = some (.lst (q1.map V.int)) ∧ H' m = some (.dK (setK q1)) ∧
          ∃ v2 v5 v6 v7 v8 v9, σ' = [some (.ref d), some (.ref p), v2, some (.ref m), some (.int (i : Int)), v5, v6, v7, v8, v9], fun _ _ z => z, ?_⟩
        have tb4 := tb.same s4
        cases e : look L n with
        | none =>
          refine ⟨_, rfl, _, rfl, p, _, _, _, rfl, rfl, SqL.of hp4, hat, _, rfl, d, _, rfl, tb4.no e, _, rfl, ?_⟩
          refine iteF ⟨_, rfl, _, _, rfl, rfl, 61 - (i + 1), by omega, i + 1, q1, rfl, hlt', oi1.skip hn e, s4, hp4, hm4, _, _, _, _, _, _, rfl⟩
        | some nd0 =>
          obtain ⟨op, arg, sc⟩ := nd0
          obtain ⟨t, g, ht⟩ := tb4.yes e
          refine ⟨_, rfl, _, rfl, p, _, _, _, rfl, rfl, SqL.of hp4, hat, _, rfl, d, _, rfl, g, _, rfl, ?_⟩
          refine iteT ⟨_, rfl, _, rfl, _, rfl, p, _, _, _, rfl, rfl, SqL.of hp4, hat, d, _, rfl, g, t, _, rfl, SqT.of ht, rfl, _, _, rfl, _, _, rfl, _, _, rfl, rfl, ?_⟩
          refine ⟨_, rfl, (by show 1 ≤ sizeLine; decide), fun b2 hb2 => ?_⟩
          have npb : p ≠ b2 := ne_of_none hp4 hb2
          have nmb : m ≠ b2 := ne_of_none hm4 hb2
          -- the inner loop over the ways ws at b2
          have loop : ∀ (ws : List Int) (H5 : Hp) (v8 : Option V), ws.length ≤ 2 → (∀ y, y ∈ ws ↔ Pl.W2 (look L) n y) → Same H H5 → H5 p = some (.lst (q1.map V.int)) → H5 m = some (.dK (setK q1)) → H5 b2 = some (.lst (ws.map V.int)) → ∀ (D : Ends) (v2 v5 v6 v7 v9 : Option V),
              (∀ (q2 : List Int) (H6 : Hp) (v9 : Option V), Pl.OI (look L) q2 (i + 1) → i + 1 ≤ q2.length → Same H H6 → H6 p = some (.lst (q2.map V.int)) → H6 m = some (.dK (setK q2)) → D.nx [some (.ref d), some (.ref p), v2, some (.ref m), some (.int (i : Int)), v5, v6, v7, some (.ref b2), v9] H6) →
              ∃ W : Nat → Nat → L2.St → Hp → Prop, (∃ m', W 0 m' [some (.ref d), some (.ref p), v2, some (.ref m), some (.int (i : Int)), v5, v6, v7, some (.ref b2), v9] H5) ∧ ∀ j m' σ H', W j m' σ H' → ((Itl K b2).stop j H' ∧ D.nx σ H') ∨ ((Itl K b2).go j H' ∧ ∃ N : L2.St → Hp → Prop, (∀ σ' H'', N σ' H'' → ∃ m'', m'' < m' ∧ W (j + 1) m'' σ' H'') ∧
                ∀ x H'', (Itl K b2).yld j H' x H'' → gName 9 x σ H'' fun σ2 H2 => (tIfS (tB (tDNotIn (tVar 9) (tVar 3))) (tSeq (sDPut (tVar 3) (tVar 9) (tC (.bl true))) (tDrop (tBM K "list" rAppend (tVar 1) (tCons (tVar 9) tNil)))) tNext) { D with nx := N, ct := N, bk := D.nx } σ2 H2) := fun ws H5 _ hwl hws s5 hp5 hm5 hb5 D v2 v5 v6 v7 v9 hD => by
            refine for_list (K := K) (a := b2) (xs := ws.map V.int) (fun j σ H' => ∃ q2, Pl.OW (look L) q2 i n ws j ∧ Same H H' ∧ H' p = some (.lst (q2.map V.int)) ∧ H' m = some (.dK (setK q2)) ∧ H' b2 = some (.lst (ws.map V.int)) ∧ ∃ v9, σ = [some (.ref d), some (.ref p), v2, some (.ref m), some (.int (i : Int)), v5, v6, v7, some (.ref b2), v9])
              ⟨q1, ⟨oi1, hn, fun x hx => by cases hx⟩, s5, hp5, hm5, hb5, _, rfl⟩ (fun _ _ _ _ ⟨_, _, _, _, _, z, _⟩ => SqL.of z) ?_ ?_
            · rintro j x σ H6 hj ⟨q2, ow, s6, hp6, hm6, hb6, v9', rfl⟩
              rw [List.getElem?_map] at hj
              obtain ⟨y, hy1, ex⟩ := Option.map_eq_some_iff.mp hj
              subst ex
              have hq2 := reach_len ow.o.nd ow.o.re
              refine ⟨_, rfl, _, rfl, m, _, rfl, setK_get hm6 y, _, rfl, ?_⟩
              by_cases mem : y ∈ q2
              · rw [if_pos mem]
                exact iteF ⟨q2, ow.old hy1 mem, s6, hp6, hm6, hb6, _, rfl⟩
              · rw [if_neg mem]
                refine iteT ⟨_, rfl, _, rfl, m, _, rfl, setK_dput hm6 mem (by omega), ?_⟩
                have npm' : p ≠ m := npm
                refine ⟨_, rfl, .inl ⟨rfl, _, SqL.of (by rw [upd_ne npm']; exact hp6)⟩, _, rfl, p, _, _, rfl, rfl, by rw [upd_ne npm']; exact hp6, ?_, ?_⟩
                · rw [List.length_map]
                  exact small1000 (by omega)
                · refine ⟨q2 ++ [y], ow.new hy1 mem fun z hz => (hws z).mp hz, Same.mut (Same.mut s6 hm0) hp0, by rw [upd_same, List.map_append]; rfl, by rw [upd_ne npm'.symm, upd_same], by rw [upd_ne npb.symm, upd_ne nmb.symm]; exact hb6, _, rfl⟩
            · rintro σ H6 ⟨q2, ow, s6, hp6, hm6, hb6, v9', rfl⟩
              rw [List.length_map] at ow
              have := (List.getElem?_eq_some_iff.mp ow.at_).1
              exact hD q2 H6 _ (ow.fin fun y hy => (hws y).mpr hy) this s6 hp6 hm6
          have w2 : ∀ y, Pl.W2 (look L) n y ↔ (y = sc ∨ (op = 63 ∧ y = arg)) := fun y => by
            constructor
            · rintro ⟨op', arg', s', h, z⟩
              rw [e] at h
              cases h
              exact z
            · intro z
              exact ⟨op, arg, sc, e, z⟩
          refine ⟨_, rfl, rfl, _, rfl, ifI (fun h63 => ?_) fun n63 => ?_⟩
          · refine ⟨_, rfl, .inl ⟨rfl, _, SqL.of upd_same⟩, _, rfl, b2, _, _, rfl, rfl, upd_same, (by show 1 < sizeLine; decide), ?_⟩
            refine ⟨_, rfl, b2, rfl, ⟨_, SqL.of upd_same⟩, loop [sc, arg] _ none (Nat.le_refl 2) (fun y => ?_) (Same.mut (Same.mut s4 (s4.free hb2)) (s4.free hb2)) (by rw [upd_ne npb, upd_ne npb]; exact hp4) (by rw [upd_ne nmb, upd_ne nmb]; exact hm4) upd_same _ _ _ _ _ _ fun q2 H6 v9 a b c hp6 hm6 => ?_⟩
            · rw [w2]
              constructor
              · intro z
                rcases List.mem_cons.mp z with z | z
                · exact .inl z
                · exact .inr ⟨h63, List.mem_singleton.mp z⟩
              · rintro (z | ⟨_, z⟩)
                · rw [z]; simp
                · rw [z]; simp
            · exact ⟨_, rfl, _, _, rfl, rfl, 61 - (i + 1), by omega, i + 1, q2, rfl, b, a, c, hp6, hm6, _, _, _, _, _, _, rfl⟩
          · refine ⟨_, rfl, b2, rfl, ⟨_, SqL.of upd_same⟩, loop [sc] _ none (Nat.le_succ 1) (fun y => ?_) (Same.mut s4 (s4.free hb2)) (by rw [upd_ne npb]; exact hp4) (by rw [upd_ne nmb]; exact hm4) upd_same _ _ _ _ _ _ fun q2 H6 v9 a b c hp6 hm6 => ?_⟩
            · rw [w2, List.mem_singleton]
              constructor
              · exact .inl
              · rintro (z | ⟨z, _⟩)
                · exact z
                · exact (n63 z).elim
            · exact ⟨_, rfl, _, _, rfl, rfl, 61 - (i + 1), by omega, i + 1, q2, rfl, b, a, c, hp6, hm6, _, _, _, _, _, _, rfl⟩
      · have e : i = q1.length := by omega
        subst e
        exact ⟨_, rfl, q H4 p q1 s4 hp0 hp4 oi1.done oi1.nd (by omega)⟩
end Zw
namespace Zw
open PySem PySem.Spec PyProof.Rows L2 PH
variable {P : Program} {w : World} {K : PySem.W.Frag} {mg : Str → Option Value} {base : Heap}
def intD (S : List (Int × Int)) : List (Key × V) := S.map fun p => (Sum.inl p.1, V.int p.2)
theorem intD_val (S : List (Int × Int)) (n : Int) : valV (intD S) (Sum.inl n : Key) = (Pl.slook S n).map V.int := by
  induction S with
  | nil => rfl
  | cons p r ih =>
    obtain ⟨a, v⟩ := p
    show valV (((Sum.inl a : Key), V.int v) :: intD r) (Sum.inl n) = _
    unfold Pl.slook
    by_cases e : a = n
    · rw [if_pos e, valV_pos (p := ((Sum.inl a : Key), V.int v)) (by rw [e])]
      rfl
    · rw [if_neg e, valV_neg (p := ((Sum.inl a : Key), V.int v)) (fun z => e (Sum.inl.inj z)), ih]
theorem intD_put (S : List (Int × Int)) (nd : (S.map (·.1)).Nodup) (n v : Int) : putK (intD S) (Sum.inl n) (.int v) = intD (Pl.sput S n v) := by
  have any : ∀ S : List (Int × Int), ((intD S).any fun kv => decide (kv.1 = (Sum.inl n : Key))) = decide (n ∈ S.map (·.1)) := fun S => by
    induction S with
    | nil => rfl
    | cons p r ih =>
      show ((decide ((Sum.inl p.1 : Key) = Sum.inl n)) || ((intD r).any fun kv => decide (kv.1 = (Sum.inl n : Key)))) = decide (n ∈ p.1 :: r.map (·.1))
      rw [ih]
      by_cases e : p.1 = n
      · rw [decide_eq_true (congrArg Sum.inl e), Bool.true_or, decide_eq_true (by rw [e]; simp)]
      · rw [decide_eq_false fun z => e (Sum.inl.inj z), Bool.false_or]
        by_cases q : n ∈ r.map (·.1)
        · rw [decide_eq_true q, decide_eq_true (List.mem_cons_of_mem _ q)]
        · rw [decide_eq_false q, decide_eq_false fun z => (List.mem_cons.mp z).elim (fun y => e y.symm) q]
  have same : ∀ S : List (Int × Int), ¬ n ∈ S.map (·.1) → ((intD S).map fun kv => if kv.1 = (Sum.inl n : Key) then (kv.1, V.int v) else kv) = intD S := fun S => by
    induction S with
    | nil => intro _; rfl
    | cons p r ih =>
      intro h
      show (if (Sum.inl p.1 : Key) = Sum.inl n then ((Sum.inl p.1 : Key), V.int v) else ((Sum.inl p.1 : Key), V.int p.2)) :: ((intD r).map _) = ((Sum.inl p.1 : Key), V.int p.2) :: intD r
      rw [if_neg fun z => h (List.mem_cons.mpr (.inl (Sum.inl.inj z).symm)), ih fun z => h (List.mem_cons_of_mem _ z)]
  unfold putK
  rw [any]
  by_cases h : n ∈ S.map (·.1)
  · rw [decide_eq_true h, if_pos rfl]
    clear any
    induction S with
    | nil => cases h
    | cons p r ih =>
      obtain ⟨a, x⟩ := p
      have nd' : (a :: r.map (·.1)).Nodup := nd
      obtain ⟨n1, n2⟩ := List.nodup_cons.mp nd'
      show (if (Sum.inl a : Key) = Sum.inl n then ((Sum.inl a : Key), V.int v) else ((Sum.inl a : Key), V.int x)) :: ((intD r).map _) = _
      unfold Pl.sput
      by_cases e : a = n
      · rw [if_pos (congrArg Sum.inl e), if_pos e, same r (e ▸ n1)]
        rfl
      · rw [if_neg fun z => e (Sum.inl.inj z), if_neg e]
        have h' : n ∈ a :: r.map (·.1) := h
        rw [ih n2 ((List.mem_cons.mp h').resolve_left fun z => e z.symm)]
        rfl
  · rw [decide_eq_false h, if_neg (by decide)]
    clear any same nd
    induction S with
    | nil => rfl
    | cons p r ih =>
      obtain ⟨a, x⟩ := p
      unfold Pl.sput
      rw [if_neg fun z => h (List.mem_cons.mpr (.inl z.symm))]
      show ((Sum.inl a : Key), V.int x) :: (intD r ++ [(Sum.inl n, V.int v)]) = ((Sum.inl a : Key), V.int x) :: intD (Pl.sput r n v)
      rw [ih fun z => h (List.mem_cons_of_mem _ z)]
theorem intD_len (S : List (Int × Int)) : (intD S).length = S.length := by
  unfold intD
  rw [List.length_map]
theorem intD_get {H : Hp} {a : Addr} {S : List (Int × Int)} (h : Rd H a (.dK (intD S))) (n : Int) : DGet H a (.int n) ((Pl.slook S n).map V.int) := by
  rw [← intD_val]
  exact .inl ⟨_, Sum.inl n, h, rfl, rfl⟩
theorem intD_dput {H : Hp} {a : Addr} {S : List (Int × Int)} (h : H a = some (.dK (intD S))) (nd : (S.map (·.1)).Nodup) (n v : Int) (hl : S.length < sizeLine) : DPut H a (.int n) (.int v) (upd H a (.dK (intD (Pl.sput S n v)))) := by
  rw [← intD_put S nd]
  exact DPut.k (k := Sum.inl n) h (by rw [intD_len]; exact hl)
theorem sput_nd {S : List (Int × Int)} (nd : (S.map (·.1)).Nodup) (n v : Int) : ((Pl.sput S n v).map (·.1)).Nodup := by
  rw [Pl.sput_keys]
  by_cases h : n ∈ S.map (·.1)
  · rw [if_pos h]
    exact nd
  · rw [if_neg h, List.nodup_append]
    refine ⟨nd, by simp, fun a ha b hb c => h ?_⟩
    rw [List.mem_singleton.mp hb] at c
    exact c ▸ ha
abbrev srenumbered : Stmt := tp 23
theorem screnumbered : FnScope ["table", "names", "free", "number", "renamed", "op", "arg", "successor"] ["table"] (defScope srenumbered) := ⟨rfl, rfl, rfl, by decide +kernel, rfl, by decide +kernel, by decide +kernel⟩
def spRenum : Sp := fun vs H Q _ => ∃ (d : Addr) (L : Tl), vs = [.ref d] ∧ TabAt H d L ∧ L.length ≤ 20 ∧
  ∀ (H' : Hp) (p : Addr) (L' : Tl) (nm : Int → Int), Same H H' → H p = none → TabM H' p L' → L'.length ≤ 61 → Pl.RenumSpec (look L) (look L') nm → Q (.ref p) H'
theorem c_renumbered (F : Top K mg "renumbered" srenumbered) (T : Txt K mg) (G_order : Cal P w K mg base 4 "_order" ["table"] spOrder) : Cal P w K mg base 5 "renumbered" ["table"] spRenum := by
  refine F.cal screnumbered (fun vs H Q E h => ?_) (fun _ _ _ _ _ _ us hl => match us, hl with | [_], _ => rfl) (fun f cdv A outer s H vs Q E hr h => ?_)
  · obtain ⟨d, L, rfl, _⟩ := h
    rfl
  obtain ⟨d, L, rfl, tb, hL, q⟩ := h
  have hu := hu_of hr
  refine ⟨_, (pss_cons (ps_set (i := 1) screnumbered.nd rfl (Or.inl rfl) pe_dnewK)
        (pss_cons (ps_set (i := 2) screnumbered.nd rfl (Or.inl rfl) pe_int)
        (pss_cons (ps_for PassesOwn.never rfl (pi_list (pe_c G_order hr (pa_cons (pv 0) pa_nil))) (pg_name (i := 3) screnumbered.nd rfl (Or.inl rfl)) (pss_cons (ps_dput hu (pv 1) (pv 3) (pv 3) rfl)
        (pss_one (ps_if (PW.pt (pw_or (pt_cmpR op_lt (pv 3) pe_int (nomark _)) (pw_or1 (pt_cmpR op_ge (pv 3) pe_int (nomark _))))) (pss_cons (ps_dput hu (pv 1) (pv 3) (pv 2) rfl)
        (pss_one (ps_set (i := 2) screnumbered.nd rfl (Or.inl rfl) (pe_op op_add (pv 2) pe_int)))) pss_nil))))
        (pss_cons (ps_set (i := 4) screnumbered.nd rfl (Or.inl rfl) pe_dnewK)
        (pss_cons (ps_lock (ps_for PassesOwn.never rfl (pi_keys (pv 1)) (pg_name (i := 3) screnumbered.nd rfl (Or.inl rfl)) (pss_one (ps_if (pt_cmp (pc_din hu (pv 3) (pv 0)) rfl) (pss_cons (ps_asg (pe_dget hu (pv 0) (pv 3) (fun _ _ => rfl)) (pg_tup rfl (pgs_cons (pg_name (i := 5) screnumbered.nd rfl (Or.inl rfl)) (pgs_cons (pg_name (i := 6) screnumbered.nd rfl (Or.inl rfl)) (pgs_cons (pg_name (i := 7) screnumbered.nd rfl (Or.inl rfl)) pgs_nil)))))
        (pss_cons (ps_if (pt_cmpR op_eq (pv 5) pe_int (nomark _)) (pss_one (ps_set (i := 6) screnumbered.nd rfl (Or.inl rfl) (pe_dget hu (pv 1) (pv 6) (fun _ _ => rfl)))) pss_nil)
        (pss_one (ps_dput hu (pv 4) (pe_dget hu (pv 1) (pv 3) (fun _ _ => rfl)) (pe_tup (pa_cons (pv 5) (pa_cons (pv 6) (pa_cons (pe_dget hu (pv 1) (pv 7) (fun _ _ => rfl)) pa_nil)))) rfl)))) pss_nil))))
        (pss_one (ps_ret (pv 4)))))))), ?_⟩
  intro a ha
  refine ⟨_, rfl, d, L, rfl, tb.same (Same.new ha), hL, fun H1 b ys s1 hb hy hmem nd hlen => ?_⟩
  have s01 : Same H H1 := (Same.new ha).trans s1
  have ha1 : H1 a = some (.dK (intD [])) := s1 _ _ upd_same
  have nba : b ≠ a := fun z => by
    rw [z, upd_same] at hb
    cases hb
  refine ⟨b, rfl, ⟨_, SqL.of hy⟩, for_list (K := K) (a := b) (xs := ys.map V.int) (fun i σ H' => Same H H' ∧ H' b = some (.lst (ys.map V.int)) ∧ ∃ (S : List (Int × Int)) (f : Int), Pl.NI ys i S f ∧ H' a = some (.dK (intD S)) ∧ ∃ v3 v4 v5 v6 v7, σ = [some (.ref d), some (.ref a), some (.int f), v3, v4, v5, v6, v7])
    ⟨s01, hy, [], 200, Pl.NI.start ys, ha1, none, none, none, none, none, rfl⟩ (fun i σ H' _ z => SqL.of z.2.1) ?_ ?_⟩
  · rintro i x σ H2 hi ⟨s2, hy2, S, fr, ni, ha2, v3, v4, v5, v6, v7, rfl⟩
    rw [List.getElem?_map] at hi
    obtain ⟨n, hn, ex⟩ := Option.map_eq_some_iff.mp hi
    subst ex
    have hil : i < ys.length := (List.getElem?_eq_some_iff.mp hn).1
    have Sl : S.length ≤ 61 := by
      have := congrArg List.length ni.ks
      rw [List.length_map, List.length_take] at this
      omega
    have Snd : (S.map (·.1)).Nodup := by
      rw [ni.ks]
      exact nd.sublist (List.take_sublist _ _)
    obtain ⟨st1, st2⟩ := ni.step nd hn
    refine ⟨_, rfl, _, rfl, _, rfl, a, _, rfl, intD_dput ha2 Snd n n (small1000 (by omega)), ?_⟩
    have hb3 : (upd H2 a (.dK (intD (Pl.sput S n n)))) b = some (.lst (ys.map V.int)) := by rw [upd_ne nba]; exact hy2
    have s3 : Same H (upd H2 a (.dK (intD (Pl.sput S n n)))) := Same.mut s2 ha
    have yes : Pl.fx n = false → tSeq (sDPut (tVar 1) (tVar 3) (tVar 2)) (tAsg (tOp (rI0 fun i j => V.int (i + j)) (tVar 2) (tC (.int 1))) (gName 2)) { nx := fun σ H' => Same H H' ∧ H' b = some (.lst (ys.map V.int)) ∧ ∃ (S : List (Int × Int)) (f : Int), Pl.NI ys (i + 1) S f ∧ H' a = some (.dK (intD S)) ∧ ∃ v3 v4 v5 v6 v7, σ = [some (.ref d), some (.ref a), some (.int f), v3, v4, v5, v6, v7], rt := Q }
        [some (.ref d), some (.ref a), some (.int fr), some (.int n), v4, v5, v6, v7] (upd H2 a (.dK (intD (Pl.sput S n n)))) := fun hf => by
      refine ⟨_, rfl, _, rfl, _, rfl, a, _, rfl, intD_dput upd_same (sput_nd Snd n n) n fr ?_, ?_⟩
      · have := Pl.sput_len S n n
        exact small1000 (by omega)
      · refine ⟨_, rfl, _, _, rfl, rfl, Same.mut s3 ha, by rw [upd_ne nba]; exact hb3, _, _, st2 hf, upd_same, _, _, _, _, _, rfl⟩
    refine ⟨_, rfl, _, _, rfl, rfl, _, rfl, ?_⟩
    refine ifD (fun h0 => ?_) fun h0 => ?_
    · exact iteT (yes (by unfold Pl.fx; rw [decide_eq_false (show ¬ (0 : Int) ≤ n by omega)]; rfl))
    · refine ⟨_, rfl, _, _, rfl, rfl, _, rfl, ifD (fun h1 => ?_) fun h1 => ?_⟩
      · exact yes (by unfold Pl.fx; rw [decide_eq_false (show ¬ n < (200 : Int) by omega), Bool.and_false])
      · exact ⟨s3, hb3, _, _, st1 (Pl.fx_of (by omega) (by omega)), upd_same, _, _, _, _, _, rfl⟩
  · rintro σ H2 ⟨s2, hy2, S, fr, ni, ha2, v3, v4, v5, v6, v7, rfl⟩
    rw [List.length_map] at ni
    have kS : S.map (·.1) = ys := by rw [ni.ks, List.take_length]
    intro c hc
    have nac : a ≠ c := ne_of_none ha2 hc
    have ha3 : (upd H2 c (.dK [])) a = some (.dK (intD S)) := by rw [upd_ne nac]; exact ha2
    have hc0 : H c = none := s2.free hc
    refine ⟨a, .dK (intD S), ha3, trivial, fun od => ?_⟩
    have sg0 : Same H (upd (upd H2 c (.dK [])) a (.frz od (.dK (intD S)))) := Same.mut (Same.mut s2 hc0) ha
    refine ⟨_, rfl, a, od, rfl, .inl ⟨intD S, upd_same, for_it walk_keys (fun i σ H' => Same H H' ∧ H' a = some (.frz od (.dK (intD S))) ∧ ∃ L1, TabM H' c L1 ∧ L1.length ≤ i ∧ Pl.RN (look L) ys S i (look L1) ∧ ∃ v2 v3 v5 v6 v7, σ = [some (.ref d), some (.ref a), v2, v3, some (.ref c), v5, v6, v7])
      ⟨sg0, upd_same, [], ⟨[], by rw [upd_ne nac.symm, upd_same], .nil, List.nodup_nil⟩, Nat.le_refl _, ⟨fun n (z : n ∈ ([] : List Int)) => (nomatch z), fun k z => rfl⟩, _, _, _, _, _, rfl⟩ (fun i σ H' _ z => z.2.1) ?_ ?_⟩⟩
    · rintro i x σ H0 H3 hi ⟨s3, ha4, L1, tb1, ll1, rn, w2, w3, w5, w6, w7, rfl⟩ ⟨e1, k, v, hkv, ex⟩
      subst e1 ex
      rw [intD_len] at hi
      have hyi : ys[i]? = some S[i].1 := by
        rw [← kS, List.getElem?_map, List.getElem?_eq_getElem hi]
        rfl
      have hkv' : (intD S)[i]? = some (Sum.inl S[i].1, V.int S[i].2) := by
        unfold intD
        rw [List.getElem?_map, List.getElem?_eq_getElem hi]
        rfl
      rw [hkv'] at hkv
      cases hkv
      generalize hn0 : S[i].1 = n at hyi
      have nQ : n ∈ ys := List.mem_of_getElem? hyi
      have get : ∀ {H' : Hp} {m : Int}, H' a = some (.frz od (.dK (intD S))) → m ∈ ys → DGet H' a (.int m) (some (.int (Pl.nameF S m))) := fun {H' m} h hm => by
        have := intD_get (.inr ⟨od, h⟩) m
        rw [ni.look hm] at this
        exact this
      have tb4 := tb.same s3
      cases e : look L n with
      | none =>
        refine ⟨_, rfl, _, rfl, d, _, rfl, tb4.no e, _, rfl, ?_⟩
        exact iteF ⟨s3, ha4, L1, tb1, by omega, rn.skip nd ni hyi e, _, _, _, _, _, rfl⟩
      | some nd0 =>
        obtain ⟨op, arg, sc⟩ := nd0
        obtain ⟨t, g, ht⟩ := tb4.yes e
        have rn0 := (hmem n).mp nQ
        have sQ : sc ∈ ys := (hmem sc).mpr (.suc rn0 e)
        refine ⟨_, rfl, _, rfl, d, _, rfl, g, _, rfl, ?_⟩
        refine iteT ⟨_, rfl, _, rfl, d, _, rfl, g, t, _, rfl, SqT.of ht, rfl, _, _, rfl, _, _, rfl, _, _, rfl, rfl, ?_⟩
        have put : ∀ (arg' : Int), (arg' = if op = 63 then Pl.nameF S arg else arg) → ∀ u, H3 u = none → ∃ b' H4, V.ref c = V.ref b' ∧ DPut (upd H3 u (.tup [.int op, .int arg', .int (Pl.nameF S sc)])) b' (.int (Pl.nameF S n)) (.ref u) H4 ∧ Same H H4 ∧ H4 a = some (.frz od (.dK (intD S))) ∧ ∃ L1, TabM H4 c L1 ∧ L1.length ≤ i + 1 ∧ Pl.RN (look L) ys S (i + 1) (look L1) := fun arg' ea u hu0 => by
          have nau : a ≠ u := ne_of_none ha4 hu0
          have hil : i < ys.length := (List.getElem?_eq_some_iff.mp hyi).1
          have tb5 : TabM (upd H3 u (.tup [.int op, .int arg', .int (Pl.nameF S sc)])) c L1 := tb1.same (Same.new hu0)
          obtain ⟨H5, dp, tb6, kz, eH⟩ := tb5.put (n := Pl.nameF S n) (t := u) (nd := (op, arg', Pl.nameF S sc)) upd_same (by omega)
          refine ⟨c, H5, rfl, dp, ?_, ?_, _, tb6, Nat.le_trans (putT_len _ _ _) (by omega), rn.put nd ni hyi e fun m => ?_⟩
          · rw [eH]
            exact Same.mut (Same.mut s3 (s3.free hu0)) hc0
          · rw [eH, upd_ne nac, upd_ne nau]
            exact ha4
          · rw [look_put, ea]
            rfl
        have upda : ∀ {u : Addr} {o : HO}, H3 u = none → (upd H3 u o) a = some (.frz od (.dK (intD S))) := fun {u o} hu0 => by
          rw [upd_ne (ne_of_none ha4 hu0)]
          exact ha4
        refine ⟨_, rfl, rfl, _, rfl, ifI (fun h63 => ?_) fun n63 => ?_⟩
        · have h63' : op = 63 := h63
          have aQ : arg ∈ ys := (hmem arg).mpr (.arg rn0 (h63' ▸ e))
          refine ⟨_, rfl, _, rfl, a, _, rfl, get ha4 aQ, ?_⟩
          refine ⟨_, rfl, _, rfl, _, rfl, _, rfl, a, _, rfl, get ha4 sQ, (by show 3 ≤ sizeLine; decide), fun u hu0 => ?_⟩
          obtain ⟨b', H5, eb, dp, s5, a5, L2, t2, ll2, rn2⟩ := put (Pl.nameF S arg) (by rw [if_pos h63']) u hu0
          exact ⟨_, rfl, _, rfl, _, rfl, a, _, rfl, get (upda hu0) nQ, b', H5, eb, dp, s5, a5, L2, t2, ll2, rn2, _, _, _, _, _, rfl⟩
        · refine ⟨_, rfl, _, rfl, _, rfl, _, rfl, a, _, rfl, get ha4 sQ, (by show 3 ≤ sizeLine; decide), fun u hu0 => ?_⟩
          obtain ⟨b', H5, eb, dp, s5, a5, L2, t2, ll2, rn2⟩ := put arg (by rw [if_neg n63]) u hu0
          exact ⟨_, rfl, _, rfl, _, rfl, a, _, rfl, get (upda hu0) nQ, b', H5, eb, dp, s5, a5, L2, t2, ll2, rn2, _, _, _, _, _, rfl⟩
    · rintro σ H3 ⟨s3, ha4, L1, tb1, ll1, rn, w2, w3, w5, w6, w7, rfl⟩
      have Sl : S.length = ys.length := by rw [← kS, List.length_map]
      rw [intD_len, Sl] at rn ll1
      have tc2 : TabM (upd H3 a (.dK (intD S))) c L1 := tb1.mut (tk_unlock ha4) fun kz ez => by rw [upd_ne nac.symm]; exact ez
      exact ⟨ha4, _, rfl, q _ c L1 _ (Same.mut s3 ha) hc0 tc2 (by omega) (rn.spec ni hmem)⟩
end Zw
namespace Zw
open PySem PySem.Spec PyProof.Rows L2 PH
variable {P : Program} {w : World} {K : PySem.W.Frag} {mg : Str → Option Value} {base : Heap}
abbrev s_first_class : Stmt := tp 61
theorem sc_first_class : FnScope ["table", "number", "op", "arg", "_"] ["table", "number"] (defScope s_first_class) := ⟨rfl, rfl, rfl, by decide +kernel, rfl, by decide +kernel, by decide +kernel⟩
def spFirst : Sp := fun vs H Q _ => ∃ (d : Addr) (L : Tl) (n : Int), vs = [.ref d, .int n] ∧ TabAt H d L ∧
  ∀ (H' : Hp) (t : Addr) (nd : Pl.Node), Same H H' → nd = Pl.key1 (look L) n → H' t = some (.tup [.int nd.1, .int nd.2.1, .int nd.2.2]) → Q (.ref t) H'
theorem c__first_class (F : Top K mg "_first_class" s_first_class) (T : Txt K mg) (Gis_nop : Cal P w K mg base 2 "is_nop" ["op"] spNop) : Cal P w K mg base 3 "_first_class" ["table", "number"] spFirst := by
  refine F.cal sc_first_class (fun vs H Q E h => ?_) (fun _ _ _ _ _ _ us hl => match us, hl with | [_, _], _ => rfl) (fun f cdv A outer s H vs Q E hr h => ?_)
  · obtain ⟨d, L, n, rfl, _⟩ := h
    rfl
  obtain ⟨d, L, n, rfl, tb, q⟩ := h
  have hu := hu_of hr
  refine ⟨_, (pss_cons (ps_if (pt_cmp (pc_dnotin hu (pv 1) (pv 0)) rfl) (pss_one (ps_ret (pe_tup (pa_cons pe_int (pa_cons pe_int (pa_cons pe_int pa_nil)))))) pss_nil)
        (pss_cons (ps_asg (pe_dget hu (pv 0) (pv 1) (fun _ _ => rfl)) (pg_tup rfl (pgs_cons (pg_name (i := 2) sc_first_class.nd rfl (Or.inl rfl)) (pgs_cons (pg_name (i := 3) sc_first_class.nd rfl (Or.inl rfl)) (pgs_cons (pg_name (i := 4) sc_first_class.nd rfl (Or.inl rfl)) pgs_nil)))))
        (pss_cons (ps_if (pt_val (pe_c Gis_nop hr (pa_cons (pv 2) pa_nil))) (pss_one (ps_ret (pe_tup (pa_cons pe_int (pa_cons pe_int (pa_cons pe_int pa_nil)))))) pss_nil)
        (pss_cons (ps_if (pt_cmpR op_in_seq (pv 2) (pe_tup (pa_cons pe_int (pa_cons pe_int pa_nil))) (by rfl)) (pss_one (ps_ret (pe_tup (pa_cons pe_int (pa_cons (pv 2) (pa_cons (pv 3) pa_nil)))))) pss_nil)
        (pss_one (ps_ret (pe_tup (pa_cons pe_int (pa_cons (pv 2) (pa_cons pe_int pa_nil)))))))))), ?_⟩
  cases e : look L n with
  | none =>
    refine ⟨_, rfl, _, rfl, d, _, rfl, tb.no e, _, rfl, iteT ⟨(by show 3 ≤ sizeLine; decide), fun u hu0 => ?_⟩⟩
    exact q _ u (0, 0, 0) (Same.new hu0) (by unfold Pl.key1; rw [e]) upd_same
  | some nd =>
    obtain ⟨op, arg, sc⟩ := nd
    obtain ⟨t, g, ht⟩ := tb.yes e
    refine ⟨_, rfl, _, rfl, d, _, rfl, g, _, rfl, iteF ?_⟩
    refine ⟨_, rfl, _, rfl, d, _, rfl, g, t, _, rfl, SqT.of ht, rfl, _, _, rfl, _, _, rfl, _, _, rfl, rfl, ?_⟩
    refine ⟨_, rfl, op, rfl, _, rfl, ?_⟩
    have ek : Pl.key1 (look L) n = if Pl.isNop op = true then (1, 0, 0) else if op = 35 ∨ op = 61 then (2, op, arg) else (2, op, 0) := by
      unfold Pl.key1
      rw [e]
    cases hn : Pl.isNop op with
    | true =>
      refine iteT ⟨(by show 3 ≤ sizeLine; decide), fun u hu0 => ?_⟩
      exact q _ u (1, 0, 0) (Same.new hu0) (by rw [ek, hn, if_pos rfl]) upd_same
    | false =>
      rw [hn, if_neg Bool.false_ne_true] at ek
      refine iteF ⟨_, rfl, (by show 2 ≤ sizeLine; decide), fun u hu0 => ?_⟩
      refine ⟨u, [V.int 35, V.int 61], rfl, Or.inr (SqT.of upd_same), rfl, rfl, _, rfl, ?_⟩
      rw [show inV (V.int (op, arg, sc).1) [V.int 35, V.int 61] = decide (op ∈ ([35, 61] : List Int)) from inV_ints op [35, 61]]
      refine ifD (fun hm => ?_) fun hm => ?_
      · have hm' : op = 35 ∨ op = 61 := by simpa using hm
        refine ⟨_, rfl, _, rfl, (by show 3 ≤ sizeLine; decide), fun u2 hu2 => ?_⟩
        exact q _ u2 (2, op, arg) ((Same.new hu0).trans (Same.new hu2)) (by rw [ek, if_pos hm']) upd_same
      · have hm' : ¬ (op = 35 ∨ op = 61) := by simpa using hm
        refine ⟨_, rfl, (by show 3 ≤ sizeLine; decide), fun u2 hu2 => ?_⟩
        exact q _ u2 (2, op, 0) ((Same.new hu0).trans (Same.new hu2)) (by rw [ek, if_neg hm']) upd_same
abbrev s_later_key : Stmt := tp 63
theorem sc_later_key : FnScope ["table", "found", "number", "op", "arg", "successor"] ["table", "found", "number"] (defScope s_later_key) := ⟨rfl, rfl, rfl, by decide +kernel, rfl, by decide +kernel, by decide +kernel⟩
def spLater : Sp := fun vs H Q _ => ∃ (d a : Addr) (L : Tl) (S : List (Int × Int)) (n : Int), vs = [.ref d, .ref a, .int n] ∧ TabAt H d L ∧ Rd H a (.dK (intD S)) ∧ (∀ x, x = n ∨ Pl.W2 (look L) n x → Pl.slook S x = some (Pl.nameF S x)) ∧
  ∀ (H' : Hp) (t : Addr) (nd : Pl.Node), Same H H' → nd = Pl.keyL (look L) (Pl.nameF S) n → H' t = some (.tup [.int nd.1, .int nd.2.1, .int nd.2.2]) → Q (.ref t) H'
theorem c__later_key (F : Top K mg "_later_key" s_later_key) (T : Txt K mg) : Cal P w K mg base 1 "_later_key" ["table", "found", "number"] spLater := by
  refine F.cal sc_later_key (fun vs H Q E h => ?_) (fun _ _ _ _ _ _ us hl => match us, hl with | [_, _, _], _ => rfl) (fun f cdv A outer s H vs Q E hr h => ?_)
  · obtain ⟨d, a, L, S, n, rfl, _⟩ := h
    rfl
  obtain ⟨d, a, L, S, n, rfl, tb, ra, has, q⟩ := h
  have hu := hu_of hr
  refine ⟨_, (pss_cons (ps_if (pt_cmp (pc_dnotin hu (pv 2) (pv 0)) rfl) (pss_one (ps_ret (pe_tup (pa_cons (pe_dget hu (pv 1) (pv 2) (fun _ _ => rfl)) (pa_cons (pe_un un_neg pe_int) (pa_cons (pe_un un_neg pe_int) pa_nil)))))) pss_nil)
        (pss_cons (ps_asg (pe_dget hu (pv 0) (pv 2) (fun _ _ => rfl)) (pg_tup rfl (pgs_cons (pg_name (i := 3) sc_later_key.nd rfl (Or.inl rfl)) (pgs_cons (pg_name (i := 4) sc_later_key.nd rfl (Or.inl rfl)) (pgs_cons (pg_name (i := 5) sc_later_key.nd rfl (Or.inl rfl)) pgs_nil)))))
        (pss_cons (ps_if (pt_cmpR op_eq (pv 3) pe_int (nomark _)) (pss_one (ps_ret (pe_tup (pa_cons (pe_dget hu (pv 1) (pv 2) (fun _ _ => rfl)) (pa_cons (pe_dget hu (pv 1) (pv 5) (fun _ _ => rfl)) (pa_cons (pe_dget hu (pv 1) (pv 4) (fun _ _ => rfl)) pa_nil)))))) pss_nil)
        (pss_one (ps_ret (pe_tup (pa_cons (pe_dget hu (pv 1) (pv 2) (fun _ _ => rfl)) (pa_cons (pe_dget hu (pv 1) (pv 5) (fun _ _ => rfl)) (pa_cons (pe_un un_neg pe_int) pa_nil))))))))), ?_⟩
  have get : ∀ {x : Int}, Pl.slook S x = some (Pl.nameF S x) → DGet H a (.int x) (some (.int (Pl.nameF S x))) := fun {x} h => by
    have := intD_get ra x
    rw [h] at this
    exact this
  have gn := get (has n (.inl rfl))
  cases e : look L n with
  | none =>
    refine ⟨_, rfl, _, rfl, d, _, rfl, tb.no e, _, rfl, iteT ⟨_, rfl, _, rfl, a, _, rfl, gn, _, rfl, _, rfl, (by show 3 ≤ sizeLine; decide), fun u hu0 => ?_⟩⟩
    exact q _ u (Pl.nameF S n, -1, -1) (Same.new hu0) (by unfold Pl.keyL; rw [e]) upd_same
  | some nd =>
    obtain ⟨op, arg, sc⟩ := nd
    obtain ⟨t, g, ht⟩ := tb.yes e
    have gs := get (has sc (.inr ⟨op, arg, sc, e, .inl rfl⟩))
    refine ⟨_, rfl, _, rfl, d, _, rfl, g, _, rfl, iteF ?_⟩
    refine ⟨_, rfl, _, rfl, d, _, rfl, g, t, _, rfl, SqT.of ht, rfl, _, _, rfl, _, _, rfl, _, _, rfl, rfl, ?_⟩
    refine ⟨_, rfl, rfl, _, rfl, ifI (fun h63 => ?_) fun n63 => ?_⟩
    · have h63 : op = 63 := h63
      have ga := get (has arg (.inr ⟨op, arg, sc, e, .inr ⟨h63, rfl⟩⟩))
      refine ⟨_, rfl, _, rfl, a, _, rfl, gn, _, rfl, _, rfl, a, _, rfl, gs, _, rfl, _, rfl, a, _, rfl, ga, (by show 3 ≤ sizeLine; decide), fun u hu0 => ?_⟩
      exact q _ u (Pl.nameF S n, Pl.nameF S sc, Pl.nameF S arg) (Same.new hu0) (by unfold Pl.keyL; rw [e]; exact (if_pos h63).symm) upd_same
    · have n63 : ¬ op = 63 := n63
      refine ⟨_, rfl, _, rfl, a, _, rfl, gn, _, rfl, _, rfl, a, _, rfl, gs, _, rfl, (by show 3 ≤ sizeLine; decide), fun u hu0 => ?_⟩
      exact q _ u (Pl.nameF S n, Pl.nameF S sc, -1) (Same.new hu0) (by unfold Pl.keyL; rw [e]; exact (if_neg n63).symm) upd_same
def kk (k : Pl.Node) : List Key := [Sum.inl k.1, Sum.inl k.2.1, Sum.inl k.2.2]
theorem kk_inj {a b : Pl.Node} (h : kk a = kk b) : a = b := by
  obtain ⟨a1, a2, a3⟩ := a
  obtain ⟨b1, b2, b3⟩ := b
  unfold kk at h
  injection h with h1 h
  injection h with h2 h
  injection h with h3 h
  have h1 := Sum.inl.inj h1
  have h2 := Sum.inl.inj h2
  have h3 := Sum.inl.inj h3
  simp only at h1 h2 h3
  rw [h1, h2, h3]
def knF : Nat → List Pl.Node → List (List Key × V)
  | _, [] => []
  | i, k :: r => (kk k, .int (i : Int)) :: knF (i + 1) r
theorem knF_len : ∀ (i : Nat) (ks : List Pl.Node), (knF i ks).length = ks.length
  | _, [] => rfl
  | i, k :: r => congrArg Nat.succ (knF_len (i + 1) r)
theorem knF_none : ∀ (i : Nat) (ks : List Pl.Node) (k : Pl.Node), ¬ k ∈ ks → valV (knF i ks) (kk k) = none
  | _, [], _, _ => rfl
  | i, a :: r, k, h => by
    show valV ((kk a, V.int (i : Int)) :: knF (i + 1) r) (kk k) = none
    rw [valV_neg (p := (kk a, V.int (i : Int))) fun z => h (List.mem_cons.mpr (.inl (kk_inj z).symm))]
    exact knF_none (i + 1) r k fun z => h (List.mem_cons_of_mem _ z)
theorem knF_some : ∀ (i : Nat) (ks : List Pl.Node) (k : Pl.Node) (j : Nat), ks.Nodup → ks[j]? = some k → valV (knF i ks) (kk k) = some (.int ((i + j : Nat) : Int))
  | _, [], _, _, _, h => by simp at h
  | i, a :: r, k, 0, nd, h => by
    have e : a = k := Option.some.inj h
    subst e
    exact valV_pos (p := (kk a, V.int (i : Int))) rfl
  | i, a :: r, k, j + 1, nd, h => by
    obtain ⟨n1, n2⟩ := List.nodup_cons.mp nd
    have h : r[j]? = some k := by simpa using h
    show valV ((kk a, V.int (i : Int)) :: knF (i + 1) r) (kk k) = _
    rw [valV_neg (p := (kk a, V.int (i : Int))) fun z => n1 (kk_inj z ▸ List.mem_of_getElem? h), knF_some (i + 1) r k j n2 h]
    congr 2
    omega
theorem knF_snoc : ∀ (i : Nat) (ks : List Pl.Node) (k : Pl.Node), knF i (ks ++ [k]) = knF i ks ++ [(kk k, .int ((i + ks.length : Nat) : Int))]
  | i, [], k => rfl
  | i, a :: r, k => by
    show (kk a, V.int (i : Int)) :: knF (i + 1) (r ++ [k]) = (kk a, V.int (i : Int)) :: (knF (i + 1) r ++ _)
    rw [knF_snoc (i + 1) r k, show i + 1 + r.length = i + (a :: r).length by rw [List.length_cons]; omega]
abbrev s_numbered : Stmt := tp 62
theorem sc_numbered : FnScope ["keys", "known", "found", "number", "key"] ["keys"] (defScope s_numbered) := ⟨rfl, rfl, rfl, by decide +kernel, rfl, by decide +kernel, by decide +kernel⟩
def spNumb : Sp := fun vs H Q _ => ∃ (d : Addr) (L : Tl), vs = [.ref d] ∧ TabM H d L ∧ L.length ≤ 61 ∧
  ∀ (H' : Hp) (p : Addr) (S : List (Int × Int)) (c : Nat), Same H H' → H p = none → H' p = some (.dK (intD S)) → Pl.NumSpec (keys L) (fun n => (look L n).getD (0, 0, 0)) S c → Q (.ref p) H'
theorem c__numbered (F : Top K mg "_numbered" s_numbered) (T : Txt K mg) : Cal P w K mg base 1 "_numbered" ["keys"] spNumb := by
  refine F.cal sc_numbered (fun vs H Q E h => ?_) (fun _ _ _ _ _ _ us hl => match us, hl with | [_], _ => rfl) (fun f cdv A outer s H vs Q E hr h => ?_)
  · obtain ⟨d, L, rfl, _⟩ := h
    rfl
  obtain ⟨d, L, rfl, tb, hL, q⟩ := h
  have hu := hu_of hr
  refine ⟨_, (pss_cons (ps_set (i := 1) sc_numbered.nd rfl (Or.inl rfl) pe_dnewT)
        (pss_cons (ps_set (i := 2) sc_numbered.nd rfl (Or.inl rfl) pe_dnewK)
        (pss_cons (ps_lock (ps_for PassesOwn.never rfl (pi_items (pv 0)) (pg_tup rfl (pgs_cons (pg_name (i := 3) sc_numbered.nd rfl (Or.inl rfl)) (pgs_cons (pg_name (i := 4) sc_numbered.nd rfl (Or.inl rfl)) pgs_nil))) (pss_cons (ps_if (pt_cmp (pc_dnotin hu (pv 4) (pv 1)) rfl) (pss_one (ps_dput hu (pv 1) (pv 4) (pe_callB call_len_dT (by rfl) T.len PySem.boot_len (pa_cons (pv 1) pa_nil)) rfl)) pss_nil)
        (pss_one (ps_dput hu (pv 2) (pv 3) (pe_dget hu (pv 1) (pv 4) (fun _ _ => rfl)) rfl)))))
        (pss_one (ps_ret (pv 2)))))), ?_⟩
  intro a ha b hb
  obtain ⟨kvs, hd, en, nd⟩ := id tb
  have el : kvs.length = L.length := en.len
  have nda : d ≠ a := ne_of_none hd ha
  have nab : a ≠ b := fun z => by
    rw [← z, upd_same] at hb
    cases hb
  have hb0 : H b = none := by
    rw [upd_ne nab.symm] at hb
    exact hb
  have ndb : d ≠ b := ne_of_none hd hb0
  have hdd : (upd (upd H a (.dT [])) b (.dK [])) d = some (.dK kvs) := by
    rw [upd_ne ndb, upd_ne nda]
    exact hd
  refine ⟨d, .dK kvs, hdd, trivial, fun od => ?_⟩
  have back : ∀ H', Same (upd H d (.frz od (.dK kvs))) H' → Same H (upd H' d (.dK kvs)) := fun H' s => unlock hd s
  have hfd : (upd H d (.frz od (.dK kvs))) d = some (.frz od (.dK kvs)) := upd_same
  have sf0 : Same (upd H d (.frz od (.dK kvs))) (upd (upd (upd H a (.dT [])) b (.dK [])) d (.frz od (.dK kvs))) := fun z o e => by
    by_cases y : z = d
    · subst y
      rw [upd_same] at e ⊢
      exact e
    · rw [upd_ne y] at e ⊢
      rw [upd_ne (ne_of_none e hb0), upd_ne (ne_of_none e ha)]
      exact e
  have hfa : (upd H d (.frz od (.dK kvs))) a = none := by rw [upd_ne nda.symm]; exact ha
  have hfb : (upd H d (.frz od (.dK kvs))) b = none := by rw [upd_ne ndb.symm]; exact hb0
  have tf : TK H (upd H d (.frz od (.dK kvs))) := tk_lock hd
  generalize upd H d (.frz od (.dK kvs)) = Hf at back hfd sf0 hfa hfb tf
  have kl : (keys L).length = L.length := by
    unfold keys
    rw [List.length_map]
  refine ⟨_, rfl, d, od, kvs, rfl, upd_same, for_it walk_items (fun i σ H' => Same Hf H' ∧ ∃ ks S, Pl.NB (keys L) (fun n => (look L n).getD (0, 0, 0)) i ks S ∧ H' a = some (.dT (knF 0 ks)) ∧ H' b = some (.dK (intD S)) ∧ ∃ v3 v4, σ = [some (.ref d), some (.ref a), some (.ref b), v3, v4])
    ⟨sf0, [], [], Pl.NB.start _ _, by rw [upd_ne nda.symm, upd_ne nab, upd_same]; rfl, by rw [upd_ne ndb.symm, upd_same]; rfl, none, none, rfl⟩ (fun i σ H' _ z => z.1 _ _ hfd) ?_ ?_⟩
  · rintro i x σ H1 H2 hi ⟨s1, ks, S, nb, ha1, hb1, v3, v4, rfl⟩ ⟨T0, x1, x2, rfl, hT, rfl, e1, e2⟩
    obtain ⟨kv, hkv, e3⟩ := Option.map_eq_some_iff.mp e1
    have e2 : kvs[i]?.map Prod.snd = some x2 := e2
    rw [hkv] at e2
    obtain ⟨n, nd0, t, hLi, ekv, ht⟩ := en.get hkv
    subst ekv
    have e3 : V.int n = x1 := e3
    have e2 : V.ref t = x2 := Option.some.inj e2
    subst e2 e3
    have hf : look L n = some nd0 := look_of_at nd hLi
    have hk : (keys L)[i]? = some n := by
      unfold keys
      rw [List.getElem?_map, hLi]
      rfl
    have naT : a ≠ T0 := ne_of_none ha1 hT
    have nbT : b ≠ T0 := ne_of_none hb1 hT
    have s2 : Same Hf (upd H1 T0 (.tup [.int n, .ref t])) := s1.trans (Same.new hT)
    have ht2 := s2 _ _ (tf _ _ ht)
    have ha2 : (upd H1 T0 (.tup [.int n, .ref t])) a = some (.dT (knF 0 ks)) := by rw [upd_ne naT]; exact ha1
    have hb2 : (upd H1 T0 (.tup [.int n, .ref t])) b = some (.dK (intD S)) := by rw [upd_ne nbT]; exact hb1
    have hTT : (upd H1 T0 (.tup [.int n, .ref t])) T0 = some (.tup [.int n, .ref t]) := upd_same
    generalize upd H1 T0 (.tup [.int n, .ref t]) = H2 at s2 ht2 ha2 hb2 hTT
    have ekey : (look L n).getD (0, 0, 0) = nd0 := by
      rw [hf]
      rfl
    have il : i < kvs.length := hi
    have ksl := nb.le
    have Snd : (S.map (·.1)).Nodup := by
      rw [nb.ksS]
      exact nd.sublist (List.take_sublist _ _)
    have Sl : S.length ≤ 61 := by
      have := congrArg List.length nb.ksS
      rw [List.length_map, List.length_take] at this
      omega
    have htk : H2 t = some (.tup ((kk nd0).map kV)) := ht2
    refine ⟨T0, _, rfl, SqT.of hTT, rfl, _, _, rfl, _, _, rfl, rfl, ?_⟩
    -- the store into found, j the class
    have fin : ∀ (ks' : List Pl.Node) (j : Nat) (H3 : Hp), (ks' = ks ∨ (ks' = ks ++ [nd0] ∧ ¬ nd0 ∈ ks)) → ks'[j]? = some nd0 → ks'.Nodup → Same Hf H3 → H3 a = some (.dT (knF 0 ks')) → H3 b = some (.dK (intD S)) → H3 t = some (.tup ((kk nd0).map kV)) →
        sDPut (tVar 2) (tVar 3) (tDGet (tVar 1) (tVar 4)) { nx := fun σ H' => Same Hf H' ∧ ∃ ks S, Pl.NB (keys L) (fun n => (look L n).getD (0, 0, 0)) (i + 1) ks S ∧ H' a = some (.dT (knF 0 ks)) ∧ H' b = some (.dK (intD S)) ∧ ∃ v3 v4, σ = [some (.ref d), some (.ref a), some (.ref b), v3, v4], rt := fun _ _ => False }
          [some (.ref d), some (.ref a), some (.ref b), some (.int n), some (.ref t)] H3 := fun ks' j H3 hk' hj nd' s3 ha3 hb3 ht3 => by
      have g : DGet H3 a (.ref t) (some (.int (j : Int))) := by
        have := DGet.t (k := kk nd0) ha3 ht3
        rw [knF_some 0 ks' nd0 j nd' hj, Nat.zero_add] at this
        exact this
      refine ⟨_, rfl, _, rfl, a, _, rfl, g, _, rfl, _, rfl, b, _, rfl, intD_dput hb3 Snd n (j : Int) (small1000 (by omega)), ?_⟩
      exact ⟨Same.mut s3 hfb, ks', _, nb.step nd hk (by rw [ekey]; exact hk') (by rw [ekey]; exact hj), by rw [upd_ne nab]; exact ha3, upd_same, _, _, rfl⟩
    by_cases mem : nd0 ∈ ks
    · obtain ⟨j, hj⟩ := List.getElem?_of_mem mem
      have g0 : DGet H2 a (.ref t) (some (.int ((0 + j : Nat) : Int))) := by
        have := DGet.t (k := kk nd0) ha2 htk
        rw [knF_some 0 ks nd0 j nb.nd hj] at this
        exact this
      refine ⟨_, rfl, _, rfl, a, _, rfl, g0, _, rfl, iteF ?_⟩
      exact fin ks j H2 (.inl rfl) hj nb.nd s2 ha2 hb2 htk
    · have g0 : DGet H2 a (.ref t) none := by
        have := DGet.t (k := kk nd0) ha2 htk
        rw [knF_none 0 ks nd0 mem] at this
        exact this
      refine ⟨_, rfl, _, rfl, a, _, rfl, g0, _, rfl, iteT ⟨_, rfl, a, _, rfl, ha2, _, rfl, _, rfl, a, _, rfl, DPut.t (k := kk nd0) ha2 htk (by rw [knF_len]; exact small1000 (by omega)), ?_⟩⟩
      have nat : t ≠ a := fun z => by
        rw [z, ha2] at ht2
        cases ht2
      have ndk : (ks ++ [nd0]).Nodup := by
        rw [List.nodup_append]
        refine ⟨nb.nd, by simp, fun x hx y hy c => mem ?_⟩
        rw [List.mem_singleton.mp hy] at c
        exact c ▸ hx
      refine fin (ks ++ [nd0]) ks.length _ (.inr ⟨rfl, mem⟩) (by rw [List.getElem?_append_right (Nat.le_refl _), Nat.sub_self]; rfl) ndk (Same.mut s2 hfa) ?_ (by rw [upd_ne nab.symm]; exact hb2) (by rw [upd_ne nat]; exact htk)
      rw [upd_same, putK_new _ (knF_none 0 ks nd0 mem), knF_snoc, knF_len, Nat.zero_add]
  · rintro σ H1 ⟨s1, ks, S, nb, ha1, hb1, v3, v4, rfl⟩
    rw [el, ← kl] at nb
    refine ⟨s1 _ _ hfd, _, rfl, q _ b S ks.length (back H1 s1) hb0 (by rw [upd_ne ndb.symm]; exact hb1) nb.fin⟩
end Zw
namespace Zw
open PySem PySem.Spec PyProof.Rows L2 PH
variable {P : Program} {w : World} {K : PySem.W.Frag} {mg : Str → Option Value} {base : Heap}
theorem intD_snd (S : List (Int × Int)) : (intD S).map (·.2) = (S.map (·.2)).map V.int := by
  unfold intD
  rw [List.map_map, List.map_map]
  rfl
/-- a dict made key by key over a list of numbers -/
def KeyT (H : Hp) (D : Addr) (xs : List Int) (key : Int → Pl.Node) (i : Nat) : Prop := ∃ L1, TabM H D L1 ∧ keys L1 = xs.take i ∧ ∀ n, n ∈ xs.take i → look L1 n = some (key n)
theorem KeyT.put {H : Hp} {D t : Addr} {xs : List Int} {key : Int → Pl.Node} {i : Nat} {n : Int} (nd : xs.Nodup) (h : KeyT H D xs key i) (e : xs[i]? = some n) (hl : xs.length ≤ 61) (ht : H t = some (.tup [.int (key n).1, .int (key n).2.1, .int (key n).2.2])) :
    ∃ kvs, H D = some (.dK kvs) ∧ kvs.length < sizeLine ∧ KeyT (upd H D (.dK (putK kvs (Sum.inl n) (.ref t)))) D xs key (i + 1) := by
  obtain ⟨L1, tb, ks, lk⟩ := h
  obtain ⟨kz, hz, lz, tb5⟩ := tb.putU (n := n) ht
  have hi : i < xs.length := (List.getElem?_eq_some_iff.mp e).1
  have ll : L1.length = i := by
    have := congrArg List.length ks
    unfold keys at this
    rw [List.length_map, List.length_take] at this
    omega
  have new : ¬ n ∈ keys L1 := fun z => by
    rw [ks] at z
    have h2 : (xs.take (i + 1)).Nodup := nd.sublist (List.take_sublist _ _)
    rw [take_succ_some e, List.nodup_append] at h2
    exact h2.2.2 _ z _ (List.mem_singleton.mpr rfl) rfl
  refine ⟨kz, hz, small1000 (by omega), _, tb5, ?_, fun m hm => ?_⟩
  · rw [putT_keys, if_neg new, ks, take_succ_some e]
  · rw [look_put]
    by_cases q : m = n
    · rw [if_pos q, q]
    · rw [if_neg q]
      exact lk m (((Pl.take_snoc e m).mp hm).resolve_right q)
theorem KeyT.fin {H : Hp} {D : Addr} {xs : List Int} {key : Int → Pl.Node} (h : KeyT H D xs key xs.length) : ∃ L1, TabM H D L1 ∧ L1.length = xs.length ∧ ∀ S c, Pl.NumSpec (keys L1) (fun n => (look L1 n).getD (0, 0, 0)) S c → Pl.NumSpec xs key S c := by
  obtain ⟨L1, tb, ks, lk⟩ := h
  rw [List.take_length] at ks lk
  refine ⟨L1, tb, ?_, fun S c ns => ?_⟩
  · have := congrArg List.length ks
    unfold keys at this
    rw [List.length_map] at this
    exact this
  · rw [ks] at ns
    refine ns.congr fun n hn => ?_
    rw [lk n hn]
    rfl
abbrev sclasses_in : Stmt := tp 64
theorem scclasses_in : FnScope ["table", "numbers", "found", "number", "count"] ["table"] (defScope sclasses_in) := ⟨rfl, rfl, rfl, by decide +kernel, rfl, by decide +kernel, by decide +kernel⟩
def spClasses : Sp := fun vs H Q _ => ∃ (d : Addr) (L : Tl), vs = [.ref d] ∧ TabAt H d L ∧ L.length ≤ 20 ∧
  ∀ (H' : Hp) (p : Addr) (S : List (Int × Int)), Same H H' → H p = none → H' p = some (.dK (intD S)) → Pl.CSpec (look L) S → (S.map (·.1)).Nodup → S.length ≤ 61 → Q (.ref p) H'
theorem c_classes_in (F : Top K mg "classes_in" sclasses_in) (T : Txt K mg) (Greached : Cal P w K mg base 3 "reached" ["table"] spReached) (G_first_class : Cal P w K mg base 3 "_first_class" ["table", "number"] spFirst)
    (G_later_key : Cal P w K mg base 1 "_later_key" ["table", "found", "number"] spLater) (G_numbered : Cal P w K mg base 1 "_numbered" ["keys"] spNumb) : Cal P w K mg base 4 "classes_in" ["table"] spClasses := by
  refine F.cal scclasses_in (fun vs H Q E h => ?_) (fun _ _ _ _ _ _ us hl => match us, hl with | [_], _ => rfl) (fun f cdv A outer s H vs Q E hr h => ?_)
  · obtain ⟨d, L, rfl, _⟩ := h
    rfl
  obtain ⟨d, L, rfl, tb, hL, q⟩ := h
  have hu := hu_of hr
  refine ⟨_, (pss_cons (ps_set (i := 1) scclasses_in.nd rfl (Or.inl rfl) (pe_c Greached hr (pa_cons (pv 0) pa_nil)))
        (pss_cons (ps_set (i := 2) scclasses_in.nd rfl (Or.inr rfl) (pe_c G_numbered hr (pa_cons (pe_dc (own := [("number", 3)]) (tt := tYes) rfl scclasses_in.nd (pi_list (pv 1)) (blkOk_by (own := [("number", 3)]) (N := ["table", "numbers", "found", "number", "count"]) (sc := defScope (tp 64)) (by decide +kernel)) (fun _ _ _ _ _ => pg_name (i := 3) scclasses_in.nd rfl (Or.inl rfl)) (fun _ _ _ _ _ => pts_nil) (fun _ _ _ _ _ => (pv 3)) (fun _ _ _ _ _ => (pe_c G_first_class hr (pa_cons (pv 0) (pa_cons (pv 3) pa_nil))))) pa_nil)))
        (pss_cons (ps_set (i := 4) scclasses_in.nd rfl (Or.inl rfl) pe_int)
        (pss_cons (ps_while PassesOwn.never (pt_cmpR op_lt (pv 4) (pe_op op_add (pe_maxVals rfl rfl T.max (pv 2)) pe_int) (nomark _)) (pss_cons (ps_set (i := 4) scclasses_in.nd rfl (Or.inl rfl) (pe_op op_add (pe_maxVals rfl rfl T.max (pv 2)) pe_int))
        (pss_one (ps_set (i := 2) scclasses_in.nd rfl (Or.inr rfl) (pe_c G_numbered hr (pa_cons (pe_dc (own := [("number", 3)]) (tt := tYes) rfl scclasses_in.nd (pi_list (pv 1)) (blkOk_by (own := [("number", 3)]) (N := ["table", "numbers", "found", "number", "count"]) (sc := defScope (tp 64)) (by decide +kernel)) (fun _ _ _ _ _ => pg_name (i := 3) scclasses_in.nd rfl (Or.inl rfl)) (fun _ _ _ _ _ => pts_nil) (fun _ _ _ _ _ => (pv 3)) (fun _ _ _ _ _ => (pe_c G_later_key hr (pa_cons (pv 0) (pa_cons (pv 2) (pa_cons (pv 3) pa_nil)))))) pa_nil))))))
        (pss_one (ps_ret (pv 2))))))), ?_⟩
  refine ⟨_, rfl, d, L, rfl, tb, hL, fun H1 b ys s1 hb hy hmem nd srt hlen => ?_⟩
  have z0 : (0 : Int) ∈ ys := (hmem 0).mpr .zero
  refine ⟨_, rfl, b, rfl, ⟨_, SqL.of hy⟩, fun D hD => ?_⟩
  refine dc_it (walk_list (K := K) (a := b) (xs := ys.map V.int)) (fun i H' => Same H1 H' ∧ KeyT H' D ys (Pl.key1 (look L)) i)
    ⟨Same.new hD, [], ⟨[], upd_same, .nil, List.nodup_nil⟩, rfl, fun n (z : n ∈ ([] : List Int)) => (nomatch z)⟩ (fun i H' _ z => SqL.of (z.1 _ _ hy)) ?_ ?_
  · rintro i x H0 H2 hi ⟨s2, kt⟩ ⟨e1, hx⟩
    subst e1
    rw [List.getElem?_map] at hx
    obtain ⟨n, hn, ex⟩ := Option.map_eq_some_iff.mp hx
    subst ex
    refine ⟨rfl, _, rfl, _, rfl, _, rfl, d, L, n, rfl, tb.same (s1.trans s2), fun H4 t nd' s4 en' ht => ?_⟩
    subst en'
    have kt4 : KeyT H4 D ys (Pl.key1 (look L)) i := let ⟨L1, a, c⟩ := kt; ⟨L1, a.same s4, c⟩
    obtain ⟨kz, hz, lz, kt5⟩ := kt4.put nd hn hlen ht
    exact ⟨kz, Sum.inl n, rfl, hz, lz, Same.mut (s2.trans s4) hD, kt5⟩
  · rintro H2 ⟨s2, kt⟩
    rw [List.length_map] at kt
    obtain ⟨L1, tb1, ll1, cv⟩ := kt.fin
    refine ⟨D, L1, rfl, tb1, by omega, fun H3 p S c s3 hp hS ns => ?_⟩
    have ns := cv S c ns
    have s13 : Same H1 H3 := s2.trans s3
    have hpH : H1 p = none := s2.free hp
    refine ⟨fun μ σ H' => ∃ (S : List (Int × Int)) (c cnt : Nat) (fa : Addr), μ = 62 - cnt ∧ (∃ key, Pl.NumSpec ys key S c ∧ (cnt = 0 ∨ ∃ key' S', Pl.NumSpec ys key' S' cnt ∧ key = Pl.keyL (look L) (Pl.nameF S') ∧ ∀ n m, n ∈ ys → m ∈ ys → Pl.nameF S' n = Pl.nameF S' m → Pl.key1 (look L) n = Pl.key1 (look L) m)) ∧
        (∀ n m, n ∈ ys → m ∈ ys → Pl.nameF S n = Pl.nameF S m → Pl.key1 (look L) n = Pl.key1 (look L) m) ∧ Same H1 H' ∧ H1 fa = none ∧ H' fa = some (.dK (intD S)) ∧ ∃ v3, σ = [some (.ref d), some (.ref b), some (.ref fa), v3, some (.int (cnt : Int))],
      ⟨_, S, c, 0, p, rfl, ⟨_, ns, .inl rfl⟩, fun n m hn hm e => (ns.eq n m hn hm).mp e, s13, hpH, hS, none, rfl⟩, ?_⟩
    rintro μ σ H4 ⟨S, c, cnt, fa, rfl, ⟨key, ns, hcase⟩, r1, s4, hfa, hS, v3, rfl⟩
    have cpos := ns.pos z0
    have Sne : S.map (·.2) ≠ [] := fun z => by
      have := congrArg List.length z
      rw [List.length_map, ← List.length_map (f := (·.1)), ns.ks] at this
      have h0 := List.length_pos_of_mem z0
      rw [this] at h0
      exact Nat.lt_irrefl _ h0
    have cle := ns.le
    refine ⟨_, rfl, _, rfl, fa, _, S.map (·.2), rfl, hS, intD_snd S, Sne, fun m hm1 hm2 => ?_⟩
    have em := ns.max nd z0 hm1 hm2
    refine ⟨_, _, rfl, rfl, _, _, rfl, rfl, _, rfl, ?_⟩
    rw [em]
    refine ifD (fun hlt => ?_) fun hge => ?_
    · refine ⟨fun σ' H' => ∃ μ', μ' < 62 - cnt ∧ ∃ (S : List (Int × Int)) (c cnt : Nat) (fa : Addr), μ' = 62 - cnt ∧ (∃ key, Pl.NumSpec ys key S c ∧ (cnt = 0 ∨ ∃ key' S', Pl.NumSpec ys key' S' cnt ∧ key = Pl.keyL (look L) (Pl.nameF S') ∧ ∀ n m, n ∈ ys → m ∈ ys → Pl.nameF S' n = Pl.nameF S' m → Pl.key1 (look L) n = Pl.key1 (look L) m)) ∧
        (∀ n m, n ∈ ys → m ∈ ys → Pl.nameF S n = Pl.nameF S m → Pl.key1 (look L) n = Pl.key1 (look L) m) ∧ Same H1 H' ∧ H1 fa = none ∧ H' fa = some (.dK (intD S)) ∧ ∃ v3, σ' = [some (.ref d), some (.ref b), some (.ref fa), v3, some (.int (cnt : Int))], fun _ _ z => z, ?_⟩
      refine ⟨_, rfl, fa, _, S.map (·.2), rfl, hS, intD_snd S, Sne, fun m2 hm1 hm2 => ?_⟩
      have em2 := ns.max nd z0 hm1 hm2
      refine ⟨_, _, rfl, rfl, ?_⟩
      show gName 4 (V.int (m2 + 1)) _ H4 _
      rw [em2]
      have hy4 := s4 _ _ hy
      refine ⟨_, rfl, b, rfl, ⟨_, SqL.of hy4⟩, fun D2 hD2 => ?_⟩
      refine dc_it (walk_list (K := K) (a := b) (xs := ys.map V.int)) (fun i H' => Same H4 H' ∧ KeyT H' D2 ys (Pl.keyL (look L) (Pl.nameF S)) i)
        ⟨Same.new hD2, [], ⟨[], upd_same, .nil, List.nodup_nil⟩, rfl, fun n (z : n ∈ ([] : List Int)) => (nomatch z)⟩ (fun i H' _ z => SqL.of (z.1 _ _ hy4)) ?_ ?_
      · rintro i x H0 H5 hi ⟨s5, kt⟩ ⟨e1, hx⟩
        subst e1
        rw [List.getElem?_map] at hx
        obtain ⟨n, hn, ex⟩ := Option.map_eq_some_iff.mp hx
        subst ex
        have nY : n ∈ ys := List.mem_of_getElem? hn
        refine ⟨rfl, _, rfl, _, rfl, _, rfl, _, rfl, d, fa, L, S, n, rfl, tb.same ((s1.trans s4).trans s5), .inl (s5 _ _ hS), fun x hx => ?_, fun H6 t nd' s6 en' ht => ?_⟩
        · rcases hx with rfl | hx
          · exact ns.look nY
          · exact ns.look ((hmem x).mpr (hx.reach ((hmem n).mp nY)))
        · subst en'
          have kt6 : KeyT H6 D2 ys (Pl.keyL (look L) (Pl.nameF S)) i := let ⟨L1, a, c⟩ := kt; ⟨L1, a.same s6, c⟩
          obtain ⟨kz, hz, lz, kt7⟩ := kt6.put nd hn hlen ht
          exact ⟨kz, Sum.inl n, rfl, hz, lz, Same.mut (s5.trans s6) hD2, kt7⟩
      · rintro H5 ⟨s5, kt⟩
        rw [List.length_map] at kt
        obtain ⟨L2, tb2, ll2, cv2⟩ := kt.fin
        refine ⟨D2, L2, rfl, tb2, by omega, fun H6 p2 S2 c2 s6 hp2 hS2 ns2 => ?_⟩
        have ns2 := cv2 S2 c2 ns2
        refine ⟨62 - c, by omega, S2, c2, c, p2, rfl, ⟨_, ns2, .inr ⟨key, S, ns, rfl, r1⟩⟩, fun n m hn hm e => ?_, (s4.trans s5).trans s6, (s4.trans s5).free hp2, hS2, _, rfl⟩
        have := congrArg Prod.fst ((ns2.eq n m hn hm).mp e)
        rw [Pl.keyL_fst, Pl.keyL_fst] at this
        exact r1 n m hn hm this
    · have hle : c ≤ cnt := by omega
      rcases hcase with z | ⟨key', S', ns', ek, r1'⟩
      · omega
      · subst ek
        refine ⟨_, rfl, q H4 fa S (s1.trans s4) (s1.free hfa) hS (Pl.cspec hmem ns' ns hle r1') (by rw [ns.ks]; exact nd) ?_⟩
        have := congrArg List.length ns.ks
        rw [List.length_map] at this
        omega
end Zw
namespace Zw
open PySem PySem.Spec PyProof.Rows L2 PH
variable {P : Program} {w : World} {K : PySem.W.Frag} {mg : Str → Option Value} {base : Heap}
theorem nameF_of {S : List (Int × Int)} {n v : Int} (h : Pl.slook S n = some v) : Pl.nameF S n = v := by
  unfold Pl.nameF
  rw [h]
  rfl
theorem intD_items {S : List (Int × Int)} {i : Nat} {x1 x2 : V} (e1 : (fun i => (intD S)[i]?.map fun kv => kV kv.1) i = some x1) (e2 : (fun i => (intD S)[i]?.map Prod.snd) i = some x2) : ∃ n v, S[i]? = some (n, v) ∧ x1 = .int n ∧ x2 = .int v := by
  have e1 : (intD S)[i]?.map (fun kv => kV kv.1) = some x1 := e1
  have e2 : (intD S)[i]?.map Prod.snd = some x2 := e2
  unfold intD at e1 e2
  rw [List.getElem?_map] at e1 e2
  cases e : S[i]? with
  | none => rw [e] at e1; cases e1
  | some p =>
    rw [e] at e1 e2
    obtain ⟨n, v⟩ := p
    exact ⟨n, v, rfl, (Option.some.inj e1).symm, (Option.some.inj e2).symm⟩
abbrev s_representatives : Stmt := tp 65
theorem sc_representatives : FnScope ["found", "chosen", "number", "at"] ["found"] (defScope s_representatives) := ⟨rfl, rfl, rfl, by decide +kernel, rfl, by decide +kernel, by decide +kernel⟩
def spReps : Sp := fun vs H Q _ => ∃ (a : Addr) (S : List (Int × Int)), vs = [.ref a] ∧ H a = some (.dK (intD S)) ∧ (S.map (·.1)).Nodup ∧ S.length ≤ 61 ∧
  ∀ (H' : Hp) (p : Addr) (C : List (Int × Int)), Same H H' → H p = none → H' p = some (.dK (intD C)) → Pl.RP (S.map (·.1)) (Pl.nameF S) (S.map (·.1)).length C → Q (.ref p) H'
theorem c__representatives (F : Top K mg "_representatives" s_representatives) (T : Txt K mg) : Cal P w K mg base 1 "_representatives" ["found"] spReps := by
  refine F.cal sc_representatives (fun vs H Q E h => ?_) (fun _ _ _ _ _ _ us hl => match us, hl with | [_], _ => rfl) (fun f cdv A outer s H vs Q E hr h => ?_)
  · obtain ⟨a, S, rfl, _⟩ := h
    rfl
  obtain ⟨a, S, rfl, hS, nd, hl, q⟩ := h
  have hu := hu_of hr
  refine ⟨_, (pss_cons (ps_set (i := 1) sc_representatives.nd rfl (Or.inl rfl) pe_dnewK)
        (pss_cons (ps_lock (ps_for PassesOwn.never rfl (pi_items (pv 0)) (pg_tup rfl (pgs_cons (pg_name (i := 2) sc_representatives.nd rfl (Or.inl rfl)) (pgs_cons (pg_name (i := 3) sc_representatives.nd rfl (Or.inl rfl)) pgs_nil))) (pss_one (ps_if (PW.pt (pw_or (pt_cmp (pc_dnotin hu (pv 3) (pv 1)) rfl) (pw_or1 (PW.pt (pw_and (pt_chain op_le op_lt pe_int (pv 2) pe_int) (pw_and1 (pt_not (pt_chain op_le op_lt pe_int (pe_dget hu (pv 1) (pv 3) (fun _ _ => rfl)) pe_int)))))))) (pss_one (ps_dput hu (pv 1) (pv 3) (pv 2) rfl)) pss_nil))))
        (pss_one (ps_ret (pv 1))))), ?_⟩
  intro c hc
  have nac : a ≠ c := ne_of_none hS hc
  have hS2 : (upd H c (.dK [])) a = some (.dK (intD S)) := by rw [upd_ne nac]; exact hS
  refine ⟨a, .dK (intD S), hS2, trivial, fun od => ?_⟩
  have back : ∀ H', Same (upd H a (.frz od (.dK (intD S)))) H' → Same H (upd H' a (.dK (intD S))) := fun H' s => unlock hS s
  have hfa : (upd H a (.frz od (.dK (intD S)))) a = some (.frz od (.dK (intD S))) := upd_same
  have hfc : (upd H a (.frz od (.dK (intD S)))) c = none := by rw [upd_ne nac.symm]; exact hc
  have sf0 : Same (upd H a (.frz od (.dK (intD S)))) (upd (upd H c (.dK [])) a (.frz od (.dK (intD S)))) := fun z o e => by
    by_cases y : z = a
    · subst y
      rw [upd_same] at e ⊢
      exact e
    · rw [upd_ne y] at e ⊢
      rw [upd_ne (ne_of_none e hc)]
      exact e
  generalize upd H a (.frz od (.dK (intD S))) = Hf at back hfa sf0 hfc
  refine ⟨_, rfl, a, od, intD S, rfl, upd_same, for_it walk_items (fun i σ H' => Same Hf H' ∧ ∃ C, Pl.RP (S.map (·.1)) (Pl.nameF S) i C ∧ H' c = some (.dK (intD C)) ∧ ∃ v2 v3, σ = [some (.ref a), some (.ref c), v2, v3])
    ⟨sf0, [], Pl.RP.start _ _, by rw [upd_ne nac.symm, upd_same]; rfl, none, none, rfl⟩ (fun i σ H' _ z => z.1 _ _ hfa) ?_ ?_⟩
  · rintro i x σ H1 H2 hi ⟨s1, C, rp, hc1, v2, v3, rfl⟩ ⟨T0, x1, x2, rfl, hT, rfl, e1, e2⟩
    obtain ⟨n, v, hSi, rfl, rfl⟩ := intD_items e1 e2
    rw [intD_len] at hi
    have nF : Pl.nameF S n = v := nameF_of (Pl.slook_at nd (List.mem_of_getElem? hSi))
    have hk : (S.map (·.1))[i]? = some n := by
      rw [List.getElem?_map, hSi]
      rfl
    have ncT : c ≠ T0 := ne_of_none hc1 hT
    have s2 : Same Hf (upd H1 T0 (.tup [.int n, .int v])) := s1.trans (Same.new hT)
    have hc2 : (upd H1 T0 (.tup [.int n, .int v])) c = some (.dK (intD C)) := by rw [upd_ne ncT]; exact hc1
    have hTT : (upd H1 T0 (.tup [.int n, .int v])) T0 = some (.tup [.int n, .int v]) := upd_same
    generalize upd H1 T0 (.tup [.int n, .int v]) = H2 at s2 hc2 hTT
    refine ⟨T0, _, rfl, SqT.of hTT, rfl, _, _, rfl, _, _, rfl, rfl, ?_⟩
    have cle := rp.le
    have put : sDPut (tVar 1) (tVar 3) (tVar 2) { nx := fun σ H' => Same Hf H' ∧ ∃ C, Pl.RP (S.map (·.1)) (Pl.nameF S) (i + 1) C ∧ H' c = some (.dK (intD C)) ∧ ∃ v2 v3, σ = [some (.ref a), some (.ref c), v2, v3], rt := fun _ _ => False } [some (.ref a), some (.ref c), some (.int n), some (.int v)] H2 := by
      refine ⟨_, rfl, _, rfl, _, rfl, c, _, rfl, intD_dput hc2 rp.nd v n (small1000 (by omega)), Same.mut s2 hfc, _, ?_, upd_same, _, _, rfl⟩
      have := rp.put hk (by rw [nF]; exact sput_nd rp.nd v n)
      rw [nF] at this
      exact this
    have skip : (Pl.slook C v).isSome = true → Same Hf H2 ∧ ∃ C, Pl.RP (S.map (·.1)) (Pl.nameF S) (i + 1) C ∧ H2 c = some (.dK (intD C)) ∧ ∃ v2 v3, ([some (.ref a), some (.ref c), some (.int n), some (.int v)] : L2.St) = [some (.ref a), some (.ref c), v2, v3] := fun hs => ⟨s2, C, rp.skip hk (by rw [nF]; exact hs), hc2, _, _, rfl⟩
    have g := intD_get (.inl hc2) v
    cases e : Pl.slook C v with
    | none =>
      rw [e] at g
      exact ⟨_, rfl, _, rfl, c, _, rfl, g, _, rfl, iteT (iteT put)⟩
    | some r =>
      rw [e] at g
      have sk := skip (by rw [e]; rfl)
      refine ⟨_, rfl, _, rfl, c, _, rfl, g, _, rfl, iteF ?_⟩
      refine ⟨_, rfl, _, _, rfl, rfl, _, rfl, ?_⟩
      refine ifD (fun h0 => ⟨_, _, rfl, rfl, _, rfl, ifD (fun h1 => ?_) fun h1 => iteF sk⟩) fun h0 => ⟨_, rfl, iteF (iteF sk)⟩
      refine ⟨_, rfl, _, rfl, c, _, rfl, g, _, _, rfl, rfl, _, rfl, ?_⟩
      refine ifD (fun h2 => ⟨_, _, rfl, rfl, _, rfl, ?_⟩) fun h2 => ⟨_, rfl, iteT put⟩
      by_cases h3 : r < 200
      · rw [decide_eq_true h3]
        exact iteF sk
      · rw [decide_eq_false h3]
        exact iteT put
  · rintro σ H1 ⟨s1, C, rp, hc1, v2, v3, rfl⟩
    rw [intD_len, ← List.length_map (f := (·.1))] at rp
    exact ⟨s1 _ _ hfa, _, rfl, q _ c C (back H1 s1) hc (by rw [upd_ne nac.symm]; exact hc1) rp⟩
abbrev smerged : Stmt := tp 66
theorem scmerged : FnScope ["table", "found", "chosen", "kept", "number", "at", "op", "arg", "successor"] ["table"] (defScope smerged) := ⟨rfl, rfl, rfl, by decide +kernel, rfl, by decide +kernel, by decide +kernel⟩
def spMerged : Sp := fun vs H Q _ => ∃ (d : Addr) (L : Tl), vs = [.ref d] ∧ TabAt H d L ∧ L.length ≤ 20 ∧
  ∀ (H' : Hp) (p : Addr) (L' : Tl) (fo ch : Int → Int), Same H H' → H p = none → TabM H' p L' → Pl.MergeSpec (look L) (look L') fo ch → Q (.ref p) H'
def MInv (H : Hp) (a c p d : Addr) (od : Obj) (S C : List (Int × Int)) (L : Tl) (i : Nat) : L2.St → Hp → Prop := fun σ H' => Same H H' ∧ H' a = some (.frz od (.dK (intD S))) ∧ H' c = some (.dK (intD C)) ∧ ∃ L1, TabM H' p L1 ∧ L1.length ≤ i ∧
  (∀ n, n ∈ (S.map (·.1)).take i → Pl.Kept (Pl.nameF S) (Pl.nameF C) n → look L1 n = (look L n).map (Pl.mergeN (Pl.nameF S) (Pl.nameF C))) ∧ (∀ n, ¬ (n ∈ (S.map (·.1)).take i ∧ Pl.Kept (Pl.nameF S) (Pl.nameF C) n) → look L1 n = none) ∧
  ∃ v4 v5 v6 v7 v8, σ = [some (.ref d), some (.ref a), some (.ref c), some (.ref p), v4, v5, v6, v7, v8]
theorem c_merged (F : Top K mg "merged" smerged) (T : Txt K mg) (Gclasses_in : Cal P w K mg base 4 "classes_in" ["table"] spClasses) (G_representatives : Cal P w K mg base 1 "_representatives" ["found"] spReps) (Gis_nop : Cal P w K mg base 2 "is_nop" ["op"] spNop) : Cal P w K mg base 5 "merged" ["table"] spMerged := by
  refine F.cal scmerged (fun vs H Q E h => ?_) (fun _ _ _ _ _ _ us hl => match us, hl with | [_], _ => rfl) (fun f cdv A outer s H vs Q E hr h => ?_)
  · obtain ⟨d, L, rfl, _⟩ := h
    rfl
  obtain ⟨d, L, rfl, tb, hL, q⟩ := h
  have hu := hu_of hr
  refine ⟨_, (pss_cons (ps_set (i := 1) scmerged.nd rfl (Or.inl rfl) (pe_c Gclasses_in hr (pa_cons (pv 0) pa_nil)))
        (pss_cons (ps_set (i := 2) scmerged.nd rfl (Or.inl rfl) (pe_c G_representatives hr (pa_cons (pv 1) pa_nil)))
        (pss_cons (ps_set (i := 3) scmerged.nd rfl (Or.inl rfl) pe_dnewK)
        (pss_cons (ps_lock (ps_for PassesOwn.never rfl (pi_items (pv 1)) (pg_tup rfl (pgs_cons (pg_name (i := 4) scmerged.nd rfl (Or.inl rfl)) (pgs_cons (pg_name (i := 5) scmerged.nd rfl (Or.inl rfl)) pgs_nil))) (pss_one (ps_if (PW.pt (pw_and (pt_cmp (pc_din hu (pv 4) (pv 0)) rfl) (pw_and1 (PW.pt (pw_or (pt_chain op_le op_lt pe_int (pv 4) pe_int) (pw_or1 (pt_cmpR op_eq (pe_dget hu (pv 2) (pv 5) (fun _ _ => rfl)) (pv 4) (nomark _)))))))) (pss_cons (ps_asg (pe_dget hu (pv 0) (pv 4) (fun _ _ => rfl)) (pg_tup rfl (pgs_cons (pg_name (i := 6) scmerged.nd rfl (Or.inl rfl)) (pgs_cons (pg_name (i := 7) scmerged.nd rfl (Or.inl rfl)) (pgs_cons (pg_name (i := 8) scmerged.nd rfl (Or.inl rfl)) pgs_nil)))))
        (pss_cons (ps_if (pt_cmpR op_eq (pv 6) pe_int (nomark _)) (pss_one (ps_set (i := 7) scmerged.nd rfl (Or.inl rfl) (pe_dget hu (pv 2) (pe_dget hu (pv 1) (pv 7) (fun _ _ => rfl)) (fun _ _ => rfl)))) (pss_one (ps_if (pt_cmpR op_notIn_seq (pv 6) (pe_tup (pa_cons pe_int (pa_cons pe_int pa_nil))) (by rfl)) (pss_one (ps_set (i := 7) scmerged.nd rfl (Or.inl rfl) pe_int)) pss_nil)))
        (pss_cons (ps_if (pt_val (pe_c Gis_nop hr (pa_cons (pv 6) pa_nil))) (pss_one (ps_set (i := 6) scmerged.nd rfl (Or.inl rfl) pe_int)) pss_nil)
        (pss_one (ps_dput hu (pv 3) (pv 4) (pe_tup (pa_cons (pv 6) (pa_cons (pv 7) (pa_cons (pe_dget hu (pv 2) (pe_dget hu (pv 1) (pv 8) (fun _ _ => rfl)) (fun _ _ => rfl)) pa_nil)))) rfl))))) pss_nil))))
        (pss_one (ps_ret (pv 3))))))), ?_⟩
  refine ⟨_, rfl, d, L, rfl, tb, hL, fun H1 a S s1 ha hS cs nd hl => ?_⟩
  refine ⟨_, rfl, a, S, rfl, hS, nd, hl, fun H2 c C s2 hc hC rp => ?_⟩
  intro p hp
  have ha2 : H2 a = some (.dK (intD S)) := s2 _ _ hS
  have nap : a ≠ p := ne_of_none ha2 hp
  have ncp : c ≠ p := ne_of_none hC hp
  have nca : c ≠ a := fun z => by
    rw [z, hS] at hc
    cases hc
  have ha3 : (upd H2 p (.dK [])) a = some (.dK (intD S)) := by rw [upd_ne nap]; exact ha2
  have hp0 : H p = none := s1.free (s2.free hp)
  refine ⟨a, .dK (intD S), ha3, trivial, fun od => ?_⟩
  have sg0 : Same H (upd (upd H2 p (.dK [])) a (.frz od (.dK (intD S)))) := Same.mut (Same.mut (s1.trans s2) hp0) ha
  have rep := fun {n} (hn : Pl.Reach (look L) n) => Pl.RP.rep cs rp hn
  refine ⟨_, rfl, a, od, intD S, rfl, upd_same, for_it walk_items (MInv H a c p d od S C L)
    ⟨sg0, upd_same, by rw [upd_ne nca, upd_ne ncp]; exact hC, [], ⟨[], by rw [upd_ne nap.symm, upd_same], .nil, List.nodup_nil⟩, Nat.le_refl _, fun n z => (by cases z), fun n z => rfl, none, none, none, none, none, rfl⟩ (fun i σ H' _ (z : MInv H a c p d od S C L i σ H') => z.2.1) ?_ ?_⟩
  · rintro i x σ H3 H4 hi ⟨s3, ha4, hc4, L1, tb1, ll1, yes, no, v4, v5, v6, v7, v8, rfl⟩ ⟨T0, x1, x2, rfl, hT, rfl, e1, e2⟩
    obtain ⟨n, v, hSi, rfl, rfl⟩ := intD_items e1 e2
    rw [intD_len] at hi
    have nF : Pl.nameF S n = v := nameF_of (Pl.slook_at nd (List.mem_of_getElem? hSi))
    have hk : (S.map (·.1))[i]? = some n := by
      rw [List.getElem?_map, hSi]
      rfl
    have rn : Pl.Reach (look L) n := (cs.dom n).mp (List.mem_of_getElem? hk)
    have new : ¬ n ∈ (S.map (·.1)).take i := fun z => by
      have h2 : ((S.map (·.1)).take (i + 1)).Nodup := nd.sublist (List.take_sublist _ _)
      rw [take_succ_some hk, List.nodup_append] at h2
      exact h2.2.2 _ z _ (List.mem_singleton.mpr rfl) rfl
    have tk := Pl.take_snoc hk
    have s5 : Same H (upd H3 T0 (.tup [.int n, .int v])) := s3.trans (Same.new hT)
    have ha5 : (upd H3 T0 (.tup [.int n, .int v])) a = some (.frz od (.dK (intD S))) := by rw [upd_ne (ne_of_none ha4 hT)]; exact ha4
    have hc5 : (upd H3 T0 (.tup [.int n, .int v])) c = some (.dK (intD C)) := by rw [upd_ne (ne_of_none hc4 hT)]; exact hc4
    have tb5 : TabM (upd H3 T0 (.tup [.int n, .int v])) p L1 := tb1.same (Same.new hT)
    have hTT : (upd H3 T0 (.tup [.int n, .int v])) T0 = some (.tup [.int n, .int v]) := upd_same
    generalize upd H3 T0 (.tup [.int n, .int v]) = H5 at s5 ha5 hc5 tb5 hTT
    refine ⟨T0, _, rfl, SqT.of hTT, rfl, _, _, rfl, _, _, rfl, rfl, ?_⟩
    have tab := tb.same s5
    have gS : ∀ {H' : Hp} {x : Int}, H' a = some (.frz od (.dK (intD S))) → Pl.Reach (look L) x → DGet H' a (.int x) (some (.int (Pl.nameF S x))) := fun {H' x} h hx => by
      have := intD_get (.inr ⟨od, h⟩) x
      obtain ⟨p0, hp0, e0⟩ := List.mem_map.mp ((cs.dom x).mpr hx)
      have e3 : Pl.slook S x = some p0.2 := Pl.slook_at nd (by rw [← e0]; exact hp0)
      rw [e3] at this
      rw [nameF_of e3]
      exact this
    have gC : ∀ {H' : Hp} {x : Int}, H' c = some (.dK (intD C)) → Pl.Reach (look L) x → DGet H' c (.int (Pl.nameF S x)) (some (.int (Pl.nameF C (Pl.nameF S x)))) := fun {H' x} h hx => by
      have := intD_get (.inl h) (Pl.nameF S x)
      rw [(rep hx).1] at this
      exact this
    -- not kept, or no node
    have skip : (look L n = none ∨ ¬ Pl.Kept (Pl.nameF S) (Pl.nameF C) n) → MInv H a c p d od S C L (i + 1) [some (.ref d), some (.ref a), some (.ref c), some (.ref p), some (.int n), some (.int v), v6, v7, v8] H5 := fun hx => by
      refine ⟨s5, ha5, hc5, L1, tb5, Nat.le_succ_of_le ll1, fun m hm hkp => ?_, fun m hm => no m fun z => hm ⟨(tk m).mpr (.inl z.1), z.2⟩, _, _, _, _, _, rfl⟩
      rcases (tk m).mp hm with z | z
      · exact yes m z hkp
      · subst z
        rcases hx with hx | hx
        · rw [hx, no m fun z => new z.1]
          rfl
        · exact (hx hkp).elim
    cases e : look L n with
    | none => exact ⟨_, rfl, _, rfl, d, _, rfl, tab.no e, _, rfl, iteF (iteF (skip (.inl e)))⟩
    | some nd0 =>
      obtain ⟨op, arg, sc⟩ := nd0
      obtain ⟨t, g, ht⟩ := tab.yes e
      refine ⟨_, rfl, _, rfl, d, _, rfl, g, _, rfl, iteT ?_⟩
      -- the store of what is kept
      have rs : Pl.Reach (look L) sc := .suc rn e
      have put : Pl.Kept (Pl.nameF S) (Pl.nameF C) n → ∀ (H5' : Hp), Same H5 H5' → ∀ (op' arg' : Int), op' = (if Pl.isNop op = true then 32 else op) → arg' = (if op = 63 then Pl.nameF C (Pl.nameF S arg) else if op = 35 ∨ op = 61 then arg else 0) →
          sDPut (tVar 3) (tVar 4) (tTup (tCons (tVar 6) (tCons (tVar 7) (tCons (tDGet (tVar 2) (tDGet (tVar 1) (tVar 8))) tNil)))) { nx := MInv H a c p d od S C L (i + 1), rt := fun _ _ => False } [some (.ref d), some (.ref a), some (.ref c), some (.ref p), some (.int n), some (.int v), some (.int op'), some (.int arg'), some (.int sc)] H5' := fun hkp H5' sH op' arg' eo ea => by
        have ha5 := sH _ _ ha5
        have hc5 := sH _ _ hc5
        have tb5 := tb5.same sH
        have s5 := s5.trans sH
        refine ⟨_, rfl, _, rfl, _, rfl, _, rfl, _, rfl, a, _, rfl, gS ha5 rs, c, _, rfl, gC hc5 rs, (by show 3 ≤ sizeLine; decide), fun u hu0 => ?_⟩
        have tb6 : TabM (upd H5' u (.tup [.int op', .int arg', .int (Pl.nameF C (Pl.nameF S sc))])) p L1 := tb5.same (Same.new hu0)
        obtain ⟨H6, dp, tb7, kz, eH⟩ := tb6.put (n := n) (t := u) (nd := (op', arg', Pl.nameF C (Pl.nameF S sc))) upd_same (by omega)
        refine ⟨_, rfl, _, rfl, p, H6, rfl, dp, ?_, ?_, ?_, _, tb7, Nat.le_trans (putT_len _ _ _) (by omega), fun m hm hkp' => ?_, fun m hm => ?_, _, _, _, _, _, rfl⟩
        · rw [eH]
          exact Same.mut (Same.mut s5 (s5.free hu0)) hp0
        · rw [eH, upd_ne nap, upd_ne (ne_of_none ha5 hu0)]
          exact ha5
        · rw [eH, upd_ne ncp, upd_ne (ne_of_none hc5 hu0)]
          exact hc5
        · rw [look_put]
          by_cases z : m = n
          · rw [if_pos z, z, e, eo, ea]
            rfl
          · rw [if_neg z]
            exact yes m (((tk m).mp hm).resolve_right z) hkp'
        · rw [look_put]
          by_cases z : m = n
          · rw [z] at hm
            exact (hm ⟨(tk n).mpr (.inr rfl), hkp⟩).elim
          · rw [if_neg z]
            exact no m fun y => hm ⟨(tk m).mpr (.inl y.1), y.2⟩
      -- the body of the test
      have gn : DGet H5 c (.int v) (some (.int (Pl.nameF C v))) := by
        have := gC hc5 rn
        rw [nF] at this
        exact this
      have ek : Pl.Kept (Pl.nameF S) (Pl.nameF C) n ↔ (Pl.fx n = true ∨ Pl.nameF C v = n) := by
        unfold Pl.Kept
        rw [nF]
      refine ⟨_, rfl, _, _, rfl, rfl, _, rfl, ?_⟩
      refine ifD (fun h0 => ⟨_, _, rfl, rfl, _, rfl, ifD (fun h1 => iteT ?b1) fun h1 => ⟨_, rfl, _, rfl, c, _, rfl, gn, _, rfl, rfl, _, rfl, ifI (fun e1 => ?b2) fun ne => ?s1⟩⟩) fun h0 => ⟨_, rfl, iteF ⟨_, rfl, _, rfl, c, _, rfl, gn, _, rfl, rfl, _, rfl, ifI (fun e1 => ?b3) fun ne => ?s2⟩⟩
      case s1 => exact skip (.inr fun z => (ek.mp z).elim (fun y => by unfold Pl.fx at y; rw [decide_eq_false h1, Bool.and_false] at y; cases y) ne)
      case s2 => exact skip (.inr fun z => (ek.mp z).elim (fun y => by unfold Pl.fx at y; rw [decide_eq_false h0, Bool.false_and] at y; cases y) ne)
      all_goals
        have hkp : Pl.Kept (Pl.nameF S) (Pl.nameF C) n := ek.mpr (by first | exact .inr e1 | exact .inl (Pl.fx_of h0 h1))
        have put := put hkp
        refine ⟨_, rfl, _, rfl, d, _, rfl, g, t, _, rfl, SqT.of ht, rfl, _, _, rfl, _, _, rfl, _, _, rfl, rfl, ?_⟩
        refine ⟨_, rfl, rfl, _, rfl, ifI (fun h63 => ?_) fun n63 => ?_⟩
        · have h63 : op = 63 := h63
          have ra : Pl.Reach (look L) arg := .arg rn (h63 ▸ e)
          have hnn : Pl.isNop op = false := by rw [h63]; decide
          refine ⟨_, rfl, _, rfl, _, rfl, a, _, rfl, gS ha5 ra, c, _, rfl, gC hc5 ra, ?_⟩
          refine ⟨_, rfl, op, rfl, _, rfl, ?_⟩
          rw [hnn]
          exact iteF (put H5 (Same.refl _) op _ (by rw [hnn]; rfl) (by rw [if_pos h63]))
        · have n63 : ¬ op = 63 := n63
          refine ⟨_, rfl, (by show 2 ≤ sizeLine; decide), fun u hu0 => ?_⟩
          refine ⟨u, [V.int 35, V.int 61], rfl, Or.inr (SqT.of upd_same), rfl, rfl, _, rfl, ?_⟩
          rw [show (if true = true then !inV (V.int (op, arg, sc).1) [V.int 35, V.int 61] else inV (V.int (op, arg, sc).1) [V.int 35, V.int 61]) = !decide (op ∈ ([35, 61] : List Int)) from congrArg not (inV_ints op [35, 61])]
          have sU : Same H5 (upd H5 u (.tup [V.int 35, V.int 61])) := Same.new hu0
          by_cases hm : op ∈ ([35, 61] : List Int)
          · have hm' : op = 35 ∨ op = 61 := by simpa using hm
            have hnn : Pl.isNop op = false := by rcases hm' with z | z <;> (rw [z]; decide)
            rw [decide_eq_true hm]
            refine iteF ⟨_, rfl, op, rfl, _, rfl, ?_⟩
            rw [hnn]
            exact iteF (put _ sU op arg (by rw [hnn]; rfl) (by rw [if_neg n63, if_pos hm']))
          · have hm' : ¬ (op = 35 ∨ op = 61) := by simpa using hm
            rw [decide_eq_false hm]
            refine iteT ⟨_, rfl, op, rfl, _, rfl, ?_⟩
            cases hnn : Pl.isNop op with
            | true => exact iteT (put _ sU 32 0 (by rw [hnn]; rfl) (by rw [if_neg n63, if_neg hm']))
            | false => exact iteF (put _ sU op 0 (by rw [hnn]; rfl) (by rw [if_neg n63, if_neg hm']))
  · rintro σ H3 ⟨s3, ha4, hc4, L1, tb1, ll1, yes, no, v4, v5, v6, v7, v8, rfl⟩
    have tc : TabM (upd H3 a (.dK (intD S))) p L1 := tb1.mut (tk_unlock ha4) fun kz ez => by rw [upd_ne nap.symm]; exact ez
    rw [intD_len, ← List.length_map (f := (·.1)), List.take_length] at yes no
    refine ⟨ha4, _, rfl, q _ p L1 _ _ (Same.mut s3 ha) hp0 tc ⟨cs.like, fun n hn => (rep hn).2, fun n hn hkp => yes n ((cs.dom n).mpr hn) hkp, fun n hn => no n fun z => hn ⟨(cs.dom n).mp z.1, z.2⟩⟩⟩
end Zw
namespace Zw
open PySem PySem.Spec PyProof.Rows L2 PH
variable {P : Program} {w : World} {K : PySem.W.Frag} {mg : Str → Option Value} {base : Heap}
def spIm (K : PySem.W.Frag) (SP : Pl.Tb → Pl.Tb → Prop) (m : Nat) : Sp := fun vs H Q _ => ∃ (a : Addr) (R : Tl), vs = [.ref a] ∧ SqL K H a ((flat R).map V.int) ∧ R.length ≤ 20 ∧ Clos (tabOf R) ∧
  ∀ (H' : Hp) (p : Addr) (R' : Tl), Same H H' → H p = none → H' p = some (.lst ((flat R').map V.int)) → R'.length ≤ m → SP (look (tabOf R)) (look (tabOf R')) → Clos (tabOf R') → Q (.ref p) H'
theorem Clos.of {L L' : Tl} (h : Clos L) (e : ∀ n, look L' n = look L n) : Clos L' := fun n op arg s z => h n op arg s (by rw [← e]; exact z)
abbrev sthread : Stmt := tp 24
theorem scthread : FnScope ["image", "table"] ["image"] (defScope sthread) := ⟨rfl, rfl, rfl, by decide +kernel, rfl, by decide +kernel, by decide +kernel⟩
theorem c_thread (F : Top K mg "thread" sthread) (T : Txt K mg) (Gtable_of : Cal P w K mg base 2 "table_of" ["image"] (spTab K)) (Gis_closed_table : Cal P w K mg base 4 "is_closed_table" ["table"] spClosed) (Gthreaded : Cal P w K mg base 6 "threaded" ["table"] spThreaded)
    (Gwritten : Cal P w K mg base 1 "written" ["table"] spWritten) : Cal P w K mg base 7 "thread" ["image"] (spIm K Pl.ThreadSpec 20) := by
  refine F.cal scthread (fun vs H Q E h => ?_) (fun _ _ _ _ _ _ us hl => match us, hl with | [_], _ => rfl) (fun f cdv A outer s H vs Q E hr h => ?_)
  · obtain ⟨a, R, rfl, _⟩ := h
    rfl
  obtain ⟨a, R, rfl, S, hR, cl, q⟩ := h
  have hu := hu_of hr
  refine ⟨_, (pss_cons (ps_set (i := 1) scthread.nd rfl (Or.inl rfl) (pe_c Gtable_of hr (pa_cons (pv 0) pa_nil)))
        (pss_cons (ps_if (pt_not (pt_val (pe_c Gis_closed_table hr (pa_cons (pv 1) pa_nil)))) (pss_one (ps_ret (pe_callTy call_list_of (by rfl) T.list b_list (pa_cons (pv 0) pa_nil)))) pss_nil)
        (pss_one (ps_ret (pe_c Gwritten hr (pa_cons (pe_c Gthreaded hr (pa_cons (pv 1) pa_nil)) pa_nil)))))), ?_⟩
  have tl := tabOf_len R
  refine ⟨_, rfl, a, R, rfl, S, by omega, fun H1 d s1 hd tb => ?_⟩
  refine ⟨_, rfl, d, tabOf R, rfl, tb.at_, by omega, cl, fun H2 s2 => ?_⟩
  refine ⟨_, rfl, iteF ?_⟩
  refine ⟨_, rfl, d, tabOf R, rfl, tb.same s2, by omega, fun H3 p L' s3 hp tb3 sp => ?_⟩
  have nd' : (keys L').Nodup := let ⟨_, _, _, z⟩ := tb3; z
  have ll := tab_len nd' sp.no
  refine ⟨p, L', rfl, tb3.at_, by omega, fun H4 b R' s4 hb hR' lR' lk => ?_⟩
  have s12 := s1.trans s2
  have ef : look (tabOf R') = look L' := funext lk
  refine q H4 b R' (s12.trans (s3.trans s4)) (s12.free (s3.free hb)) hR' (by omega) (by rw [ef]; exact sp) fun n op arg sc z => ?_
  rw [ef] at z
  exact sp.ops cl n op arg sc z
abbrev sfold : Stmt := tp 25
theorem scfold : FnScope ["image", "table"] ["image"] (defScope sfold) := ⟨rfl, rfl, rfl, by decide +kernel, rfl, by decide +kernel, by decide +kernel⟩
theorem c_fold (F : Top K mg "fold" sfold) (T : Txt K mg) (Gtable_of : Cal P w K mg base 2 "table_of" ["image"] (spTab K)) (Gis_closed_table : Cal P w K mg base 4 "is_closed_table" ["table"] spClosed) (G_folded_table : Cal P w K mg base 3 "_folded_table" ["table"] spFoldT)
    (Gwritten : Cal P w K mg base 1 "written" ["table"] spWritten) : Cal P w K mg base 5 "fold" ["image"] (spIm K Pl.FoldSpec 20) := by
  refine F.cal scfold (fun vs H Q E h => ?_) (fun _ _ _ _ _ _ us hl => match us, hl with | [_], _ => rfl) (fun f cdv A outer s H vs Q E hr h => ?_)
  · obtain ⟨a, R, rfl, _⟩ := h
    rfl
  obtain ⟨a, R, rfl, S, hR, cl, q⟩ := h
  have hu := hu_of hr
  refine ⟨_, (pss_cons (ps_set (i := 1) scfold.nd rfl (Or.inl rfl) (pe_c Gtable_of hr (pa_cons (pv 0) pa_nil)))
        (pss_cons (ps_if (pt_not (pt_val (pe_c Gis_closed_table hr (pa_cons (pv 1) pa_nil)))) (pss_one (ps_ret (pe_callTy call_list_of (by rfl) T.list b_list (pa_cons (pv 0) pa_nil)))) pss_nil)
        (pss_one (ps_ret (pe_c Gwritten hr (pa_cons (pe_c G_folded_table hr (pa_cons (pv 1) pa_nil)) pa_nil)))))), ?_⟩
  have tl := tabOf_len R
  refine ⟨_, rfl, a, R, rfl, S, by omega, fun H1 d s1 hd tb => ?_⟩
  refine ⟨_, rfl, d, tabOf R, rfl, tb.at_, by omega, cl, fun H2 s2 => ?_⟩
  refine ⟨_, rfl, iteF ?_⟩
  refine ⟨_, rfl, d, tabOf R, rfl, tb.same s2, by omega, fun H3 p L' s3 hp tb3 sp => ?_⟩
  have nd' : (keys L').Nodup := let ⟨_, _, _, z⟩ := tb3; z
  have ll := tab_len nd' fun n e => by rw [sp n, e]; rfl
  refine ⟨p, L', rfl, tb3.at_, by omega, fun H4 b R' s4 hb hR' lR' lk => ?_⟩
  have s12 := s1.trans s2
  have ef : look (tabOf R') = look L' := funext lk
  refine q H4 b R' (s12.trans (s3.trans s4)) (s12.free (s3.free hb)) hR' (by omega) (by rw [ef]; exact sp) fun n op arg sc z => ?_
  rw [ef] at z
  exact Pl.fold_ops sp cl n op arg sc z
abbrev sprune : Stmt := tp 26
theorem scprune : FnScope ["image", "table"] ["image"] (defScope sprune) := ⟨rfl, rfl, rfl, by decide +kernel, rfl, by decide +kernel, by decide +kernel⟩
theorem c_prune (F : Top K mg "prune" sprune) (T : Txt K mg) (Gtable_of : Cal P w K mg base 2 "table_of" ["image"] (spTab K)) (Gis_closed_table : Cal P w K mg base 4 "is_closed_table" ["table"] spClosed) (G_pruned : Cal P w K mg base 4 "_pruned" ["table"] spPruned)
    (Gwritten : Cal P w K mg base 1 "written" ["table"] spWritten) : Cal P w K mg base 5 "prune" ["image"] (spIm K Pl.PruneSpec 20) := by
  refine F.cal scprune (fun vs H Q E h => ?_) (fun _ _ _ _ _ _ us hl => match us, hl with | [_], _ => rfl) (fun f cdv A outer s H vs Q E hr h => ?_)
  · obtain ⟨a, R, rfl, _⟩ := h
    rfl
  obtain ⟨a, R, rfl, S, hR, cl, q⟩ := h
  have hu := hu_of hr
  refine ⟨_, (pss_cons (ps_set (i := 1) scprune.nd rfl (Or.inl rfl) (pe_c Gtable_of hr (pa_cons (pv 0) pa_nil)))
        (pss_cons (ps_if (pt_not (pt_val (pe_c Gis_closed_table hr (pa_cons (pv 1) pa_nil)))) (pss_one (ps_ret (pe_callTy call_list_of (by rfl) T.list b_list (pa_cons (pv 0) pa_nil)))) pss_nil)
        (pss_one (ps_ret (pe_c Gwritten hr (pa_cons (pe_c G_pruned hr (pa_cons (pv 1) pa_nil)) pa_nil)))))), ?_⟩
  have tl := tabOf_len R
  refine ⟨_, rfl, a, R, rfl, S, by omega, fun H1 d s1 hd tb => ?_⟩
  refine ⟨_, rfl, d, tabOf R, rfl, tb.at_, by omega, cl, fun H2 s2 => ?_⟩
  refine ⟨_, rfl, iteF ?_⟩
  refine ⟨_, rfl, d, tabOf R, rfl, tb.at_.same s2, by omega, fun H3 p L' s3 hp tb3 sp => ?_⟩
  have nd' : (keys L').Nodup := let ⟨_, _, _, z⟩ := tb3; z
  have ll := tab_len nd' fun n e => by
    by_cases z : Pl.Reach (look (tabOf R)) n
    · rw [(sp n).1 z, e]
    · exact (sp n).2 z
  refine ⟨p, L', rfl, tb3.at_, by omega, fun H4 b R' s4 hb hR' lR' lk => ?_⟩
  have s12 := s1.trans s2
  have ef : look (tabOf R') = look L' := funext lk
  refine q H4 b R' (s12.trans (s3.trans s4)) (s12.free (s3.free hb)) hR' (by omega) (by rw [ef]; exact sp) fun n op arg sc z => ?_
  rw [ef] at z
  exact Pl.prune_ops sp cl n op arg sc z
abbrev srenumber : Stmt := tp 27
theorem screnumber : FnScope ["image", "table"] ["image"] (defScope srenumber) := ⟨rfl, rfl, rfl, by decide +kernel, rfl, by decide +kernel, by decide +kernel⟩
theorem c_renumber (F : Top K mg "renumber" srenumber) (T : Txt K mg) (Gtable_of : Cal P w K mg base 2 "table_of" ["image"] (spTab K)) (Gis_closed_table : Cal P w K mg base 4 "is_closed_table" ["table"] spClosed) (Grenumbered : Cal P w K mg base 5 "renumbered" ["table"] spRenum)
    (Gwritten : Cal P w K mg base 1 "written" ["table"] spWritten) : Cal P w K mg base 6 "renumber" ["image"] (spIm K (fun T T' => ∃ nm, Pl.RenumSpec T T' nm) 61) := by
  refine F.cal screnumber (fun vs H Q E h => ?_) (fun _ _ _ _ _ _ us hl => match us, hl with | [_], _ => rfl) (fun f cdv A outer s H vs Q E hr h => ?_)
  · obtain ⟨a, R, rfl, _⟩ := h
    rfl
  obtain ⟨a, R, rfl, S, hR, cl, q⟩ := h
  have hu := hu_of hr
  refine ⟨_, (pss_cons (ps_set (i := 1) screnumber.nd rfl (Or.inl rfl) (pe_c Gtable_of hr (pa_cons (pv 0) pa_nil)))
        (pss_cons (ps_if (pt_not (pt_val (pe_c Gis_closed_table hr (pa_cons (pv 1) pa_nil)))) (pss_one (ps_ret (pe_callTy call_list_of (by rfl) T.list b_list (pa_cons (pv 0) pa_nil)))) pss_nil)
        (pss_one (ps_ret (pe_c Gwritten hr (pa_cons (pe_c Grenumbered hr (pa_cons (pv 1) pa_nil)) pa_nil)))))), ?_⟩
  have tl := tabOf_len R
  refine ⟨_, rfl, a, R, rfl, S, by omega, fun H1 d s1 hd tb => ?_⟩
  refine ⟨_, rfl, d, tabOf R, rfl, tb.at_, by omega, cl, fun H2 s2 => ?_⟩
  refine ⟨_, rfl, iteF ?_⟩
  refine ⟨_, rfl, d, tabOf R, rfl, tb.at_.same s2, by omega, fun H3 p L' nm s3 hp tb3 ll sp => ?_⟩
  have nd' : (keys L').Nodup := let ⟨_, _, _, z⟩ := tb3; z
  have lz := ll
  refine ⟨p, L', rfl, tb3.at_, by omega, fun H4 b R' s4 hb hR' lR' lk => ?_⟩
  have s12 := s1.trans s2
  have ef : look (tabOf R') = look L' := funext lk
  refine q H4 b R' (s12.trans (s3.trans s4)) (s12.free (s3.free hb)) hR' (by omega) (by rw [ef]; exact ⟨nm, sp⟩) fun n op arg sc z => ?_
  rw [ef] at z
  exact Pl.renum_ops sp cl n op arg sc z
abbrev smerge : Stmt := tp 67
theorem scmerge : FnScope ["image", "table"] ["image"] (defScope smerge) := ⟨rfl, rfl, rfl, by decide +kernel, rfl, by decide +kernel, by decide +kernel⟩
theorem c_merge (F : Top K mg "merge" smerge) (T : Txt K mg) (Gtable_of : Cal P w K mg base 2 "table_of" ["image"] (spTab K)) (Gis_closed_table : Cal P w K mg base 4 "is_closed_table" ["table"] spClosed) (Gmerged : Cal P w K mg base 5 "merged" ["table"] spMerged)
    (Gwritten : Cal P w K mg base 1 "written" ["table"] spWritten) : Cal P w K mg base 6 "merge" ["image"] (spIm K (fun T T' => ∃ fo ch, Pl.MergeSpec T T' fo ch) 20) := by
  refine F.cal scmerge (fun vs H Q E h => ?_) (fun _ _ _ _ _ _ us hl => match us, hl with | [_], _ => rfl) (fun f cdv A outer s H vs Q E hr h => ?_)
  · obtain ⟨a, R, rfl, _⟩ := h
    rfl
  obtain ⟨a, R, rfl, S, hR, cl, q⟩ := h
  have hu := hu_of hr
  refine ⟨_, (pss_cons (ps_set (i := 1) scmerge.nd rfl (Or.inl rfl) (pe_c Gtable_of hr (pa_cons (pv 0) pa_nil)))
        (pss_cons (ps_if (pt_not (pt_val (pe_c Gis_closed_table hr (pa_cons (pv 1) pa_nil)))) (pss_one (ps_ret (pe_callTy call_list_of (by rfl) T.list b_list (pa_cons (pv 0) pa_nil)))) pss_nil)
        (pss_one (ps_ret (pe_c Gwritten hr (pa_cons (pe_c Gmerged hr (pa_cons (pv 1) pa_nil)) pa_nil)))))), ?_⟩
  have tl := tabOf_len R
  refine ⟨_, rfl, a, R, rfl, S, by omega, fun H1 d s1 hd tb => ?_⟩
  refine ⟨_, rfl, d, tabOf R, rfl, tb.at_, by omega, cl, fun H2 s2 => ?_⟩
  refine ⟨_, rfl, iteF ?_⟩
  refine ⟨_, rfl, d, tabOf R, rfl, tb.at_.same s2, by omega, fun H3 p L' fo ch s3 hp tb3 sp => ?_⟩
  have nd' : (keys L').Nodup := let ⟨_, _, _, z⟩ := tb3; z
  have ll := tab_len nd' fun n e => by
    by_cases z : Pl.Reach (look (tabOf R)) n ∧ Pl.Kept fo ch n
    · rw [sp.yes n z.1 z.2, e]
      rfl
    · exact sp.no n z
  refine ⟨p, L', rfl, tb3.at_, by omega, fun H4 b R' s4 hb hR' lR' lk => ?_⟩
  have s12 := s1.trans s2
  have ef : look (tabOf R') = look L' := funext lk
  refine q H4 b R' (s12.trans (s3.trans s4)) (s12.free (s3.free hb)) hR' (by omega) (by rw [ef]; exact ⟨fo, ch, sp⟩) fun n op arg sc z => ?_
  rw [ef] at z
  exact Pl.merge_ops sp cl n op arg sc z
abbrev strim : Stmt := tp 28
theorem sctrim : FnScope ["image"] ["image"] (defScope strim) := ⟨rfl, rfl, rfl, by decide +kernel, rfl, by decide +kernel, by decide +kernel⟩
def TrimSpec (k : Nat) (T T' : Pl.Tb) : Prop := ∃ (T1 T2 T3 : Pl.Tb) (nm : Int → Int) (ks ks2 : List Int), Pl.ThreadSpec T T1 ∧ (∀ n v, T n = some v → n ∈ ks) ∧ ks.length ≤ k ∧ Pl.FoldSpec T1 T2 ∧ Pl.ThreadSpec T2 T3 ∧ (∀ n v, T2 n = some v → n ∈ ks2) ∧ ks2.length ≤ k ∧ Pl.RenumSpec T3 T' nm
def spTrim (K : PySem.W.Frag) : Sp := fun vs H Q _ => ∃ (a : Addr) (R : Tl), vs = [.ref a] ∧ SqL K H a ((flat R).map V.int) ∧ R.length ≤ 20 ∧ Clos (tabOf R) ∧
  ∀ (H' : Hp) (p : Addr) (R' : Tl), Same H H' → H p = none → H' p = some (.lst ((flat R').map V.int)) → R'.length ≤ 61 → TrimSpec R.length (look (tabOf R)) (look (tabOf R')) → Clos (tabOf R') → Q (.ref p) H'
theorem c_trim (F : Top K mg "trim" strim) (T : Txt K mg) (Gthread : Cal P w K mg base 7 "thread" ["image"] (spIm K Pl.ThreadSpec 20)) (Gfold : Cal P w K mg base 5 "fold" ["image"] (spIm K Pl.FoldSpec 20)) (Grenumber : Cal P w K mg base 6 "renumber" ["image"] (spIm K (fun T T' => ∃ nm, Pl.RenumSpec T T' nm) 61)) :
    Cal P w K mg base 8 "trim" ["image"] (spTrim K) := by
  refine F.cal sctrim (fun vs H Q E h => ?_) (fun _ _ _ _ _ _ us hl => match us, hl with | [_], _ => rfl) (fun f cdv A outer s H vs Q E hr h => ?_)
  · obtain ⟨a, R, rfl, _⟩ := h
    rfl
  obtain ⟨a, R, rfl, S, hR, cl, q⟩ := h
  have hu := hu_of hr
  refine ⟨_, (pss_one (ps_ret (pe_c Grenumber hr (pa_cons (pe_c Gthread hr (pa_cons (pe_c Gfold hr (pa_cons (pe_c Gthread hr (pa_cons (pv 0) pa_nil)) pa_nil)) pa_nil)) pa_nil)))), ?_⟩
  refine ⟨_, rfl, a, R, rfl, S, hR, cl, fun H1 p1 R1 s1 h1 hR1 l1 sp1 cl1 => ?_⟩
  refine ⟨p1, R1, rfl, SqL.of hR1, l1, cl1, fun H2 p2 R2 s2 h2 hR2 l2 sp2 cl2 => ?_⟩
  refine ⟨p2, R2, rfl, SqL.of hR2, l2, cl2, fun H3 p3 R3 s3 h3 hR3 l3 sp3 cl3 => ?_⟩
  refine ⟨p3, R3, rfl, SqL.of hR3, l3, cl3, fun H4 p4 R4 s4 h4 hR4 l4 sp4 cl4 => ?_⟩
  obtain ⟨nm, sp4⟩ := sp4
  have kl : ∀ R : Tl, (keys (tabOf R)).length ≤ R.length := fun R => by
    unfold keys
    rw [List.length_map]
    exact tabOf_len R
  refine q H4 p4 R4 (s1.trans (s2.trans (s3.trans s4))) (s1.free (s2.free (s3.free h4))) hR4 l4 ⟨_, _, _, nm, keys (tabOf R), keys (tabOf R), sp1, fun n v e => look_mem e, kl R, sp2, sp3, fun n v e => ?_, kl R, sp4⟩ cl4
  cases e1 : look (tabOf R1) n with
  | none =>
    rw [sp2 n, e1] at e
    cases e
  | some v1 =>
    cases e0 : look (tabOf R) n with
    | none =>
      rw [sp1.no n e0] at e1
      cases e1
    | some v0 => exact look_mem e0
end Zw
namespace Zw
open PySem PySem.Spec PyProof.Rows L2 PH
variable {P : Program} {w : World} {K : PySem.W.Frag} {mg : Str → Option Value} {base : Heap}
def tCallH (P : Program) (w : World) (K : PySem.W.Frag) (mg : Str → Option Value) (base : Heap) (k i : Nat) (t : TA) : TE := fun σ H Q => ∃ f sp, σ[i]? = some (some (.ref f)) ∧ Held P w K mg base k f sp ∧ t σ H fun vs H1 => sp vs H1 Q (fun _ _ _ => False)
theorem pe_callH {X : Cx} {k j i : Nat} {x : Str} {p pos : Pos} {e : Expr} {es : List Expr} {t : TA} (hr : Room k X.A) (hj : j ≤ k) (hN : X.N[i]? = some x) (hv : Vis X.env.scope x) (ha : PA X (e :: es) t)
    (hdb : (x == ("__debug__" : Str)) = false := by decide) (hcd : (x == ("__classdict__" : Str)) = false := by decide)
    (he : starEach (e :: es) X.env = (false, eval e X.env) :: starEach es X.env := by rfl) (hpl : (backTo pos (starEach es X.env)).any (·.1) = false := by rfl) :
    PE X (.Call (.Name x p) (e :: es) [] pos) (tCallH X.prog X.w X.K X.mg X.base j i t) := by
  refine ⟨fun pins s σ H Q I h => ?_⟩
  obtain ⟨f, sp, hs, hA, ht⟩ := h
  classical
  refine (pe_callA (i := i) (S := fun a => if a = f then some sp else none) (fun a sp' ha' => ?_) (hr.mono hj) hN hv ha hdb hcd he hpl).run pins s σ H Q I ⟨f, sp, hs, if_pos rfl, ht⟩
  have ha' : (if a = f then some sp else none) = some sp' := ha'
  by_cases z : a = f
  · rw [if_pos z] at ha'
    cases ha'
    rw [z]
    exact hA
  · rw [if_neg z] at ha'
    cases ha'
theorem Cal.held {j : Nat} {x : Str} {ps : List Str} {sp : Sp} {f : Addr} (G : Cal P w K mg base j x ps sp) (h : mg x = some (.ref f)) : Held P w K mg base j f sp := by
  obtain ⟨f', fd, F, hm, hk, hb⟩ := G.ex
  have e := h.symm.trans hm
  cases e
  exact ⟨fd, ps, F, hk, hb⟩
/-- a method keeps its promise -/
theorem m_ok {m qual : Str} {st : Stmt} {N ps : List Str} {k : Nat} {sp : Sp} {f : Addr} {fd : FuncData} (F : FunD K m qual (defArgs st) (defBody st) (defScope st) [] [] f fd) (S : FnScope N ps (defScope st)) (len : ∀ vs H Q E, sp vs H Q E → vs.length = ps.length)
    (body : ∀ (cdv : Value) (A : Around) (outer : List Env) (s : Shared) (H : Hp) (vs : List V) (Q : VK) (E : XK), Room k (A.deeper (envOfC qual (defScope st) s.heap.objs.size f cdv)) → sp vs H Q E →
      ∃ t, PSs (cxOf CX0 P w K mg base N qual (defScope st) f cdv A outer s H E).nox (defBody st) t ∧ t { nx := fun _ H' => Q .non H', rt := Q } (start N vs) H) : FnOk P w K mg base CX0 (k + 1) f fd ps sp :=
  F.ok S len fun cdv A outer s H vs Q E hr h => by
    obtain ⟨t, a, b⟩ := body cdv A outer s H vs Q E hr h
    exact ⟨t, a.nox, b⟩
structure Cfg where
  p : Addr
  dx : Addr
  im : Addr
  nu : Addr
  tb : Addr
  sk : Addr
  so : Addr
  bk : Addr
  ou : Addr
def flds (c : Cfg) (a : Int) (pl n : Nat) : List (Str × V) := [("image", .ref c.im), ("numbers", .ref c.nu), ("table", .ref c.tb), ("at", .int a), ("stack", .ref c.sk), ("store", .ref c.so), ("back", .ref c.bk), ("place", .int pl), ("output", .ref c.ou), ("steps", .int n)]
structure Cf (K : PySem.W.Frag) (Hf : Hp) (c : Cfg) (L : Tl) (nums : List Int) : Prop where
  p0 : Hf c.p = none
  sk0 : Hf c.sk = none
  so0 : Hf c.so = none
  bk0 : Hf c.bk = none
  ou0 : Hf c.ou = none
  psk : c.p ≠ c.sk
  pso : c.p ≠ c.so
  pbk : c.p ≠ c.bk
  pou : c.p ≠ c.ou
  skso : c.sk ≠ c.so
  skbk : c.sk ≠ c.bk
  skou : c.sk ≠ c.ou
  sobk : c.so ≠ c.bk
  soou : c.so ≠ c.ou
  bkou : c.bk ≠ c.ou
  tab : TabAt Hf c.tb L
  num : SqL K Hf c.nu (nums.map V.int)
structure St (K : PySem.W.Frag) (Hf : Hp) (c : Cfg) (H : Hp) (a : Int) (sk : List Int) (so : List (Int × Int)) (bk : List Int) (pl : Nat) (ou : List Int) (n : Nat) : Prop where
  fr : Same Hf H
  ins : H c.p = some (.ins (He.ga K "State") c.dx (flds c a pl n))
  hsk : H c.sk = some (.lst (sk.map V.int))
  hso : H c.so = some (.dK (intD so))
  hbk : H c.bk = some (.lst (bk.map V.int))
  hou : H c.ou = some (.lst (ou.map V.int))
  nd : (so.map (·.1)).Nodup
section
variable {Hf H : Hp} {c : Cfg} {L : Tl} {nums : List Int} {a : Int} {sk bk ou : List Int} {so : List (Int × Int)} {pl n : Nat}
theorem St.F (C : Cf K Hf c L nums) (h : St K Hf c H a sk so bk pl ou n) (a' : Int) (pl' n' : Nat) : St K Hf c (upd H c.p (.ins (He.ga K "State") c.dx (flds c a' pl' n'))) a' sk so bk pl' ou n' :=
  ⟨Same.mut h.fr C.p0, upd_same, (upd_ne C.psk.symm).trans h.hsk, (upd_ne C.pso.symm).trans h.hso, (upd_ne C.pbk.symm).trans h.hbk, (upd_ne C.pou.symm).trans h.hou, h.nd⟩
theorem St.S (C : Cf K Hf c L nums) (h : St K Hf c H a sk so bk pl ou n) (sk' : List Int) : St K Hf c (upd H c.sk (.lst (sk'.map V.int))) a sk' so bk pl ou n :=
  ⟨Same.mut h.fr C.sk0, (upd_ne C.psk).trans h.ins, upd_same, (upd_ne C.skso.symm).trans h.hso, (upd_ne C.skbk.symm).trans h.hbk, (upd_ne C.skou.symm).trans h.hou, h.nd⟩
theorem St.B (C : Cf K Hf c L nums) (h : St K Hf c H a sk so bk pl ou n) (bk' : List Int) : St K Hf c (upd H c.bk (.lst (bk'.map V.int))) a sk so bk' pl ou n :=
  ⟨Same.mut h.fr C.bk0, (upd_ne C.pbk).trans h.ins, (upd_ne C.skbk).trans h.hsk, (upd_ne C.sobk).trans h.hso, upd_same, (upd_ne C.bkou.symm).trans h.hou, h.nd⟩
theorem St.O (C : Cf K Hf c L nums) (h : St K Hf c H a sk so bk pl ou n) (ou' : List Int) : St K Hf c (upd H c.ou (.lst (ou'.map V.int))) a sk so bk pl ou' n :=
  ⟨Same.mut h.fr C.ou0, (upd_ne C.pou).trans h.ins, (upd_ne C.skou).trans h.hsk, (upd_ne C.soou).trans h.hso, (upd_ne C.bkou).trans h.hbk, upd_same, h.nd⟩
theorem St.D (C : Cf K Hf c L nums) (h : St K Hf c H a sk so bk pl ou n) (k v : Int) : St K Hf c (upd H c.so (.dK (intD (Pl.sput so k v)))) a sk (Pl.sput so k v) bk pl ou n :=
  ⟨Same.mut h.fr C.so0, (upd_ne C.pso).trans h.ins, (upd_ne C.skso).trans h.hsk, upd_same, (upd_ne C.sobk.symm).trans h.hbk, (upd_ne C.soou.symm).trans h.hou, sput_nd h.nd k v⟩
/-- something new -/
theorem St.N (h : St K Hf c H a sk so bk pl ou n) {u : Addr} {o : HO} (hu : H u = none) : St K Hf c (upd H u o) a sk so bk pl ou n :=
  ⟨h.fr.trans (Same.new hu), (upd_ne (ne_of_none h.ins hu)).trans h.ins, (upd_ne (ne_of_none h.hsk hu)).trans h.hsk, (upd_ne (ne_of_none h.hso hu)).trans h.hso, (upd_ne (ne_of_none h.hbk hu)).trans h.hbk, (upd_ne (ne_of_none h.hou hu)).trans h.hou, h.nd⟩
theorem pf_at (v : Int) : putF "at" (.int v) (flds c a pl n) = flds c v pl n := rfl
theorem pf_pl (v : Nat) : putF "place" (.int v) (flds c a pl n) = flds c a v n := rfl
theorem pf_st (v : Nat) : putF "steps" (.int v) (flds c a pl n) = flds c a pl v := rfl
end
def spPull (K : PySem.W.Frag) : Sp := fun vs H Q _ => ∃ (Hf : Hp) (c : Cfg) (L : Tl) (nums : List Int) (a : Int) (sk : List Int) (so : List (Int × Int)) (bk : List Int) (pl : Nat) (ou : List Int) (n : Nat), Cf K Hf c L nums ∧ vs = [.ref c.p] ∧ St K Hf c H a sk so bk pl ou n ∧
  ∀ H', St K Hf c H' a sk.dropLast so bk pl ou n → Q (.int (Pl.top sk)) H'
abbrev spull : Stmt := inClass (tp 59) 1
theorem scpull : FnScope ["self"] ["self"] (defScope spull) := ⟨rfl, rfl, rfl, by decide +kernel, rfl, by decide +kernel, by decide +kernel⟩
theorem ok_pull {f : Addr} {fd : FuncData} (F : FunD K "pull" "State.pull" (defArgs spull) (defBody spull) (defScope spull) [] [] f fd) (T : Txt K mg) : FnOk P w K mg base CX0 1 f fd ["self"] (spPull K) := by
  refine m_ok F scpull (fun vs H Q E h => ?_) (fun cdv A outer s H vs Q E hr h => ?_)
  · obtain ⟨Hf, c, L, nums, a, sk, so, bk, pl, ou, n, C, rfl, _⟩ := h
    rfl
  obtain ⟨Hf, c, L, nums, a, sk, so, bk, pl, ou, n, C, rfl, h, q⟩ := h
  refine ⟨_, (pss_cons (ps_if (pt_truth (pe_fld (pv 0) rfl) (by intro _; rfl)) (pss_one (ps_ret (pe_bm0 PySem.F.plainAttrs_list PySem.F.slot_list_pop PySem.F.type_list_pop mt_pop (pe_fld (pv 0) rfl)))) pss_nil)
        (pss_one (ps_ret pe_int))), ?_⟩
  refine ⟨_, rfl, _, _, _, _, _, rfl, h.ins, T.cl, T.noat "stack" (by decide +kernel), rfl, _, .inl ⟨_, SqL.of h.hsk, rfl⟩, ?_⟩
  cases e : sk with
  | nil =>
    refine iteF ?_
    have := q H
    rw [e] at this h
    exact this h
  | cons x r =>
    refine iteT ?_
    refine ⟨_, rfl, _, _, _, _, _, rfl, h.ins, T.cl, T.noat "stack" (by decide +kernel), rfl, .inl ⟨rfl, _, SqL.of h.hsk⟩, _, _, .int (Pl.top sk), rfl, rfl, h.hsk, ?_, ?_⟩
    · rw [List.length_map, List.getElem?_map]
      unfold Pl.top
      rw [List.getLast?_eq_getElem?]
      have hl : sk.length - 1 < sk.length := by
        rw [e, List.length_cons]
        omega
      rw [List.getElem?_eq_getElem hl]
      rfl
    · rw [← List.map_dropLast]
      exact q _ (h.S C _)
end Zw
namespace Zw
open PySem PySem.Spec PyProof.Rows L2 PH
variable {P : Program} {w : World} {K : PySem.W.Frag} {mg : Str → Option Value} {base : Heap}
abbrev StM (K : PySem.W.Frag) (Hf : Hp) (c : Cfg) (H : Hp) (m : Pl.MS) (n : Nat) : Prop := St K Hf c H m.at_ m.d.stack m.d.store m.back m.d.place m.d.output n
def spDeed (K : PySem.W.Frag) (op : Int) : Sp := fun vs H Q _ => ∃ (Hf : Hp) (c : Cfg) (L : Tl) (nums : List Int) (a : Int) (sk : List Int) (so : List (Int × Int)) (bk : List Int) (pl : Nat) (ou : List Int) (n : Nat) (arg : Int), Cf K Hf c L nums ∧ vs = [.ref c.p, .int arg] ∧ St K Hf c H a sk so bk pl ou n ∧
  sk.length ≤ 20000 ∧ bk.length ≤ 20000 ∧ so.length ≤ 20000 ∧ ou.length ≤ 20000 ∧ ∀ H', StM K Hf c H' (Pl.act (look L) nums op arg ⟨a, bk, ⟨sk, so, pl, ou⟩⟩) n → Q .non H'
theorem ap (xs : List Int) (v : Int) : xs.map V.int ++ [V.int v] = (xs ++ [v]).map V.int := by rw [List.map_append]; rfl
theorem ap2 (xs : List Int) (v u : Int) : xs.map V.int ++ [V.int v, V.int u] = (xs ++ [v, u]).map V.int := by rw [List.map_append]; rfl
theorem dei (x y : Int) : decide (V.int x = V.int y) = decide (x = y) := by
  by_cases h : x = y
  · rw [decide_eq_true h, decide_eq_true (congrArg V.int h)]
  · rw [decide_eq_false h, decide_eq_false fun z => h (V.int.inj z)]
theorem sgo (S : List (Int × Int)) (k : Int) : ((Pl.slook S k).map V.int).getD (.int 0) = V.int (Pl.sget S k) := by
  rw [Pl.sget_look]
  cases Pl.slook S k <;> rfl
section
variable {Tt : Pl.Tb} {nums : List Int} {a arg : Int} {sk bk ou : List Int} {so : List (Int × Int)} {pl : Nat}
theorem act_push : Pl.act Tt nums 35 arg ⟨a, bk, ⟨sk, so, pl, ou⟩⟩ = ⟨a, bk, ⟨sk ++ [arg], so, pl, ou⟩⟩ := rfl
theorem act_plus : Pl.act Tt nums 43 arg ⟨a, bk, ⟨sk, so, pl, ou⟩⟩ = ⟨a, bk, ⟨sk.dropLast.dropLast ++ [Pl.top sk.dropLast + Pl.top sk], so, pl, ou⟩⟩ := rfl
theorem act_minus : Pl.act Tt nums 45 arg ⟨a, bk, ⟨sk, so, pl, ou⟩⟩ = ⟨a, bk, ⟨sk.dropLast.dropLast ++ [Pl.top sk.dropLast - Pl.top sk], so, pl, ou⟩⟩ := rfl
theorem act_digit : Pl.act Tt nums 42 arg ⟨a, bk, ⟨sk, so, pl, ou⟩⟩ = ⟨a, bk, ⟨sk.dropLast.dropLast ++ [10 * Pl.top sk.dropLast + Pl.top sk], so, pl, ou⟩⟩ := rfl
theorem act_less : Pl.act Tt nums 60 arg ⟨a, bk, ⟨sk, so, pl, ou⟩⟩ = ⟨a, bk, ⟨sk.dropLast.dropLast ++ [Pl.b2 (decide (Pl.top sk.dropLast < Pl.top sk))], so, pl, ou⟩⟩ := rfl
theorem act_same : Pl.act Tt nums 126 arg ⟨a, bk, ⟨sk, so, pl, ou⟩⟩ = ⟨a, bk, ⟨sk.dropLast.dropLast ++ [Pl.b2 (decide (Pl.top sk.dropLast = Pl.top sk))], so, pl, ou⟩⟩ := rfl
theorem act_load : Pl.act Tt nums 64 arg ⟨a, bk, ⟨sk, so, pl, ou⟩⟩ = ⟨a, bk, ⟨sk.dropLast ++ [Pl.sget so (Pl.top sk)], so, pl, ou⟩⟩ := rfl
theorem act_keep : Pl.act Tt nums 33 arg ⟨a, bk, ⟨sk, so, pl, ou⟩⟩ = ⟨a, bk, ⟨sk.dropLast.dropLast, Pl.sput so (Pl.top sk) (Pl.top sk.dropLast), pl, ou⟩⟩ := rfl
theorem act_assign : Pl.act Tt nums 61 arg ⟨a, bk, ⟨sk, so, pl, ou⟩⟩ = ⟨a, bk, ⟨sk.dropLast, Pl.sput so arg (Pl.top sk), pl, ou⟩⟩ := rfl
theorem act_rewind : Pl.act Tt nums 94 arg ⟨a, bk, ⟨sk, so, pl, ou⟩⟩ = ⟨a, bk, ⟨sk, so, 0, ou⟩⟩ := rfl
theorem act_emit : Pl.act Tt nums 46 arg ⟨a, bk, ⟨sk, so, pl, ou⟩⟩ = ⟨a, bk, ⟨sk.dropLast, so, pl, ou ++ [Pl.top sk]⟩⟩ := rfl
theorem act_drop : Pl.act Tt nums 95 arg ⟨a, bk, ⟨sk, so, pl, ou⟩⟩ = ⟨a, bk, ⟨sk.dropLast, so, pl, ou⟩⟩ := rfl
theorem act_double : Pl.act Tt nums 34 arg ⟨a, bk, ⟨sk, so, pl, ou⟩⟩ = ⟨a, bk, ⟨sk.dropLast ++ [Pl.top sk, Pl.top sk], so, pl, ou⟩⟩ := by
  show (⟨a, bk, ⟨(_ ++ [_]) ++ [_], so, pl, ou⟩⟩ : Pl.MS) = _
  rw [List.append_assoc]
  rfl
theorem act_exchange : Pl.act Tt nums 92 arg ⟨a, bk, ⟨sk, so, pl, ou⟩⟩ = ⟨a, bk, ⟨sk.dropLast.dropLast ++ [Pl.top sk, Pl.top sk.dropLast], so, pl, ou⟩⟩ := by
  show (⟨a, bk, ⟨(_ ++ [_]) ++ [_], so, pl, ou⟩⟩ : Pl.MS) = _
  rw [List.append_assoc]
  rfl
end
abbrev s_push : Stmt := tp 38
theorem sc_push : FnScope ["state", "argument"] ["state", "argument"] (defScope s_push) := ⟨rfl, rfl, rfl, by decide +kernel, rfl, by decide +kernel, by decide +kernel⟩
theorem c__push (F : Top K mg "_push" s_push) (T : Txt K mg) {fdp : FuncData} (Gpull : FnOk P w K mg base CX0 1 (He.ma K (He.ga K "State") "pull") fdp ["self"] (spPull K)) (bpull : Binds K fdp ["self"] []) : Cal P w K mg base 2 "_push" ["state", "argument"] (spDeed K 35) := by
  refine F.cal sc_push (fun vs H Q E h => ?_) (fun _ _ _ _ _ _ us hl => match us, hl with | [_, _], _ => rfl) (fun f cdv A outer s H vs Q E hr h => ?_)
  · obtain ⟨Hf, c, L, nums, a, sk, so, bk, pl, ou, n, arg, C, rfl, _⟩ := h
    rfl
  obtain ⟨Hf, c, L, nums, a, sk, so, bk, pl, ou, n, arg, C, rfl, h, l1, l2, l3, l4, q⟩ := h
  have hu := hu_of hr
  refine ⟨_, (pss_one (ps_expr (pe_bm PySem.F.plainAttrs_list PySem.F.slot_list_append PySem.F.type_list_append mt_append (pe_fld (pv 0) rfl) (pa_cons (pv 1) pa_nil)))), ?_⟩
  rw [act_push] at q
  refine ⟨_, rfl, _, _, _, _, _, rfl, h.ins, T.cl, T.noat "stack" (by decide +kernel), rfl, .inl ⟨rfl, _, SqL.of h.hsk⟩, _, rfl, _, _, _, rfl, rfl, h.hsk, (by rw [List.length_map]; first | (simp only [List.length_dropLast]; exact Nat.lt_of_le_of_lt (show _ ≤ 20000 by omega) (by decide)) | exact Nat.lt_of_le_of_lt (show _ ≤ 20000 by omega) (by decide)), ?_⟩
  rw [ap]
  exact q _ (h.S C _)
abbrev s_plus : Stmt := tp 39
theorem sc_plus : FnScope ["state", "argument", "second"] ["state", "argument"] (defScope s_plus) := ⟨rfl, rfl, rfl, by decide +kernel, rfl, by decide +kernel, by decide +kernel⟩
theorem c__plus (F : Top K mg "_plus" s_plus) (T : Txt K mg) {fdp : FuncData} (Gpull : FnOk P w K mg base CX0 1 (He.ma K (He.ga K "State") "pull") fdp ["self"] (spPull K)) (bpull : Binds K fdp ["self"] []) : Cal P w K mg base 2 "_plus" ["state", "argument"] (spDeed K 43) := by
  refine F.cal sc_plus (fun vs H Q E h => ?_) (fun _ _ _ _ _ _ us hl => match us, hl with | [_, _], _ => rfl) (fun f cdv A outer s H vs Q E hr h => ?_)
  · obtain ⟨Hf, c, L, nums, a, sk, so, bk, pl, ou, n, arg, C, rfl, _⟩ := h
    rfl
  obtain ⟨Hf, c, L, nums, a, sk, so, bk, pl, ou, n, arg, C, rfl, h, l1, l2, l3, l4, q⟩ := h
  have hu := hu_of hr
  refine ⟨_, (pss_cons (ps_set (i := 2) sc_plus.nd rfl (Or.inl rfl) (pe_meth0 (pv 0) T.cl T.m_pull Gpull (hr.mono (by decide)) bpull .nil pass0))
        (pss_one (ps_expr (pe_bm PySem.F.plainAttrs_list PySem.F.slot_list_append PySem.F.type_list_append mt_append (pe_fld (pv 0) rfl) (pa_cons (pe_op op_add (pe_meth0 (pv 0) T.cl T.m_pull Gpull (hr.mono (by decide)) bpull .nil pass0) (pv 2)) pa_nil))))), ?_⟩
  rw [act_plus] at q
  refine ⟨_, rfl, _, _, _, rfl, h.ins, rfl, Hf, c, L, nums, a, sk, so, bk, pl, ou, n, C, rfl, h, fun H1 h1 => ?_⟩
  refine ⟨_, rfl, _, _, _, _, _, rfl, h1.ins, T.cl, T.noat "stack" (by decide +kernel), rfl, .inl ⟨rfl, _, SqL.of h1.hsk⟩, _, rfl, _, _, _, rfl, h1.ins, rfl, Hf, c, L, nums, a, sk.dropLast, so, bk, pl, ou, n, C, rfl, h1, fun H2 h2 => ?_⟩
  refine ⟨_, rfl, _, _, rfl, rfl, _, _, _, rfl, rfl, h2.hsk, (by rw [List.length_map]; first | (simp only [List.length_dropLast]; exact Nat.lt_of_le_of_lt (show _ ≤ 20000 by omega) (by decide)) | exact Nat.lt_of_le_of_lt (show _ ≤ 20000 by omega) (by decide)), ?_⟩
  rw [ap]
  exact q _ (h2.S C _)
abbrev s_minus : Stmt := tp 40
theorem sc_minus : FnScope ["state", "argument", "second"] ["state", "argument"] (defScope s_minus) := ⟨rfl, rfl, rfl, by decide +kernel, rfl, by decide +kernel, by decide +kernel⟩
theorem c__minus (F : Top K mg "_minus" s_minus) (T : Txt K mg) {fdp : FuncData} (Gpull : FnOk P w K mg base CX0 1 (He.ma K (He.ga K "State") "pull") fdp ["self"] (spPull K)) (bpull : Binds K fdp ["self"] []) : Cal P w K mg base 2 "_minus" ["state", "argument"] (spDeed K 45) := by
  refine F.cal sc_minus (fun vs H Q E h => ?_) (fun _ _ _ _ _ _ us hl => match us, hl with | [_, _], _ => rfl) (fun f cdv A outer s H vs Q E hr h => ?_)
  · obtain ⟨Hf, c, L, nums, a, sk, so, bk, pl, ou, n, arg, C, rfl, _⟩ := h
    rfl
  obtain ⟨Hf, c, L, nums, a, sk, so, bk, pl, ou, n, arg, C, rfl, h, l1, l2, l3, l4, q⟩ := h
  have hu := hu_of hr
  refine ⟨_, (pss_cons (ps_set (i := 2) sc_minus.nd rfl (Or.inl rfl) (pe_meth0 (pv 0) T.cl T.m_pull Gpull (hr.mono (by decide)) bpull .nil pass0))
        (pss_one (ps_expr (pe_bm PySem.F.plainAttrs_list PySem.F.slot_list_append PySem.F.type_list_append mt_append (pe_fld (pv 0) rfl) (pa_cons (pe_op op_sub (pe_meth0 (pv 0) T.cl T.m_pull Gpull (hr.mono (by decide)) bpull .nil pass0) (pv 2)) pa_nil))))), ?_⟩
  rw [act_minus] at q
  refine ⟨_, rfl, _, _, _, rfl, h.ins, rfl, Hf, c, L, nums, a, sk, so, bk, pl, ou, n, C, rfl, h, fun H1 h1 => ?_⟩
  refine ⟨_, rfl, _, _, _, _, _, rfl, h1.ins, T.cl, T.noat "stack" (by decide +kernel), rfl, .inl ⟨rfl, _, SqL.of h1.hsk⟩, _, rfl, _, _, _, rfl, h1.ins, rfl, Hf, c, L, nums, a, sk.dropLast, so, bk, pl, ou, n, C, rfl, h1, fun H2 h2 => ?_⟩
  refine ⟨_, rfl, _, _, rfl, rfl, _, _, _, rfl, rfl, h2.hsk, (by rw [List.length_map]; first | (simp only [List.length_dropLast]; exact Nat.lt_of_le_of_lt (show _ ≤ 20000 by omega) (by decide)) | exact Nat.lt_of_le_of_lt (show _ ≤ 20000 by omega) (by decide)), ?_⟩
  rw [ap]
  exact q _ (h2.S C _)
abbrev s_digit : Stmt := tp 41
theorem sc_digit : FnScope ["state", "argument", "second"] ["state", "argument"] (defScope s_digit) := ⟨rfl, rfl, rfl, by decide +kernel, rfl, by decide +kernel, by decide +kernel⟩
theorem c__digit (F : Top K mg "_digit" s_digit) (T : Txt K mg) {fdp : FuncData} (Gpull : FnOk P w K mg base CX0 1 (He.ma K (He.ga K "State") "pull") fdp ["self"] (spPull K)) (bpull : Binds K fdp ["self"] []) : Cal P w K mg base 2 "_digit" ["state", "argument"] (spDeed K 42) := by
  refine F.cal sc_digit (fun vs H Q E h => ?_) (fun _ _ _ _ _ _ us hl => match us, hl with | [_, _], _ => rfl) (fun f cdv A outer s H vs Q E hr h => ?_)
  · obtain ⟨Hf, c, L, nums, a, sk, so, bk, pl, ou, n, arg, C, rfl, _⟩ := h
    rfl
  obtain ⟨Hf, c, L, nums, a, sk, so, bk, pl, ou, n, arg, C, rfl, h, l1, l2, l3, l4, q⟩ := h
  have hu := hu_of hr
  refine ⟨_, (pss_cons (ps_set (i := 2) sc_digit.nd rfl (Or.inl rfl) (pe_meth0 (pv 0) T.cl T.m_pull Gpull (hr.mono (by decide)) bpull .nil pass0))
        (pss_one (ps_expr (pe_bm PySem.F.plainAttrs_list PySem.F.slot_list_append PySem.F.type_list_append mt_append (pe_fld (pv 0) rfl) (pa_cons (pe_op op_add (pe_op op_mul pe_int (pe_meth0 (pv 0) T.cl T.m_pull Gpull (hr.mono (by decide)) bpull .nil pass0)) (pv 2)) pa_nil))))), ?_⟩
  rw [act_digit] at q
  refine ⟨_, rfl, _, _, _, rfl, h.ins, rfl, Hf, c, L, nums, a, sk, so, bk, pl, ou, n, C, rfl, h, fun H1 h1 => ?_⟩
  refine ⟨_, rfl, _, _, _, _, _, rfl, h1.ins, T.cl, T.noat "stack" (by decide +kernel), rfl, .inl ⟨rfl, _, SqL.of h1.hsk⟩, _, rfl, _, _, _, rfl, h1.ins, rfl, Hf, c, L, nums, a, sk.dropLast, so, bk, pl, ou, n, C, rfl, h1, fun H2 h2 => ?_⟩
  refine ⟨_, _, rfl, rfl, .inl ⟨by decide, by decide⟩, _, rfl, _, _, rfl, rfl, _, _, _, rfl, rfl, h2.hsk, (by rw [List.length_map]; first | (simp only [List.length_dropLast]; exact Nat.lt_of_le_of_lt (show _ ≤ 20000 by omega) (by decide)) | exact Nat.lt_of_le_of_lt (show _ ≤ 20000 by omega) (by decide)), ?_⟩
  rw [ap]
  exact q _ (h2.S C _)
abbrev s_less : Stmt := tp 42
theorem sc_less : FnScope ["state", "argument", "second"] ["state", "argument"] (defScope s_less) := ⟨rfl, rfl, rfl, by decide +kernel, rfl, by decide +kernel, by decide +kernel⟩
theorem c__less (F : Top K mg "_less" s_less) (T : Txt K mg) {fdp : FuncData} (Gpull : FnOk P w K mg base CX0 1 (He.ma K (He.ga K "State") "pull") fdp ["self"] (spPull K)) (bpull : Binds K fdp ["self"] []) : Cal P w K mg base 2 "_less" ["state", "argument"] (spDeed K 60) := by
  refine F.cal sc_less (fun vs H Q E h => ?_) (fun _ _ _ _ _ _ us hl => match us, hl with | [_, _], _ => rfl) (fun f cdv A outer s H vs Q E hr h => ?_)
  · obtain ⟨Hf, c, L, nums, a, sk, so, bk, pl, ou, n, arg, C, rfl, _⟩ := h
    rfl
  obtain ⟨Hf, c, L, nums, a, sk, so, bk, pl, ou, n, arg, C, rfl, h, l1, l2, l3, l4, q⟩ := h
  have hu := hu_of hr
  refine ⟨_, (pss_cons (ps_set (i := 2) sc_less.nd rfl (Or.inl rfl) (pe_meth0 (pv 0) T.cl T.m_pull Gpull (hr.mono (by decide)) bpull .nil pass0))
        (pss_one (ps_expr (pe_bm PySem.F.plainAttrs_list PySem.F.slot_list_append PySem.F.type_list_append mt_append (pe_fld (pv 0) rfl) (pa_cons (pe_callTy call_int1 (by rfl) T.int b_int (pa_cons (pe_cmpR op_lt (pe_meth0 (pv 0) T.cl T.m_pull Gpull (hr.mono (by decide)) bpull .nil pass0) (pv 2) (nomark _)) pa_nil)) pa_nil))))), ?_⟩
  rw [act_less] at q
  refine ⟨_, rfl, _, _, _, rfl, h.ins, rfl, Hf, c, L, nums, a, sk, so, bk, pl, ou, n, C, rfl, h, fun H1 h1 => ?_⟩
  refine ⟨_, rfl, _, _, _, _, _, rfl, h1.ins, T.cl, T.noat "stack" (by decide +kernel), rfl, .inl ⟨rfl, _, SqL.of h1.hsk⟩, _, rfl, _, _, _, rfl, h1.ins, rfl, Hf, c, L, nums, a, sk.dropLast, so, bk, pl, ou, n, C, rfl, h1, fun H2 h2 => ?_⟩
  refine ⟨_, rfl, _, _, rfl, rfl, .inr ⟨_, rfl, ?_⟩⟩
  refine ⟨_, _, _, rfl, rfl, h2.hsk, (by rw [List.length_map]; first | (simp only [List.length_dropLast]; exact Nat.lt_of_le_of_lt (show _ ≤ 20000 by omega) (by decide)) | exact Nat.lt_of_le_of_lt (show _ ≤ 20000 by omega) (by decide)), ?_⟩
  rw [ap]
  exact q _ (h2.S C _)
abbrev s_same : Stmt := tp 43
theorem sc_same : FnScope ["state", "argument", "second"] ["state", "argument"] (defScope s_same) := ⟨rfl, rfl, rfl, by decide +kernel, rfl, by decide +kernel, by decide +kernel⟩
theorem c__same (F : Top K mg "_same" s_same) (T : Txt K mg) {fdp : FuncData} (Gpull : FnOk P w K mg base CX0 1 (He.ma K (He.ga K "State") "pull") fdp ["self"] (spPull K)) (bpull : Binds K fdp ["self"] []) : Cal P w K mg base 2 "_same" ["state", "argument"] (spDeed K 126) := by
  refine F.cal sc_same (fun vs H Q E h => ?_) (fun _ _ _ _ _ _ us hl => match us, hl with | [_, _], _ => rfl) (fun f cdv A outer s H vs Q E hr h => ?_)
  · obtain ⟨Hf, c, L, nums, a, sk, so, bk, pl, ou, n, arg, C, rfl, _⟩ := h
    rfl
  obtain ⟨Hf, c, L, nums, a, sk, so, bk, pl, ou, n, arg, C, rfl, h, l1, l2, l3, l4, q⟩ := h
  have hu := hu_of hr
  refine ⟨_, (pss_cons (ps_set (i := 2) sc_same.nd rfl (Or.inl rfl) (pe_meth0 (pv 0) T.cl T.m_pull Gpull (hr.mono (by decide)) bpull .nil pass0))
        (pss_one (ps_expr (pe_bm PySem.F.plainAttrs_list PySem.F.slot_list_append PySem.F.type_list_append mt_append (pe_fld (pv 0) rfl) (pa_cons (pe_callTy call_int1 (by rfl) T.int b_int (pa_cons (pe_cmpR op_eq (pe_meth0 (pv 0) T.cl T.m_pull Gpull (hr.mono (by decide)) bpull .nil pass0) (pv 2) (nomark _)) pa_nil)) pa_nil))))), ?_⟩
  rw [act_same] at q
  refine ⟨_, rfl, _, _, _, rfl, h.ins, rfl, Hf, c, L, nums, a, sk, so, bk, pl, ou, n, C, rfl, h, fun H1 h1 => ?_⟩
  refine ⟨_, rfl, _, _, _, _, _, rfl, h1.ins, T.cl, T.noat "stack" (by decide +kernel), rfl, .inl ⟨rfl, _, SqL.of h1.hsk⟩, _, rfl, _, _, _, rfl, h1.ins, rfl, Hf, c, L, nums, a, sk.dropLast, so, bk, pl, ou, n, C, rfl, h1, fun H2 h2 => ?_⟩
  refine ⟨_, rfl, rfl, .inr ⟨_, rfl, ?_⟩⟩
  rw [dei]
  refine ⟨_, _, _, rfl, rfl, h2.hsk, (by rw [List.length_map]; first | (simp only [List.length_dropLast]; exact Nat.lt_of_le_of_lt (show _ ≤ 20000 by omega) (by decide)) | exact Nat.lt_of_le_of_lt (show _ ≤ 20000 by omega) (by decide)), ?_⟩
  rw [ap]
  exact q _ (h2.S C _)
abbrev s_load : Stmt := tp 44
theorem sc_load : FnScope ["state", "argument"] ["state", "argument"] (defScope s_load) := ⟨rfl, rfl, rfl, by decide +kernel, rfl, by decide +kernel, by decide +kernel⟩
theorem c__load (F : Top K mg "_load" s_load) (T : Txt K mg) {fdp : FuncData} (Gpull : FnOk P w K mg base CX0 1 (He.ma K (He.ga K "State") "pull") fdp ["self"] (spPull K)) (bpull : Binds K fdp ["self"] []) : Cal P w K mg base 2 "_load" ["state", "argument"] (spDeed K 64) := by
  refine F.cal sc_load (fun vs H Q E h => ?_) (fun _ _ _ _ _ _ us hl => match us, hl with | [_, _], _ => rfl) (fun f cdv A outer s H vs Q E hr h => ?_)
  · obtain ⟨Hf, c, L, nums, a, sk, so, bk, pl, ou, n, arg, C, rfl, _⟩ := h
    rfl
  obtain ⟨Hf, c, L, nums, a, sk, so, bk, pl, ou, n, arg, C, rfl, h, l1, l2, l3, l4, q⟩ := h
  have hu := hu_of hr
  refine ⟨_, (pss_one (ps_expr (pe_bm PySem.F.plainAttrs_list PySem.F.slot_list_append PySem.F.type_list_append mt_append (pe_fld (pv 0) rfl) (pa_cons (pe_dget2 hu (pe_fld (pv 0) rfl) (pe_meth0 (pv 0) T.cl T.m_pull Gpull (hr.mono (by decide)) bpull .nil pass0) pe_int ⟨rfl, rfl, rfl, rfl⟩) pa_nil)))), ?_⟩
  rw [act_load] at q
  refine ⟨_, rfl, _, _, _, _, _, rfl, h.ins, T.cl, T.noat "stack" (by decide +kernel), rfl, .inl ⟨rfl, _, SqL.of h.hsk⟩, _, rfl, _, _, _, _, _, rfl, h.ins, T.cl, T.noat "store" (by decide +kernel), rfl, _, rfl, .inl ⟨_, .inl h.hso⟩, _, rfl, _, _, _, rfl, h.ins, rfl, Hf, c, L, nums, a, sk, so, bk, pl, ou, n, C, rfl, h, fun H1 h1 => ?_⟩
  refine ⟨_, intD_get (.inl h1.hso) _, _, _, _, rfl, rfl, h1.hsk, (by rw [List.length_map]; first | (simp only [List.length_dropLast]; exact Nat.lt_of_le_of_lt (show _ ≤ 20000 by omega) (by decide)) | exact Nat.lt_of_le_of_lt (show _ ≤ 20000 by omega) (by decide)), ?_⟩
  rw [sgo, ap]
  exact q _ (h1.S C _)
abbrev s_keep : Stmt := tp 45
theorem sc_keep : FnScope ["state", "argument", "address"] ["state", "argument"] (defScope s_keep) := ⟨rfl, rfl, rfl, by decide +kernel, rfl, by decide +kernel, by decide +kernel⟩
theorem c__keep (F : Top K mg "_keep" s_keep) (T : Txt K mg) {fdp : FuncData} (Gpull : FnOk P w K mg base CX0 1 (He.ma K (He.ga K "State") "pull") fdp ["self"] (spPull K)) (bpull : Binds K fdp ["self"] []) : Cal P w K mg base 2 "_keep" ["state", "argument"] (spDeed K 33) := by
  refine F.cal sc_keep (fun vs H Q E h => ?_) (fun _ _ _ _ _ _ us hl => match us, hl with | [_, _], _ => rfl) (fun f cdv A outer s H vs Q E hr h => ?_)
  · obtain ⟨Hf, c, L, nums, a, sk, so, bk, pl, ou, n, arg, C, rfl, _⟩ := h
    rfl
  obtain ⟨Hf, c, L, nums, a, sk, so, bk, pl, ou, n, arg, C, rfl, h, l1, l2, l3, l4, q⟩ := h
  have hu := hu_of hr
  refine ⟨_, (pss_cons (ps_set (i := 2) sc_keep.nd rfl (Or.inl rfl) (pe_meth0 (pv 0) T.cl T.m_pull Gpull (hr.mono (by decide)) bpull .nil pass0))
        (pss_one (ps_dput hu (pe_fld (pv 0) rfl) (pv 2) (pe_meth0 (pv 0) T.cl T.m_pull Gpull (hr.mono (by decide)) bpull .nil pass0) rfl))), ?_⟩
  rw [act_keep] at q
  refine ⟨_, rfl, _, _, _, rfl, h.ins, rfl, Hf, c, L, nums, a, sk, so, bk, pl, ou, n, C, rfl, h, fun H1 h1 => ?_⟩
  refine ⟨_, rfl, _, _, _, rfl, h1.ins, rfl, Hf, c, L, nums, a, sk.dropLast, so, bk, pl, ou, n, C, rfl, h1, fun H2 h2 => ?_⟩
  refine ⟨_, rfl, _, _, _, _, _, rfl, h2.ins, T.cl, T.noat "store" (by decide +kernel), rfl, _, rfl, _, _, rfl, intD_dput h2.hso h2.nd _ _ (Nat.lt_of_le_of_lt l3 (by decide)), ?_⟩
  exact q _ (h2.D C _ _)
abbrev s_assign : Stmt := tp 46
theorem sc_assign : FnScope ["state", "argument"] ["state", "argument"] (defScope s_assign) := ⟨rfl, rfl, rfl, by decide +kernel, rfl, by decide +kernel, by decide +kernel⟩
theorem c__assign (F : Top K mg "_assign" s_assign) (T : Txt K mg) {fdp : FuncData} (Gpull : FnOk P w K mg base CX0 1 (He.ma K (He.ga K "State") "pull") fdp ["self"] (spPull K)) (bpull : Binds K fdp ["self"] []) : Cal P w K mg base 2 "_assign" ["state", "argument"] (spDeed K 61) := by
  refine F.cal sc_assign (fun vs H Q E h => ?_) (fun _ _ _ _ _ _ us hl => match us, hl with | [_, _], _ => rfl) (fun f cdv A outer s H vs Q E hr h => ?_)
  · obtain ⟨Hf, c, L, nums, a, sk, so, bk, pl, ou, n, arg, C, rfl, _⟩ := h
    rfl
  obtain ⟨Hf, c, L, nums, a, sk, so, bk, pl, ou, n, arg, C, rfl, h, l1, l2, l3, l4, q⟩ := h
  have hu := hu_of hr
  refine ⟨_, (pss_one (ps_dput hu (pe_fld (pv 0) rfl) (pv 1) (pe_meth0 (pv 0) T.cl T.m_pull Gpull (hr.mono (by decide)) bpull .nil pass0) rfl)), ?_⟩
  rw [act_assign] at q
  refine ⟨_, rfl, _, _, _, rfl, h.ins, rfl, Hf, c, L, nums, a, sk, so, bk, pl, ou, n, C, rfl, h, fun H2 h2 => ?_⟩
  refine ⟨_, rfl, _, _, _, _, _, rfl, h2.ins, T.cl, T.noat "store" (by decide +kernel), rfl, _, rfl, _, _, rfl, intD_dput h2.hso h2.nd _ _ (Nat.lt_of_le_of_lt l3 (by decide)), ?_⟩
  exact q _ (h2.D C _ _)
abbrev s_rewind : Stmt := tp 48
theorem sc_rewind : FnScope ["state", "argument"] ["state", "argument"] (defScope s_rewind) := ⟨rfl, rfl, rfl, by decide +kernel, rfl, by decide +kernel, by decide +kernel⟩
theorem c__rewind (F : Top K mg "_rewind" s_rewind) (T : Txt K mg) {fdp : FuncData} (Gpull : FnOk P w K mg base CX0 1 (He.ma K (He.ga K "State") "pull") fdp ["self"] (spPull K)) (bpull : Binds K fdp ["self"] []) : Cal P w K mg base 2 "_rewind" ["state", "argument"] (spDeed K 94) := by
  refine F.cal sc_rewind (fun vs H Q E h => ?_) (fun _ _ _ _ _ _ us hl => match us, hl with | [_, _], _ => rfl) (fun f cdv A outer s H vs Q E hr h => ?_)
  · obtain ⟨Hf, c, L, nums, a, sk, so, bk, pl, ou, n, arg, C, rfl, _⟩ := h
    rfl
  obtain ⟨Hf, c, L, nums, a, sk, so, bk, pl, ou, n, arg, C, rfl, h, l1, l2, l3, l4, q⟩ := h
  have hu := hu_of hr
  refine ⟨_, (pss_one (ps_fld (pv 0) pe_int rfl)), ?_⟩
  rw [act_rewind] at q
  refine ⟨_, rfl, _, _, _, _, rfl, h.ins, T.cl, T.noat "place" (by decide +kernel), (by show 10 < 1000; decide), ?_⟩
  exact q _ (h.F C a 0 n)
abbrev s_emit : Stmt := tp 49
theorem sc_emit : FnScope ["state", "argument"] ["state", "argument"] (defScope s_emit) := ⟨rfl, rfl, rfl, by decide +kernel, rfl, by decide +kernel, by decide +kernel⟩
theorem c__emit (F : Top K mg "_emit" s_emit) (T : Txt K mg) {fdp : FuncData} (Gpull : FnOk P w K mg base CX0 1 (He.ma K (He.ga K "State") "pull") fdp ["self"] (spPull K)) (bpull : Binds K fdp ["self"] []) : Cal P w K mg base 2 "_emit" ["state", "argument"] (spDeed K 46) := by
  refine F.cal sc_emit (fun vs H Q E h => ?_) (fun _ _ _ _ _ _ us hl => match us, hl with | [_, _], _ => rfl) (fun f cdv A outer s H vs Q E hr h => ?_)
  · obtain ⟨Hf, c, L, nums, a, sk, so, bk, pl, ou, n, arg, C, rfl, _⟩ := h
    rfl
  obtain ⟨Hf, c, L, nums, a, sk, so, bk, pl, ou, n, arg, C, rfl, h, l1, l2, l3, l4, q⟩ := h
  have hu := hu_of hr
  refine ⟨_, (pss_one (ps_expr (pe_bm PySem.F.plainAttrs_list PySem.F.slot_list_append PySem.F.type_list_append mt_append (pe_fld (pv 0) rfl) (pa_cons (pe_meth0 (pv 0) T.cl T.m_pull Gpull (hr.mono (by decide)) bpull .nil pass0) pa_nil)))), ?_⟩
  rw [act_emit] at q
  refine ⟨_, rfl, _, _, _, _, _, rfl, h.ins, T.cl, T.noat "output" (by decide +kernel), rfl, .inl ⟨rfl, _, SqL.of h.hou⟩, _, rfl, _, _, _, rfl, h.ins, rfl, Hf, c, L, nums, a, sk, so, bk, pl, ou, n, C, rfl, h, fun H1 h1 => ?_⟩
  refine ⟨_, _, _, rfl, rfl, h1.hou, (by rw [List.length_map]; exact Nat.lt_of_le_of_lt l4 (by decide)), ?_⟩
  rw [ap]
  exact q _ (h1.O C _)
abbrev s_drop : Stmt := tp 51
theorem sc_drop : FnScope ["state", "argument"] ["state", "argument"] (defScope s_drop) := ⟨rfl, rfl, rfl, by decide +kernel, rfl, by decide +kernel, by decide +kernel⟩
theorem c__drop (F : Top K mg "_drop" s_drop) (T : Txt K mg) {fdp : FuncData} (Gpull : FnOk P w K mg base CX0 1 (He.ma K (He.ga K "State") "pull") fdp ["self"] (spPull K)) (bpull : Binds K fdp ["self"] []) : Cal P w K mg base 2 "_drop" ["state", "argument"] (spDeed K 95) := by
  refine F.cal sc_drop (fun vs H Q E h => ?_) (fun _ _ _ _ _ _ us hl => match us, hl with | [_, _], _ => rfl) (fun f cdv A outer s H vs Q E hr h => ?_)
  · obtain ⟨Hf, c, L, nums, a, sk, so, bk, pl, ou, n, arg, C, rfl, _⟩ := h
    rfl
  obtain ⟨Hf, c, L, nums, a, sk, so, bk, pl, ou, n, arg, C, rfl, h, l1, l2, l3, l4, q⟩ := h
  have hu := hu_of hr
  refine ⟨_, (pss_one (ps_expr (pe_meth0 (pv 0) T.cl T.m_pull Gpull (hr.mono (by decide)) bpull .nil pass0))), ?_⟩
  rw [act_drop] at q
  exact ⟨_, rfl, _, _, _, rfl, h.ins, rfl, Hf, c, L, nums, a, sk, so, bk, pl, ou, n, C, rfl, h, q⟩
abbrev s_double : Stmt := tp 52
theorem sc_double : FnScope ["state", "argument", "top"] ["state", "argument"] (defScope s_double) := ⟨rfl, rfl, rfl, by decide +kernel, rfl, by decide +kernel, by decide +kernel⟩
theorem c__double (F : Top K mg "_double" s_double) (T : Txt K mg) {fdp : FuncData} (Gpull : FnOk P w K mg base CX0 1 (He.ma K (He.ga K "State") "pull") fdp ["self"] (spPull K)) (bpull : Binds K fdp ["self"] []) : Cal P w K mg base 2 "_double" ["state", "argument"] (spDeed K 34) := by
  refine F.cal sc_double (fun vs H Q E h => ?_) (fun _ _ _ _ _ _ us hl => match us, hl with | [_, _], _ => rfl) (fun f cdv A outer s H vs Q E hr h => ?_)
  · obtain ⟨Hf, c, L, nums, a, sk, so, bk, pl, ou, n, arg, C, rfl, _⟩ := h
    rfl
  obtain ⟨Hf, c, L, nums, a, sk, so, bk, pl, ou, n, arg, C, rfl, h, l1, l2, l3, l4, q⟩ := h
  have hu := hu_of hr
  refine ⟨_, (pss_cons (ps_set (i := 2) sc_double.nd rfl (Or.inl rfl) (pe_meth0 (pv 0) T.cl T.m_pull Gpull (hr.mono (by decide)) bpull .nil pass0))
        (pss_one (ps_expr (pe_bm PySem.F.plainAttrs_list PySem.F.slot_list_extend PySem.F.type_list_extend mt_extend (pe_fld (pv 0) rfl) (pa_cons (pe_lst (pa_cons (pv 2) (pa_cons (pv 2) pa_nil))) pa_nil))))), ?_⟩
  rw [act_double] at q
  refine ⟨_, rfl, _, _, _, rfl, h.ins, rfl, Hf, c, L, nums, a, sk, so, bk, pl, ou, n, C, rfl, h, fun H1 h1 => ?_⟩
  refine ⟨_, rfl, _, _, _, _, _, rfl, h1.ins, T.cl, T.noat "stack" (by decide +kernel), rfl, .inl ⟨rfl, _, SqL.of h1.hsk⟩, _, rfl, _, rfl, (by show 2 ≤ sizeLine; decide), fun u hu0 => ?_⟩
  have nu : c.sk ≠ u := ne_of_none h1.hsk hu0
  refine ⟨_, u, _, _, rfl, rfl, (h1.N hu0).hsk, upd_same, (by rw [List.length_map]; simp only [List.length_dropLast]; exact Nat.le_trans (show _ ≤ 20002 by show _ + 2 ≤ 20002; omega) (by decide)), ?_⟩
  rw [ap2]
  exact q _ ((h1.N hu0).S C _)
abbrev s_exchange : Stmt := tp 53
theorem sc_exchange : FnScope ["state", "argument", "second", "first"] ["state", "argument"] (defScope s_exchange) := ⟨rfl, rfl, rfl, by decide +kernel, rfl, by decide +kernel, by decide +kernel⟩
theorem c__exchange (F : Top K mg "_exchange" s_exchange) (T : Txt K mg) {fdp : FuncData} (Gpull : FnOk P w K mg base CX0 1 (He.ma K (He.ga K "State") "pull") fdp ["self"] (spPull K)) (bpull : Binds K fdp ["self"] []) : Cal P w K mg base 2 "_exchange" ["state", "argument"] (spDeed K 92) := by
  refine F.cal sc_exchange (fun vs H Q E h => ?_) (fun _ _ _ _ _ _ us hl => match us, hl with | [_, _], _ => rfl) (fun f cdv A outer s H vs Q E hr h => ?_)
  · obtain ⟨Hf, c, L, nums, a, sk, so, bk, pl, ou, n, arg, C, rfl, _⟩ := h
    rfl
  obtain ⟨Hf, c, L, nums, a, sk, so, bk, pl, ou, n, arg, C, rfl, h, l1, l2, l3, l4, q⟩ := h
  have hu := hu_of hr
  refine ⟨_, (pss_cons (ps_set (i := 2) sc_exchange.nd rfl (Or.inl rfl) (pe_meth0 (pv 0) T.cl T.m_pull Gpull (hr.mono (by decide)) bpull .nil pass0))
        (pss_cons (ps_set (i := 3) sc_exchange.nd rfl (Or.inl rfl) (pe_meth0 (pv 0) T.cl T.m_pull Gpull (hr.mono (by decide)) bpull .nil pass0))
        (pss_one (ps_expr (pe_bm PySem.F.plainAttrs_list PySem.F.slot_list_extend PySem.F.type_list_extend mt_extend (pe_fld (pv 0) rfl) (pa_cons (pe_lst (pa_cons (pv 2) (pa_cons (pv 3) pa_nil))) pa_nil)))))), ?_⟩
  rw [act_exchange] at q
  refine ⟨_, rfl, _, _, _, rfl, h.ins, rfl, Hf, c, L, nums, a, sk, so, bk, pl, ou, n, C, rfl, h, fun H1 h1 => ?_⟩
  refine ⟨_, rfl, _, _, _, rfl, h1.ins, rfl, Hf, c, L, nums, a, sk.dropLast, so, bk, pl, ou, n, C, rfl, h1, fun H2 h2 => ?_⟩
  refine ⟨_, rfl, _, _, _, _, _, rfl, h2.ins, T.cl, T.noat "stack" (by decide +kernel), rfl, .inl ⟨rfl, _, SqL.of h2.hsk⟩, _, rfl, _, rfl, (by show 2 ≤ sizeLine; decide), fun u hu0 => ?_⟩
  have nu : c.sk ≠ u := ne_of_none h2.hsk hu0
  refine ⟨_, u, _, _, rfl, rfl, (h2.N hu0).hsk, upd_same, (by rw [List.length_map]; simp only [List.length_dropLast]; exact Nat.le_trans (show _ ≤ 20002 by show _ + 2 ≤ 20002; omega) (by decide)), ?_⟩
  rw [ap2]
  exact q _ ((h2.N hu0).S C _)
end Zw
namespace Zw
open PySem PySem.Spec PyProof.Rows L2 PH
variable {P : Program} {w : World} {K : PySem.W.Frag} {mg : Str → Option Value} {base : Heap}
section
variable {Tt : Pl.Tb} {nums : List Int} {a arg v : Int} {sk bk ou : List Int} {so : List (Int × Int)} {pl : Nat}
theorem act_take1 (h : nums[pl]? = some v) : Pl.act Tt nums 44 arg ⟨a, bk, ⟨sk, so, pl, ou⟩⟩ = ⟨a, bk, ⟨sk ++ [v], so, pl + 1, ou⟩⟩ := by
  show (⟨a, bk, (match nums[pl]? with
    | some v => ⟨sk ++ [v], so, pl + 1, ou⟩
    | none => ⟨sk ++ [-1], so, pl, ou⟩)⟩ : Pl.MS) = _
  rw [h]
theorem act_take0 (h : nums[pl]? = none) : Pl.act Tt nums 44 arg ⟨a, bk, ⟨sk, so, pl, ou⟩⟩ = ⟨a, bk, ⟨sk ++ [-1], so, pl, ou⟩⟩ := by
  show (⟨a, bk, (match nums[pl]? with
    | some v => ⟨sk ++ [v], so, pl + 1, ou⟩
    | none => ⟨sk ++ [-1], so, pl, ou⟩)⟩ : Pl.MS) = _
  rw [h]
theorem act_test1 (h : Pl.top sk = 0) : Pl.act Tt nums 63 arg ⟨a, bk, ⟨sk, so, pl, ou⟩⟩ = ⟨arg, bk, ⟨sk.dropLast, so, pl, ou⟩⟩ := if_pos h
theorem act_test0 (h : ¬ Pl.top sk = 0) : Pl.act Tt nums 63 arg ⟨a, bk, ⟨sk, so, pl, ou⟩⟩ = ⟨a, bk, ⟨sk.dropLast, so, pl, ou⟩⟩ := if_neg h
theorem act_low1 (h : Pl.lowIn Tt (Pl.top sk)) : Pl.act Tt nums 36 arg ⟨a, bk, ⟨sk, so, pl, ou⟩⟩ = ⟨Pl.top sk, bk ++ [a], ⟨sk.dropLast, so, pl, ou⟩⟩ := if_pos h
theorem act_low0 (h : ¬ Pl.lowIn Tt (Pl.top sk)) : Pl.act Tt nums 36 arg ⟨a, bk, ⟨sk, so, pl, ou⟩⟩ = ⟨a, bk, ⟨sk.dropLast ++ [Pl.top sk], so, pl, ou⟩⟩ := if_neg h
theorem act_ret0 (h : bk = []) : Pl.act Tt nums 41 arg ⟨a, bk, ⟨sk, so, pl, ou⟩⟩ = ⟨a, bk, ⟨sk, so, pl, ou⟩⟩ := if_pos h
theorem act_ret1 (h : ¬ bk = []) : Pl.act Tt nums 41 arg ⟨a, bk, ⟨sk, so, pl, ou⟩⟩ = ⟨Pl.top bk, bk.dropLast, ⟨sk, so, pl, ou⟩⟩ := if_neg h
end
theorem top_get {xs : List Int} (h : ¬ xs = []) : (xs.map V.int)[(xs.map V.int).length - 1]? = some (V.int (Pl.top xs)) := by
  rw [List.length_map, List.getElem?_map]
  unfold Pl.top
  rw [List.getLast?_eq_getElem?]
  have := List.length_pos_iff.mpr h
  rw [List.getElem?_eq_getElem (show xs.length - 1 < xs.length by omega)]
  rfl
theorem emp_map (xs : List Int) : (!(xs.map V.int).isEmpty) = !xs.isEmpty := by cases xs <;> rfl
theorem TabAt.get {H : Hp} {d : Addr} {L : Tl} (h : TabAt H d L) (n : Int) : ∃ o, DGet H d (.int n) o ∧ o.isSome = (look L n).isSome := by
  cases e : look L n with
  | none => exact ⟨none, h.no e, rfl⟩
  | some nd =>
    obtain ⟨t, g, _⟩ := h.yes e
    exact ⟨_, g, rfl⟩
theorem sqSame {H H' : Hp} {a : Addr} {xs : List V} (s : Same H H') (h : SqL K H a xs) : SqL K H' a xs := by
  rcases h with h | h
  · refine .inl ?_
    rcases h with h | ⟨o, h⟩
    · exact .inl (s _ _ h)
    · exact .inr ⟨o, s _ _ h⟩
  · exact .inr h
abbrev s_take : Stmt := tp 47
theorem sc_take : FnScope ["state", "argument"] ["state", "argument"] (defScope s_take) := ⟨rfl, rfl, rfl, by decide +kernel, rfl, by decide +kernel, by decide +kernel⟩
theorem c__take (F : Top K mg "_take" s_take) (T : Txt K mg) {fdp : FuncData} (Gpull : FnOk P w K mg base CX0 1 (He.ma K (He.ga K "State") "pull") fdp ["self"] (spPull K)) (bpull : Binds K fdp ["self"] []) : Cal P w K mg base 2 "_take" ["state", "argument"] (spDeed K 44) := by
  refine F.cal sc_take (fun vs H Q E h => ?_) (fun _ _ _ _ _ _ us hl => match us, hl with | [_, _], _ => rfl) (fun f cdv A outer s H vs Q E hr h => ?_)
  · obtain ⟨Hf, c, L, nums, a, sk, so, bk, pl, ou, n, arg, C, rfl, _⟩ := h
    rfl
  obtain ⟨Hf, c, L, nums, a, sk, so, bk, pl, ou, n, arg, C, rfl, h, l1, l2, l3, l4, q⟩ := h
  have hu := hu_of hr
  refine ⟨_, (pss_one (ps_if (pt_cmpR op_lt (pe_fld (pv 0) rfl) (pe_callB call_len_seq (by rfl) T.len PySem.boot_len (pa_cons (pe_fld (pv 0) rfl) pa_nil)) (nomark _)) (pss_cons (ps_expr (pe_bm PySem.F.plainAttrs_list PySem.F.slot_list_append PySem.F.type_list_append mt_append (pe_fld (pv 0) rfl) (pa_cons (pe_ix ix_list (pe_fld (pv 0) rfl) (pe_fld (pv 0) rfl) (fun _ _ => rfl)) pa_nil)))
        (pss_one (ps_fldaug (pv 0) pe_int in_add))) (pss_one (ps_expr (pe_bm PySem.F.plainAttrs_list PySem.F.slot_list_append PySem.F.type_list_append mt_append (pe_fld (pv 0) rfl) (pa_cons (pe_un un_neg pe_int) pa_nil)))))), ?_⟩
  refine ⟨_, rfl, _, _, _, _, _, rfl, h.ins, T.cl, T.noat "place" (by decide +kernel), rfl, _, rfl, _, _, _, _, _, rfl, h.ins, T.cl, T.noat "numbers" (by decide +kernel), rfl, _, _, rfl, .inl (sqSame h.fr C.num), _, _, rfl, rfl, _, rfl, ?_⟩
  rw [List.length_map]
  refine ifD (fun lt => ?_) fun nlt => ?_
  · have lt : pl < nums.length := Int.ofNat_lt.mp lt
    have e : nums[pl]? = some nums[pl] := List.getElem?_eq_getElem lt
    rw [act_take1 e] at q
    refine ⟨_, rfl, _, _, _, _, _, rfl, h.ins, T.cl, T.noat "stack" (by decide +kernel), rfl, .inl ⟨rfl, _, SqL.of h.hsk⟩, _, rfl, _, _, _, _, _, rfl, h.ins, T.cl, T.noat "numbers" (by decide +kernel), rfl, _, rfl, _, _, _, _, _, rfl, h.ins, T.cl, T.noat "place" (by decide +kernel), rfl, _, _, _, .int nums[pl], rfl, rfl, sqSame h.fr C.num, atI_nat (by rw [List.getElem?_map, e]; rfl), _, _, _, rfl, rfl, h.hsk, (by rw [List.length_map]; exact Nat.lt_of_le_of_lt l1 (by decide)), ?_⟩
    rw [ap]
    have h1 := h.S C (sk ++ [nums[pl]])
    refine ⟨_, rfl, _, _, _, _, _, rfl, h1.ins, T.cl, T.noat "place" (by decide +kernel), rfl, _, _, rfl, rfl, _, _, h1.ins, (by show 10 < 1000; decide), ?_⟩
    exact q _ (h1.F C a (pl + 1) n)
  · have nlt : ¬ pl < nums.length := fun z => nlt (Int.ofNat_lt.mpr z)
    rw [act_take0 (List.getElem?_eq_none (by omega))] at q
    refine ⟨_, rfl, _, _, _, _, _, rfl, h.ins, T.cl, T.noat "stack" (by decide +kernel), rfl, .inl ⟨rfl, _, SqL.of h.hsk⟩, _, rfl, _, _, _, rfl, rfl, h.hsk, (by rw [List.length_map]; exact Nat.lt_of_le_of_lt l1 (by decide)), ?_⟩
    rw [ap]
    exact q _ (h.S C _)
abbrev s_test : Stmt := tp 54
theorem sc_test : FnScope ["state", "argument"] ["state", "argument"] (defScope s_test) := ⟨rfl, rfl, rfl, by decide +kernel, rfl, by decide +kernel, by decide +kernel⟩
theorem c__test (F : Top K mg "_test" s_test) (T : Txt K mg) {fdp : FuncData} (Gpull : FnOk P w K mg base CX0 1 (He.ma K (He.ga K "State") "pull") fdp ["self"] (spPull K)) (bpull : Binds K fdp ["self"] []) : Cal P w K mg base 2 "_test" ["state", "argument"] (spDeed K 63) := by
  refine F.cal sc_test (fun vs H Q E h => ?_) (fun _ _ _ _ _ _ us hl => match us, hl with | [_, _], _ => rfl) (fun f cdv A outer s H vs Q E hr h => ?_)
  · obtain ⟨Hf, c, L, nums, a, sk, so, bk, pl, ou, n, arg, C, rfl, _⟩ := h
    rfl
  obtain ⟨Hf, c, L, nums, a, sk, so, bk, pl, ou, n, arg, C, rfl, h, l1, l2, l3, l4, q⟩ := h
  have hu := hu_of hr
  refine ⟨_, (pss_one (ps_if (pt_cmpR op_eq (pe_meth0 (pv 0) T.cl T.m_pull Gpull (hr.mono (by decide)) bpull .nil pass0) pe_int (nomark _)) (pss_one (ps_fld (pv 0) (pv 1) rfl)) pss_nil)), ?_⟩
  refine ⟨_, rfl, _, _, _, rfl, h.ins, rfl, Hf, c, L, nums, a, sk, so, bk, pl, ou, n, C, rfl, h, fun H1 h1 => ?_⟩
  refine ⟨rfl, _, rfl, ifI (fun e => ?_) fun e => ?_⟩
  · rw [act_test1 e] at q
    refine ⟨_, rfl, _, rfl, _, _, _, _, rfl, h1.ins, T.cl, T.noat "at" (by decide +kernel), (by show 10 < 1000; decide), ?_⟩
    exact q _ (h1.F C arg pl n)
  · rw [act_test0 e] at q
    exact q _ h1
abbrev s_call_low : Stmt := tp 56
theorem sc_call_low : FnScope ["state", "argument", "number"] ["state", "argument"] (defScope s_call_low) := ⟨rfl, rfl, rfl, by decide +kernel, rfl, by decide +kernel, by decide +kernel⟩
theorem c__call_low (F : Top K mg "_call_low" s_call_low) (T : Txt K mg) {fdp : FuncData} (Gpull : FnOk P w K mg base CX0 1 (He.ma K (He.ga K "State") "pull") fdp ["self"] (spPull K)) (bpull : Binds K fdp ["self"] []) : Cal P w K mg base 2 "_call_low" ["state", "argument"] (spDeed K 36) := by
  refine F.cal sc_call_low (fun vs H Q E h => ?_) (fun _ _ _ _ _ _ us hl => match us, hl with | [_, _], _ => rfl) (fun f cdv A outer s H vs Q E hr h => ?_)
  · obtain ⟨Hf, c, L, nums, a, sk, so, bk, pl, ou, n, arg, C, rfl, _⟩ := h
    rfl
  obtain ⟨Hf, c, L, nums, a, sk, so, bk, pl, ou, n, arg, C, rfl, h, l1, l2, l3, l4, q⟩ := h
  have hu := hu_of hr
  refine ⟨_, (pss_cons (ps_set (i := 2) sc_call_low.nd rfl (Or.inl rfl) (pe_meth0 (pv 0) T.cl T.m_pull Gpull (hr.mono (by decide)) bpull .nil pass0))
        (pss_one (ps_if (PW.pt (pw_and (pt_chain op_le op_le pe_int (pv 2) (pe_int_glob T.cLAST_LOW)) (pw_and1 (pt_cmp (pc_din hu (pv 2) (pe_fld (pv 0) rfl)) rfl)))) (pss_cons (ps_expr (pe_bm PySem.F.plainAttrs_list PySem.F.slot_list_append PySem.F.type_list_append mt_append (pe_fld (pv 0) rfl) (pa_cons (pe_fld (pv 0) rfl) pa_nil)))
        (pss_one (ps_fld (pv 0) (pv 2) rfl))) (pss_one (ps_expr (pe_bm PySem.F.plainAttrs_list PySem.F.slot_list_append PySem.F.type_list_append mt_append (pe_fld (pv 0) rfl) (pa_cons (pv 2) pa_nil))))))), ?_⟩
  refine ⟨_, rfl, _, _, _, rfl, h.ins, rfl, Hf, c, L, nums, a, sk, so, bk, pl, ou, n, C, rfl, h, fun H1 h1 => ?_⟩
  have no : ¬ Pl.lowIn (look L) (Pl.top sk) → Q .non (upd H1 c.sk (.lst ((sk.dropLast ++ [Pl.top sk]).map V.int))) := fun z => by
    rw [act_low0 z] at q
    exact q _ (h1.S C _)
  have lm : (sk.dropLast.map V.int).length < sizeLine := by
    rw [List.length_map, List.length_dropLast]
    exact Nat.lt_of_le_of_lt (show _ ≤ 20000 by omega) (by decide)
  refine ⟨_, rfl, _, _, rfl, rfl, _, rfl, ?_⟩
  by_cases g1 : (1 : Int) ≤ Pl.top sk
  · rw [decide_eq_true g1]
    refine iteT ⟨_, _, rfl, rfl, _, rfl, ?_⟩
    by_cases g2 : Pl.top sk ≤ 199
    · rw [decide_eq_true g2]
      obtain ⟨o, g, e⟩ := (C.tab.same h1.fr).get (Pl.top sk)
      refine iteT ⟨_, rfl, _, rfl, _, _, _, _, _, rfl, h1.ins, T.cl, T.noat "table" (by decide +kernel), rfl, _, o, rfl, g, _, rfl, ?_⟩
      cases e3 : (look L (Pl.top sk)).isSome with
      | true =>
        rw [e3] at e
        rw [e]
        rw [act_low1 ⟨g1, g2, e3⟩] at q
        refine iteT ⟨_, rfl, _, _, _, _, _, rfl, h1.ins, T.cl, T.noat "back" (by decide +kernel), rfl, .inl ⟨rfl, _, SqL.of h1.hbk⟩, _, rfl, _, _, _, _, _, rfl, h1.ins, T.cl, T.noat "at" (by decide +kernel), rfl, _, _, _, rfl, rfl, h1.hbk, (by rw [List.length_map]; exact Nat.lt_of_le_of_lt l2 (by decide)), ?_⟩
        rw [ap]
        have h2 := h1.B C (bk ++ [a])
        refine ⟨_, rfl, _, rfl, _, _, _, _, rfl, h2.ins, T.cl, T.noat "at" (by decide +kernel), (by show 10 < 1000; decide), ?_⟩
        exact q _ (h2.F C (Pl.top sk) pl n)
      | false =>
        rw [e3] at e
        rw [e]
        refine iteF ⟨_, rfl, _, _, _, _, _, rfl, h1.ins, T.cl, T.noat "stack" (by decide +kernel), rfl, .inl ⟨rfl, _, SqL.of h1.hsk⟩, _, rfl, _, _, _, rfl, rfl, h1.hsk, lm, ?_⟩
        rw [ap]
        exact no fun z => by rw [z.2.2] at e3; cases e3
    · rw [decide_eq_false g2]
      refine iteF ⟨_, rfl, _, _, _, _, _, rfl, h1.ins, T.cl, T.noat "stack" (by decide +kernel), rfl, .inl ⟨rfl, _, SqL.of h1.hsk⟩, _, rfl, _, _, _, rfl, rfl, h1.hsk, lm, ?_⟩
      rw [ap]
      exact no fun z => g2 z.2.1
  · rw [decide_eq_false g1]
    refine iteF ⟨_, rfl, iteF ⟨_, rfl, _, _, _, _, _, rfl, h1.ins, T.cl, T.noat "stack" (by decide +kernel), rfl, .inl ⟨rfl, _, SqL.of h1.hsk⟩, _, rfl, _, _, _, rfl, rfl, h1.hsk, lm, ?_⟩⟩
    rw [ap]
    exact no fun z => g1 z.1
abbrev s_return : Stmt := tp 57
theorem sc_return : FnScope ["state", "argument"] ["state", "argument"] (defScope s_return) := ⟨rfl, rfl, rfl, by decide +kernel, rfl, by decide +kernel, by decide +kernel⟩
theorem c__return (F : Top K mg "_return" s_return) (T : Txt K mg) {fdp : FuncData} (Gpull : FnOk P w K mg base CX0 1 (He.ma K (He.ga K "State") "pull") fdp ["self"] (spPull K)) (bpull : Binds K fdp ["self"] []) : Cal P w K mg base 2 "_return" ["state", "argument"] (spDeed K 41) := by
  refine F.cal sc_return (fun vs H Q E h => ?_) (fun _ _ _ _ _ _ us hl => match us, hl with | [_, _], _ => rfl) (fun f cdv A outer s H vs Q E hr h => ?_)
  · obtain ⟨Hf, c, L, nums, a, sk, so, bk, pl, ou, n, arg, C, rfl, _⟩ := h
    rfl
  obtain ⟨Hf, c, L, nums, a, sk, so, bk, pl, ou, n, arg, C, rfl, h, l1, l2, l3, l4, q⟩ := h
  have hu := hu_of hr
  refine ⟨_, (pss_one (ps_if (pt_truth (pe_fld (pv 0) rfl) (by intro _; rfl)) (pss_one (ps_fld (pv 0) (pe_bm0 PySem.F.plainAttrs_list PySem.F.slot_list_pop PySem.F.type_list_pop mt_pop (pe_fld (pv 0) rfl)) rfl)) pss_nil)), ?_⟩
  refine ⟨_, rfl, _, _, _, _, _, rfl, h.ins, T.cl, T.noat "back" (by decide +kernel), rfl, _, .inl ⟨_, SqL.of h.hbk, rfl⟩, ?_⟩
  rw [emp_map]
  by_cases e : bk = []
  · rw [act_ret0 e] at q
    rw [e] at q h ⊢
    exact iteF (q _ h)
  · rw [act_ret1 e] at q
    have e2 : (!bk.isEmpty) = true := by
      cases bk with
      | nil => exact (e rfl).elim
      | cons x r => rfl
    rw [e2]
    refine iteT ⟨_, rfl, _, _, _, _, _, rfl, h.ins, T.cl, T.noat "back" (by decide +kernel), rfl, .inl ⟨rfl, _, SqL.of h.hbk⟩, _, _, .int (Pl.top bk), rfl, rfl, h.hbk, top_get e, ?_⟩
    rw [← List.map_dropLast]
    have h1 := h.B C bk.dropLast
    refine ⟨_, rfl, _, _, _, _, rfl, h1.ins, T.cl, T.noat "at" (by decide +kernel), (by show 10 < 1000; decide), ?_⟩
    exact q _ (h1.F C (Pl.top bk) pl n)
abbrev shas_ended : Stmt := inClass (tp 59) 2
theorem schas_ended : FnScope ["self"] ["self"] (defScope shas_ended) := ⟨rfl, rfl, rfl, by decide +kernel, rfl, by decide +kernel, by decide +kernel⟩
def spEnded (K : PySem.W.Frag) : Sp := fun vs H Q _ => ∃ (Hf : Hp) (c : Cfg) (L : Tl) (nums : List Int) (m : Pl.MS) (n : Nat), Cf K Hf c L nums ∧ vs = [.ref c.p] ∧ StM K Hf c H m n ∧ Q (.bl (!(look L m.at_).isSome)) H
theorem ok_has_ended {f : Addr} {fd : FuncData} (F : FunD K "has_ended" "State.has_ended" (defArgs shas_ended) (defBody shas_ended) (defScope shas_ended) [] [] f fd) (T : Txt K mg) : FnOk P w K mg base CX0 1 f fd ["self"] (spEnded K) := by
  refine m_ok F schas_ended (fun vs H Q E h => ?_) (fun cdv A outer s H vs Q E hr h => ?_)
  · obtain ⟨Hf, c, L, nums, m, n, C, rfl, _⟩ := h
    rfl
  obtain ⟨Hf, c, L, nums, m, n, C, rfl, h, q⟩ := h
  have hu := hu_of hr
  refine ⟨_, (pss_one (ps_ret (pe_cmp (pc_dnotin hu (pe_fld (pv 0) rfl) (pe_fld (pv 0) rfl)) rfl))), ?_⟩
  obtain ⟨o, g, e⟩ := (C.tab.same h.fr).get m.at_
  refine ⟨_, rfl, _, _, _, _, _, rfl, h.ins, T.cl, T.noat "at" (by decide +kernel), rfl, _, rfl, _, _, _, _, _, rfl, h.ins, T.cl, T.noat "table" (by decide +kernel), rfl, _, o, rfl, g, ?_⟩
  rw [e]
  exact q
end Zw
namespace Zw
open PySem PySem.Spec PyProof.Rows L2 PH
variable {P : Program} {w : World} {K : PySem.W.Frag} {mg : Str → Option Value} {base : Heap}
theorem findD_none {op : Int} (h : findD deeds op = none) : ¬ op ∈ Pl.SG := by
  intro z
  have key : ∀ i, i ∈ Pl.SG → (findD deeds i).isSome = true := by decide +kernel
  have := key op z
  rw [h] at this
  cases this
def Small (m : Pl.MS) : Prop := m.d.stack.length ≤ 20000 ∧ m.back.length ≤ 20000 ∧ m.d.store.length ≤ 20000 ∧ m.d.output.length ≤ 20000
def spStep (K : PySem.W.Frag) : Sp := fun vs H Q _ => ∃ (Hf : Hp) (c : Cfg) (L : Tl) (nums : List Int) (m : Pl.MS) (n : Nat), Cf K Hf c L nums ∧ vs = [.ref c.p] ∧ StM K Hf c H m n ∧ Small m ∧ Clos L ∧
  (look L m.at_ = none → Q (.bl false) H) ∧ ∀ m' H', Pl.step (look L) nums m = some m' → StM K Hf c H' m' (n + 1) → Q (.bl true) H'
abbrev sstep : Stmt := inClass (tp 59) 3
theorem scstep : FnScope ["self", "operation", "argument", "successor", "deed"] ["self"] (defScope sstep) := ⟨rfl, rfl, rfl, by decide +kernel, rfl, by decide +kernel, by decide +kernel⟩
theorem ok_step {f : Addr} {fd : FuncData} (F : FunD K "step" "State.step" (defArgs sstep) (defBody sstep) (defScope sstep) [] [] f fd) (T : Txt K mg)
    (DH : ∀ i nm, findD deeds i = some nm → i ≠ 38 → i ≠ 40 → Held P w K mg base 2 (He.ga K nm) (spDeed K i)) : FnOk P w K mg base CX0 3 f fd ["self"] (spStep K) := by
  refine m_ok F scstep (fun vs H Q E h => ?_) (fun cdv A outer s H vs Q E hr h => ?_)
  · obtain ⟨Hf, c, L, nums, m, n, C, rfl, _⟩ := h
    rfl
  obtain ⟨Hf, c, L, nums, ⟨a, bk, ⟨sk, so, pl, ou⟩⟩, n, C, rfl, h, ⟨l1, l2, l3, l4⟩, cl, q0, q⟩ := h
  have hu := hu_of hr
  have h : St K Hf c H a sk so bk pl ou n := h
  have l1 : sk.length ≤ 20000 := l1
  have l2 : bk.length ≤ 20000 := l2
  refine ⟨_, (pss_cons (ps_if (pt_cmp (pc_dnotin hu (pe_fld (pv 0) rfl) (pe_fld (pv 0) rfl)) rfl) (pss_one (ps_ret pe_bl)) pss_nil)
        (pss_cons (ps_asg (pe_dget hu (pe_fld (pv 0) rfl) (pe_fld (pv 0) rfl) (fun _ _ => rfl)) (pg_tup rfl (pgs_cons (pg_name (i := 1) scstep.nd rfl (Or.inl rfl)) (pgs_cons (pg_name (i := 2) scstep.nd rfl (Or.inl rfl)) (pgs_cons (pg_name (i := 3) scstep.nd rfl (Or.inl rfl)) pgs_nil)))))
        (pss_cons (ps_fld (pv 0) (pv 3) rfl)
        (pss_cons (ps_fldaug (pv 0) pe_int in_add)
        (pss_cons (ps_if (pt_cmpR (op_inDeeds T.deeds) (pv 1) (pe_ref_glob T.mDEEDS) (by rfl)) (pss_cons (ps_set (i := 4) scstep.nd rfl (Or.inl rfl) (pe_ix (ix_deeds T.deeds) (pe_ref_glob T.mDEEDS) (pv 1) (fun _ _ => rfl)))
        (pss_one (ps_expr (pe_callH (j := 2) (i := 4) hr (by decide) rfl (Or.inl rfl) (pa_cons (pv 0) (pa_cons (pv 2) pa_nil)))))) (pss_one (ps_if (pt_chain op_le op_le (pe_int_glob T.cFIRST_LETTER) (pv 1) (pe_int_glob T.cLAST_LETTER)) (pss_one (ps_expr (pe_bm PySem.F.plainAttrs_list PySem.F.slot_list_append PySem.F.type_list_append mt_append (pe_fld (pv 0) rfl) (pa_cons (pe_dget2 hu (pe_fld (pv 0) rfl) (pv 1) pe_int ⟨rfl, rfl, rfl, rfl⟩) pa_nil)))) (pss_one (ps_if (pt_chain op_le op_le (pe_int_glob T.cFIRST_CAPITAL) (pv 1) (pe_int_glob T.cLAST_CAPITAL)) (pss_cons (ps_expr (pe_bm PySem.F.plainAttrs_list PySem.F.slot_list_append PySem.F.type_list_append mt_append (pe_fld (pv 0) rfl) (pa_cons (pv 3) pa_nil)))
        (pss_one (ps_fld (pv 0) (pv 1) rfl))) pss_nil)))))
        (pss_one (ps_ret pe_bl))))))), ?_⟩
  have tb := C.tab.same h.fr
  cases e : look L a with
  | none => exact ⟨_, rfl, _, _, _, _, _, rfl, h.ins, T.cl, T.noat "at" (by decide +kernel), rfl, _, rfl, _, _, _, _, _, rfl, h.ins, T.cl, T.noat "table" (by decide +kernel), rfl, _, none, rfl, tb.no e, _, rfl, iteT (q0 e)⟩
  | some nd =>
    obtain ⟨op, arg, sc⟩ := nd
    obtain ⟨t, g, ht⟩ := tb.yes e
    have q : ∀ H', StM K Hf c H' (Pl.act (look L) nums op arg ⟨sc, bk, ⟨sk, so, pl, ou⟩⟩) (n + 1) → Q (.bl true) H' := fun H' z => q _ H' (by unfold Pl.step; rw [show look L (Pl.MS.mk a bk ⟨sk, so, pl, ou⟩).at_ = some (op, arg, sc) from e]) z
    refine ⟨_, rfl, _, _, _, _, _, rfl, h.ins, T.cl, T.noat "at" (by decide +kernel), rfl, _, rfl, _, _, _, _, _, rfl, h.ins, T.cl, T.noat "table" (by decide +kernel), rfl, _, some _, rfl, g, _, rfl, iteF ?_⟩
    refine ⟨_, rfl, _, _, _, _, _, rfl, h.ins, T.cl, T.noat "table" (by decide +kernel), rfl, _, rfl, _, _, _, _, _, rfl, h.ins, T.cl, T.noat "at" (by decide +kernel), rfl, _, _, rfl, g, t, _, rfl, SqT.of ht, rfl, _, _, rfl, _, _, rfl, _, _, rfl, rfl, ?_⟩
    refine ⟨_, rfl, _, rfl, _, _, _, _, rfl, h.ins, T.cl, T.noat "at" (by decide +kernel), (by show 10 < 1000; decide), ?_⟩
    have h1 := h.F C sc pl n
    refine ⟨_, rfl, _, _, _, _, _, rfl, h1.ins, T.cl, T.noat "steps" (by decide +kernel), rfl, _, _, rfl, rfl, _, _, h1.ins, (by show 10 < 1000; decide), ?_⟩
    have h2 := h1.F C sc pl (n + 1)
    refine ⟨_, rfl, _, rfl, rfl, _, rfl, ?_⟩
    cases e2 : findD deeds op with
    | some nm =>
      obtain ⟨c1, c2⟩ := cl a op arg sc e
      refine iteT ⟨_, rfl, _, nm, rfl, rfl, e2, ?_⟩
      refine ⟨_, _, rfl, DH op nm e2 c1 c2, _, rfl, _, rfl, Hf, c, L, nums, sc, sk, so, bk, pl, ou, n + 1, arg, C, rfl, h2, l1, l2, l3, l4, fun H' h' => ?_⟩
      exact q H' h'
    | none =>
      have sg := findD_none e2
      refine iteF ⟨_, rfl, _, _, rfl, rfl, _, rfl, ?_⟩
      have lower : 97 ≤ op → op ≤ 122 → StM K Hf c (upd (upd (upd H c.p (.ins (He.ga K "State") c.dx (flds c sc pl n))) c.p (.ins (He.ga K "State") c.dx (flds c sc pl (n + 1)))) c.sk (.lst ((sk ++ [Pl.sget so op]).map V.int))) (Pl.act (look L) nums op arg ⟨sc, bk, ⟨sk, so, pl, ou⟩⟩) (n + 1) := fun g1 g2 => by
        rw [Pl.act_low sg g1 g2]
        exact h2.S C _
      by_cases g1 : (97 : Int) ≤ op
      · rw [decide_eq_true g1]
        refine iteT ⟨_, _, rfl, rfl, _, rfl, ?_⟩
        by_cases g2 : op ≤ 122
        · rw [decide_eq_true g2]
          refine iteT ⟨_, rfl, _, _, _, _, _, rfl, h2.ins, T.cl, T.noat "stack" (by decide +kernel), rfl, .inl ⟨rfl, _, SqL.of h2.hsk⟩, _, rfl, _, _, _, _, _, rfl, h2.ins, T.cl, T.noat "store" (by decide +kernel), rfl, _, rfl, .inl ⟨_, .inl h2.hso⟩, _, rfl, _, intD_get (.inl h2.hso) _, _, _, _, rfl, rfl, h2.hsk, (by rw [List.length_map]; exact Nat.lt_of_le_of_lt l1 (by decide)), ?_⟩
          rw [sgo, ap]
          exact q _ (lower g1 g2)
        · rw [decide_eq_false g2]
          refine iteF ⟨_, rfl, _, _, rfl, rfl, _, rfl, ?_⟩
          by_cases k1 : (65 : Int) ≤ op
          · rw [decide_eq_true k1]
            refine iteT ⟨_, _, rfl, rfl, _, rfl, ?_⟩
            by_cases k2 : op ≤ 90
            · rw [decide_eq_true k2]
              rw [Pl.act_cap sg k1 k2] at q
              refine iteT ⟨_, rfl, _, _, _, _, _, rfl, h2.ins, T.cl, T.noat "back" (by decide +kernel), rfl, .inl ⟨rfl, _, SqL.of h2.hbk⟩, _, rfl, _, _, _, rfl, rfl, h2.hbk, (by rw [List.length_map]; exact Nat.lt_of_le_of_lt l2 (by decide)), ?_⟩
              rw [ap]
              have h3 := h2.B C (bk ++ [sc])
              refine ⟨_, rfl, _, rfl, _, _, _, _, rfl, h3.ins, T.cl, T.noat "at" (by decide +kernel), (by show 10 < 1000; decide), ?_⟩
              exact q _ (h3.F C op pl (n + 1))
            · rw [decide_eq_false k2]
              rw [Pl.act_no sg (fun z => g2 z.2) fun z => k2 z.2] at q
              exact iteF (q _ h2)
          · rw [decide_eq_false k1]
            rw [Pl.act_no sg (fun z => g2 z.2) fun z => k1 z.1] at q
            exact iteF ⟨_, rfl, iteF (q _ h2)⟩
      · rw [decide_eq_false g1]
        refine iteF ⟨_, rfl, iteF ⟨_, rfl, _, _, rfl, rfl, _, rfl, ?_⟩⟩
        by_cases k1 : (65 : Int) ≤ op
        · rw [decide_eq_true k1]
          refine iteT ⟨_, _, rfl, rfl, _, rfl, ?_⟩
          by_cases k2 : op ≤ 90
          · rw [decide_eq_true k2]
            rw [Pl.act_cap sg k1 k2] at q
            refine iteT ⟨_, rfl, _, _, _, _, _, rfl, h2.ins, T.cl, T.noat "back" (by decide +kernel), rfl, .inl ⟨rfl, _, SqL.of h2.hbk⟩, _, rfl, _, _, _, rfl, rfl, h2.hbk, (by rw [List.length_map]; exact Nat.lt_of_le_of_lt l2 (by decide)), ?_⟩
            rw [ap]
            have h3 := h2.B C (bk ++ [sc])
            refine ⟨_, rfl, _, rfl, _, _, _, _, rfl, h3.ins, T.cl, T.noat "at" (by decide +kernel), (by show 10 < 1000; decide), ?_⟩
            exact q _ (h3.F C op pl (n + 1))
          · rw [decide_eq_false k2]
            rw [Pl.act_no sg (fun z => g1 z.1) fun z => k2 z.2] at q
            exact iteF (q _ h2)
        · rw [decide_eq_false k1]
          rw [Pl.act_no sg (fun z => g1 z.1) fun z => k1 z.1] at q
          exact iteF ⟨_, rfl, iteF (q _ h2)⟩
end Zw
namespace Zw
open PySem PySem.Spec PyProof.Rows L2 PH
variable {P : Program} {w : World} {K : PySem.W.Frag} {mg : Str → Option Value} {base : Heap}
def spAdv (K : PySem.W.Frag) : Sp := fun vs H Q _ => ∃ (Hf : Hp) (c : Cfg) (L : Tl) (nums : List Int) (fuel : Nat), Cf K Hf c L nums ∧ vs = [.ref c.p, .int fuel] ∧ StM K Hf c H Pl.init 0 ∧ fuel ≤ 7000 ∧ Clos L ∧
  ∀ H' m s, StM K Hf c H' m s → Pl.runN (look L) nums s Pl.init = some m → s ≤ fuel → (s = fuel ∨ look L m.at_ = none) → Q (.int s) H'
abbrev sadvance : Stmt := inClass (tp 59) 4
theorem scadvance : FnScope ["self", "fuel", "made"] ["self", "fuel"] (defScope sadvance) := ⟨rfl, rfl, rfl, by decide +kernel, rfl, by decide +kernel, by decide +kernel⟩
theorem ok_advance {f : Addr} {fd fds : FuncData} (F : FunD K "advance" "State.advance" (defArgs sadvance) (defBody sadvance) (defScope sadvance) [] [] f fd) (T : Txt K mg)
    (Gstep : FnOk P w K mg base CX0 3 (He.ma K (He.ga K "State") "step") fds ["self"] (spStep K)) (bstep : Binds K fds ["self"] []) : FnOk P w K mg base CX0 4 f fd ["self", "fuel"] (spAdv K) := by
  refine m_ok F scadvance (fun vs H Q E h => ?_) (fun cdv A outer s H vs Q E hr h => ?_)
  · obtain ⟨Hf, c, L, nums, fuel, C, rfl, _⟩ := h
    rfl
  obtain ⟨Hf, c, L, nums, fuel, C, rfl, h, hf, cl, q⟩ := h
  have hu := hu_of hr
  refine ⟨_, (pss_cons (ps_if (pt_cmpR op_lt (pv 1) pe_int (nomark _)) (pss_one ps_never) pss_nil)
        (pss_cons (ps_set (i := 2) scadvance.nd rfl (Or.inl rfl) pe_int)
        (pss_cons (ps_while PassesOwn.never (PW.pt (pw_and (pt_cmpR op_lt (pv 2) (pv 1) (nomark _)) (pw_and1 (pt_val (pe_meth0 (pv 0) T.cl T.m_step Gstep (hr.mono (by decide)) bstep .nil pass0))))) (pss_one (ps_aug (i := 2) scadvance.nd rfl (Or.inl rfl) pe_int ip_add)))
        (pss_one (ps_ret (pv 2)))))), ?_⟩
  refine ⟨_, rfl, _, _, rfl, rfl, _, rfl, ?_⟩
  rw [decide_eq_false (show ¬ ((fuel : Int) < 0) by omega)]
  refine iteF ?_
  refine ⟨fun k σ H => ∃ s m, k + s = fuel ∧ StM K Hf c H m s ∧ Pl.runN (look L) nums s Pl.init = some m ∧ σ = [some (.ref c.p), some (.int fuel), some (.int (s : Nat))], ⟨fuel, 0, Pl.init, rfl, h, rfl, rfl⟩, ?_⟩
  rintro k σ H1 ⟨s, m, ek, h1, er, rfl⟩
  refine ⟨_, rfl, _, rfl, _, _, rfl, rfl, _, rfl, ?_⟩
  by_cases lt : s < fuel
  · rw [decide_eq_true (show ((s : Nat) : Int) < (fuel : Int) by omega)]
    have bd := Pl.run_bd er
    refine iteT ⟨_, rfl, _, _, _, rfl, h1.ins, rfl, Hf, c, L, nums, m, s, C, rfl, h1, ⟨Nat.le_trans bd.s (by omega), Nat.le_trans bd.b (by omega), Nat.le_trans bd.t (by omega), Nat.le_trans bd.o (by omega)⟩, cl, fun e => ?_, fun m' H' e h' => ?_⟩
    · exact ⟨_, rfl, iteF ⟨_, rfl, q H1 m s h1 er (by omega) (.inr e)⟩⟩
    · refine ⟨_, rfl, iteT ⟨fun σ' H'' => StM K Hf c H'' m' (s + 1) ∧ σ' = [some (.ref c.p), some (.int fuel), some (.int ((s + 1 : Nat) : Int))], fun σ' H'' z => ⟨k - 1, by omega, s + 1, m', by omega, z.1, by rw [Pl.runN_succ er]; exact e, z.2⟩, ?_⟩⟩
      exact ⟨_, rfl, _, _, rfl, rfl, h', rfl⟩
  · rw [decide_eq_false (show ¬ ((s : Nat) : Int) < (fuel : Int) by omega)]
    have : s = fuel := by omega
    exact iteF (iteF ⟨_, rfl, q H1 m s h1 er (by omega) (.inl this)⟩)
def spInit (K : PySem.W.Frag) : Sp := fun vs H Q _ => ∃ (H0 : Hp) (p dx a b : Addr) (R : Tl) (nums : List Int), vs = [.ref p, .ref a, .ref b] ∧ H0 p = none ∧ H0 dx = none ∧ dx ≠ p ∧ H = upd (upd H0 dx (.own p)) p (.ins (He.ga K "State") dx []) ∧
  SqL K H0 a ((flat R).map V.int) ∧ SqL K H0 b (nums.map V.int) ∧ R.length ≤ 100 ∧ ∀ H' Hf c, c.p = p → Same H0 Hf → Cf K Hf c (tabOf R) nums → StM K Hf c H' Pl.init 0 → Q .non H'
abbrev sInit : Stmt := inClass (tp 59) 0
theorem scInit : FnScope ["self", "image", "numbers"] ["self", "image", "numbers"] (defScope sInit) := ⟨rfl, rfl, rfl, by decide +kernel, rfl, by decide +kernel, by decide +kernel⟩
theorem ok_init {f : Addr} {fd : FuncData} (F : FunD K "__init__" "State.__init__" (defArgs sInit) (defBody sInit) (defScope sInit) [] [] f fd) (T : Txt K mg)
    (Gtable_of : Cal P w K mg base 2 "table_of" ["image"] (spTab K)) : FnOk P w K mg base CX0 3 f fd ["self", "image", "numbers"] (spInit K) := by
  refine m_ok F scInit (fun vs H Q E h => ?_) (fun cdv A outer s H vs Q E hr h => ?_)
  · obtain ⟨H0, p, dx, a, b, R, nums, rfl, _⟩ := h
    rfl
  obtain ⟨H0, p, dx, a, b, R, nums, rfl, hp, hdx, ne, rfl, S, N, hR, q⟩ := h
  have hu := hu_of hr
  refine ⟨_, (pss_cons (ps_fld (pv 0) (pe_callTy call_list_of (by rfl) T.list b_list (pa_cons (pv 1) pa_nil)) rfl)
        (pss_cons (ps_fld (pv 0) (pe_callTy call_list_of (by rfl) T.list b_list (pa_cons (pv 2) pa_nil)) rfl)
        (pss_cons (ps_fld (pv 0) (pe_c Gtable_of hr (pa_cons (pv 1) pa_nil)) rfl)
        (pss_cons (ps_fld (pv 0) pe_int rfl)
        (pss_cons (ps_fld (pv 0) (pe_lst pa_nil) rfl)
        (pss_cons (ps_fld (pv 0) pe_dnewK rfl)
        (pss_cons (ps_fld (pv 0) (pe_lst pa_nil) rfl)
        (pss_cons (ps_fld (pv 0) pe_int rfl)
        (pss_cons (ps_fld (pv 0) (pe_lst pa_nil) rfl)
        (pss_one (ps_fld (pv 0) pe_int rfl))))))))))), ?_⟩
  have s0 : Same H0 (upd (upd H0 dx (.own p)) p (.ins (He.ga K "State") dx [])) := Same.mut (Same.new hdx) hp
  have hp0 : (upd (upd H0 dx (.own p)) p (.ins (He.ga K "State") dx [])) p = some (.ins (He.ga K "State") dx []) := upd_same
  generalize upd (upd H0 dx (.own p)) p (.ins (He.ga K "State") dx []) = H1 at s0 hp0
  have tr : ∀ {X Y : Hp}, Same H0 X → Same X Y → Same H0 Y := fun x y => x.trans y
  refine ⟨_, rfl, a, _, rfl, .inl (sqSame s0 S), fun im him => ?_⟩
  have s1 := s0.trans (Same.new (o := .lst ((flat R).map V.int)) him)
  have hp1 := (upd_ne (o := .lst ((flat R).map V.int)) (ne_of_none hp0 him)).trans hp0
  generalize upd H1 im (.lst ((flat R).map V.int)) = H2 at s1 hp1
  refine ⟨_, rfl, _, _, _, _, rfl, hp1, T.cl, T.noat "image" (by decide +kernel), (by decide), ?_⟩
  have s2 := Same.mut (o := .ins (He.ga K "State") dx (putF "image" (.ref im) [])) s1 hp
  have hp2 : (upd H2 p (.ins (He.ga K "State") dx (putF "image" (.ref im) []))) p = _ := upd_same
  generalize upd H2 p (.ins (He.ga K "State") dx (putF "image" (.ref im) [])) = H3 at s2 hp2
  refine ⟨_, rfl, b, _, rfl, .inl (sqSame s2 N), fun nu hnu => ?_⟩
  have s3 := s2.trans (Same.new (o := .lst (nums.map V.int)) hnu)
  have hp3 := (upd_ne (o := .lst (nums.map V.int)) (ne_of_none hp2 hnu)).trans hp2
  have hn3 : (upd H3 nu (.lst (nums.map V.int))) nu = _ := upd_same
  have npnu : p ≠ nu := ne_of_none hp2 hnu
  generalize upd H3 nu (.lst (nums.map V.int)) = H4 at s3 hp3 hn3
  refine ⟨_, rfl, _, _, _, _, rfl, hp3, T.cl, T.noat "numbers" (by decide +kernel), (by show 1 < 1000; decide), ?_⟩
  have s4 := Same.mut (o := .ins (He.ga K "State") dx (putF "numbers" (.ref nu) (putF "image" (.ref im) []))) s3 hp
  have hp4 : (upd H4 p (.ins (He.ga K "State") dx (putF "numbers" (.ref nu) (putF "image" (.ref im) [])))) p = _ := upd_same
  have hn4 := (upd_ne (o := .ins (He.ga K "State") dx (putF "numbers" (.ref nu) (putF "image" (.ref im) []))) npnu.symm).trans hn3
  generalize upd H4 p (.ins (He.ga K "State") dx (putF "numbers" (.ref nu) (putF "image" (.ref im) []))) = H5 at s4 hp4 hn4
  refine ⟨_, rfl, a, R, rfl, sqSame s4 S, hR, fun H6 tb s5' htb tm => ?_⟩
  have s5 := s4.trans s5'
  have hp5 := s5' _ _ hp4
  have hn5 := s5' _ _ hn4
  have nptb : p ≠ tb := ne_of_none hp4 htb
  refine ⟨_, rfl, _, _, _, _, rfl, hp5, T.cl, T.noat "table" (by decide +kernel), (by show 2 < 1000; decide), ?_⟩
  have k6 : TK H6 (upd H6 p (.ins (He.ga K "State") dx (putF "table" (.ref tb) (putF "numbers" (.ref nu) (putF "image" (.ref im) []))))) := TK.updS hp5
  have tm6 : TabM _ tb (tabOf R) := tm.mut k6 fun kz ez => (upd_ne nptb.symm).trans ez
  have s6 := Same.mut (o := .ins (He.ga K "State") dx (putF "table" (.ref tb) (putF "numbers" (.ref nu) (putF "image" (.ref im) [])))) s5 hp
  have hp6 : (upd H6 p (.ins (He.ga K "State") dx (putF "table" (.ref tb) (putF "numbers" (.ref nu) (putF "image" (.ref im) []))))) p = _ := upd_same
  have hn6 := (upd_ne (o := .ins (He.ga K "State") dx (putF "table" (.ref tb) (putF "numbers" (.ref nu) (putF "image" (.ref im) [])))) npnu.symm).trans hn5
  generalize upd H6 p (.ins (He.ga K "State") dx (putF "table" (.ref tb) (putF "numbers" (.ref nu) (putF "image" (.ref im) [])))) = H7 at k6 tm6 s6 hp6 hn6
  -- the frozen heap
  have sf : Same H0 (fun z => if z = p then none else H7 z) := fun z u ez => by
    have : z ≠ p := fun q => by
      rw [q, hp] at ez
      cases ez
    show (if z = p then none else H7 z) = some u
    rw [if_neg this]
    exact s6 z u ez
  have kf : TK H7 (fun z => if z = p then none else H7 z) := fun z xs ez => by
    have : z ≠ p := fun q => by
      rw [q, hp6] at ez
      cases ez
    show (if z = p then none else H7 z) = _
    rw [if_neg this]
    exact ez
  have tf : TabM (fun z => if z = p then none else H7 z) tb (tabOf R) := tm6.mut kf fun kz ez => by
    show (if tb = p then none else H7 tb) = _
    rw [if_neg nptb.symm]
    exact ez
  have nf : SqL K (fun z => if z = p then none else H7 z) nu (nums.map V.int) := SqL.of (by
    show (if nu = p then none else H7 nu) = _
    rw [if_neg npnu.symm]
    exact hn6)
  have fp : (fun z => if z = p then none else H7 z) p = none := if_pos rfl
  have f7 : Same (fun z => if z = p then none else H7 z) H7 := fun z u ez => by
    have ez : (if z = p then none else H7 z) = some u := ez
    by_cases q : z = p
    · rw [if_pos q] at ez
      cases ez
    · rw [if_neg q] at ez
      exact ez
  generalize (fun z => if z = p then none else H7 z) = Hf at sf kf tf nf fp f7
  refine ⟨_, rfl, _, _, _, _, rfl, hp6, T.cl, T.noat "at" (by decide +kernel), (by show 3 < 1000; decide), ?_⟩
  have f8 := Same.mut (o := .ins (He.ga K "State") dx (putF "at" (.int 0) (putF "table" (.ref tb) (putF "numbers" (.ref nu) (putF "image" (.ref im) []))))) f7 fp
  have hp8 : (upd H7 p (.ins (He.ga K "State") dx (putF "at" (.int 0) (putF "table" (.ref tb) (putF "numbers" (.ref nu) (putF "image" (.ref im) [])))))) p = _ := upd_same
  generalize upd H7 p (.ins (He.ga K "State") dx (putF "at" (.int 0) (putF "table" (.ref tb) (putF "numbers" (.ref nu) (putF "image" (.ref im) []))))) = H8 at f8 hp8
  refine ⟨Nat.zero_le _, fun sk hsk => ?_⟩
  have f9 := f8.trans (Same.new (o := .lst []) hsk)
  have hp9 := (upd_ne (o := .lst []) (ne_of_none hp8 hsk)).trans hp8
  have npsk : p ≠ sk := ne_of_none hp8 hsk
  have osk : Hf sk = none := f8.free hsk
  have esk : (upd H8 sk (.lst [])) sk = some (.lst []) := upd_same
  generalize upd H8 sk (.lst []) = H9 at f9 hp9 esk
  refine ⟨_, rfl, _, _, _, _, rfl, hp9, T.cl, T.noat "stack" (by decide +kernel), (by show 4 < 1000; decide), ?_⟩
  have f10 := Same.mut (o := .ins (He.ga K "State") dx (putF "stack" (.ref sk) (putF "at" (.int 0) (putF "table" (.ref tb) (putF "numbers" (.ref nu) (putF "image" (.ref im) [])))))) f9 fp
  have hp10 : (upd H9 p (.ins (He.ga K "State") dx (putF "stack" (.ref sk) (putF "at" (.int 0) (putF "table" (.ref tb) (putF "numbers" (.ref nu) (putF "image" (.ref im) []))))))) p = _ := upd_same
  have esk := (upd_ne (o := .ins (He.ga K "State") dx (putF "stack" (.ref sk) (putF "at" (.int 0) (putF "table" (.ref tb) (putF "numbers" (.ref nu) (putF "image" (.ref im) [])))))) npsk.symm).trans esk
  generalize upd H9 p (.ins (He.ga K "State") dx (putF "stack" (.ref sk) (putF "at" (.int 0) (putF "table" (.ref tb) (putF "numbers" (.ref nu) (putF "image" (.ref im) [])))))) = H10 at f10 hp10 esk
  refine fun so hso => ?_
  have f11 := f10.trans (Same.new (o := .dK []) hso)
  have hp11 := (upd_ne (o := .dK []) (ne_of_none hp10 hso)).trans hp10
  have npso : p ≠ so := ne_of_none hp10 hso
  have oso : Hf so = none := f10.free hso
  have nskso : sk ≠ so := ne_of_none esk hso
  have esk := (upd_ne (o := .dK []) nskso).trans esk
  have eso : (upd H10 so (.dK [])) so = some (.dK []) := upd_same
  generalize upd H10 so (.dK []) = H11 at f11 hp11 esk eso
  refine ⟨_, rfl, _, _, _, _, rfl, hp11, T.cl, T.noat "store" (by decide +kernel), (by show 5 < 1000; decide), ?_⟩
  have f12 := Same.mut (o := .ins (He.ga K "State") dx (putF "store" (.ref so) (putF "stack" (.ref sk) (putF "at" (.int 0) (putF "table" (.ref tb) (putF "numbers" (.ref nu) (putF "image" (.ref im) []))))))) f11 fp
  have hp12 : (upd H11 p (.ins (He.ga K "State") dx (putF "store" (.ref so) (putF "stack" (.ref sk) (putF "at" (.int 0) (putF "table" (.ref tb) (putF "numbers" (.ref nu) (putF "image" (.ref im) [])))))))) p = _ := upd_same
  have esk := (upd_ne (o := .ins (He.ga K "State") dx (putF "store" (.ref so) (putF "stack" (.ref sk) (putF "at" (.int 0) (putF "table" (.ref tb) (putF "numbers" (.ref nu) (putF "image" (.ref im) []))))))) npsk.symm).trans esk
  have eso := (upd_ne (o := .ins (He.ga K "State") dx (putF "store" (.ref so) (putF "stack" (.ref sk) (putF "at" (.int 0) (putF "table" (.ref tb) (putF "numbers" (.ref nu) (putF "image" (.ref im) []))))))) npso.symm).trans eso
  generalize upd H11 p (.ins (He.ga K "State") dx (putF "store" (.ref so) (putF "stack" (.ref sk) (putF "at" (.int 0) (putF "table" (.ref tb) (putF "numbers" (.ref nu) (putF "image" (.ref im) []))))))) = H12 at f12 hp12 esk eso
  refine ⟨Nat.zero_le _, fun bk hbk => ?_⟩
  have f13 := f12.trans (Same.new (o := .lst []) hbk)
  have hp13 := (upd_ne (o := .lst []) (ne_of_none hp12 hbk)).trans hp12
  have npbk : p ≠ bk := ne_of_none hp12 hbk
  have obk : Hf bk = none := f12.free hbk
  have nskbk : sk ≠ bk := ne_of_none esk hbk
  have esk := (upd_ne (o := .lst []) nskbk).trans esk
  have nsobk : so ≠ bk := ne_of_none eso hbk
  have eso := (upd_ne (o := .lst []) nsobk).trans eso
  have ebk : (upd H12 bk (.lst [])) bk = some (.lst []) := upd_same
  generalize upd H12 bk (.lst []) = H13 at f13 hp13 esk eso ebk
  refine ⟨_, rfl, _, _, _, _, rfl, hp13, T.cl, T.noat "back" (by decide +kernel), (by show 6 < 1000; decide), ?_⟩
  have f14 := Same.mut (o := .ins (He.ga K "State") dx (putF "back" (.ref bk) (putF "store" (.ref so) (putF "stack" (.ref sk) (putF "at" (.int 0) (putF "table" (.ref tb) (putF "numbers" (.ref nu) (putF "image" (.ref im) [])))))))) f13 fp
  have hp14 : (upd H13 p (.ins (He.ga K "State") dx (putF "back" (.ref bk) (putF "store" (.ref so) (putF "stack" (.ref sk) (putF "at" (.int 0) (putF "table" (.ref tb) (putF "numbers" (.ref nu) (putF "image" (.ref im) []))))))))) p = _ := upd_same
  have esk := (upd_ne (o := .ins (He.ga K "State") dx (putF "back" (.ref bk) (putF "store" (.ref so) (putF "stack" (.ref sk) (putF "at" (.int 0) (putF "table" (.ref tb) (putF "numbers" (.ref nu) (putF "image" (.ref im) [])))))))) npsk.symm).trans esk
  have eso := (upd_ne (o := .ins (He.ga K "State") dx (putF "back" (.ref bk) (putF "store" (.ref so) (putF "stack" (.ref sk) (putF "at" (.int 0) (putF "table" (.ref tb) (putF "numbers" (.ref nu) (putF "image" (.ref im) [])))))))) npso.symm).trans eso
  have ebk := (upd_ne (o := .ins (He.ga K "State") dx (putF "back" (.ref bk) (putF "store" (.ref so) (putF "stack" (.ref sk) (putF "at" (.int 0) (putF "table" (.ref tb) (putF "numbers" (.ref nu) (putF "image" (.ref im) [])))))))) npbk.symm).trans ebk
  generalize upd H13 p (.ins (He.ga K "State") dx (putF "back" (.ref bk) (putF "store" (.ref so) (putF "stack" (.ref sk) (putF "at" (.int 0) (putF "table" (.ref tb) (putF "numbers" (.ref nu) (putF "image" (.ref im) [])))))))) = H14 at f14 hp14 esk eso ebk
  refine ⟨_, rfl, _, _, _, _, rfl, hp14, T.cl, T.noat "place" (by decide +kernel), (by show 7 < 1000; decide), ?_⟩
  have f15 := Same.mut (o := .ins (He.ga K "State") dx (putF "place" (.int 0) (putF "back" (.ref bk) (putF "store" (.ref so) (putF "stack" (.ref sk) (putF "at" (.int 0) (putF "table" (.ref tb) (putF "numbers" (.ref nu) (putF "image" (.ref im) []))))))))) f14 fp
  have hp15 : (upd H14 p (.ins (He.ga K "State") dx (putF "place" (.int 0) (putF "back" (.ref bk) (putF "store" (.ref so) (putF "stack" (.ref sk) (putF "at" (.int 0) (putF "table" (.ref tb) (putF "numbers" (.ref nu) (putF "image" (.ref im) [])))))))))) p = _ := upd_same
  have esk := (upd_ne (o := .ins (He.ga K "State") dx (putF "place" (.int 0) (putF "back" (.ref bk) (putF "store" (.ref so) (putF "stack" (.ref sk) (putF "at" (.int 0) (putF "table" (.ref tb) (putF "numbers" (.ref nu) (putF "image" (.ref im) []))))))))) npsk.symm).trans esk
  have eso := (upd_ne (o := .ins (He.ga K "State") dx (putF "place" (.int 0) (putF "back" (.ref bk) (putF "store" (.ref so) (putF "stack" (.ref sk) (putF "at" (.int 0) (putF "table" (.ref tb) (putF "numbers" (.ref nu) (putF "image" (.ref im) []))))))))) npso.symm).trans eso
  have ebk := (upd_ne (o := .ins (He.ga K "State") dx (putF "place" (.int 0) (putF "back" (.ref bk) (putF "store" (.ref so) (putF "stack" (.ref sk) (putF "at" (.int 0) (putF "table" (.ref tb) (putF "numbers" (.ref nu) (putF "image" (.ref im) []))))))))) npbk.symm).trans ebk
  generalize upd H14 p (.ins (He.ga K "State") dx (putF "place" (.int 0) (putF "back" (.ref bk) (putF "store" (.ref so) (putF "stack" (.ref sk) (putF "at" (.int 0) (putF "table" (.ref tb) (putF "numbers" (.ref nu) (putF "image" (.ref im) []))))))))) = H15 at f15 hp15 esk eso ebk
  refine ⟨Nat.zero_le _, fun ou hou => ?_⟩
  have f16 := f15.trans (Same.new (o := .lst []) hou)
  have hp16 := (upd_ne (o := .lst []) (ne_of_none hp15 hou)).trans hp15
  have npou : p ≠ ou := ne_of_none hp15 hou
  have oou : Hf ou = none := f15.free hou
  have nskou : sk ≠ ou := ne_of_none esk hou
  have esk := (upd_ne (o := .lst []) nskou).trans esk
  have nsoou : so ≠ ou := ne_of_none eso hou
  have eso := (upd_ne (o := .lst []) nsoou).trans eso
  have nbkou : bk ≠ ou := ne_of_none ebk hou
  have ebk := (upd_ne (o := .lst []) nbkou).trans ebk
  have eou : (upd H15 ou (.lst [])) ou = some (.lst []) := upd_same
  generalize upd H15 ou (.lst []) = H16 at f16 hp16 esk eso ebk eou
  refine ⟨_, rfl, _, _, _, _, rfl, hp16, T.cl, T.noat "output" (by decide +kernel), (by show 8 < 1000; decide), ?_⟩
  have f17 := Same.mut (o := .ins (He.ga K "State") dx (putF "output" (.ref ou) (putF "place" (.int 0) (putF "back" (.ref bk) (putF "store" (.ref so) (putF "stack" (.ref sk) (putF "at" (.int 0) (putF "table" (.ref tb) (putF "numbers" (.ref nu) (putF "image" (.ref im) [])))))))))) f16 fp
  have hp17 : (upd H16 p (.ins (He.ga K "State") dx (putF "output" (.ref ou) (putF "place" (.int 0) (putF "back" (.ref bk) (putF "store" (.ref so) (putF "stack" (.ref sk) (putF "at" (.int 0) (putF "table" (.ref tb) (putF "numbers" (.ref nu) (putF "image" (.ref im) []))))))))))) p = _ := upd_same
  have esk := (upd_ne (o := .ins (He.ga K "State") dx (putF "output" (.ref ou) (putF "place" (.int 0) (putF "back" (.ref bk) (putF "store" (.ref so) (putF "stack" (.ref sk) (putF "at" (.int 0) (putF "table" (.ref tb) (putF "numbers" (.ref nu) (putF "image" (.ref im) [])))))))))) npsk.symm).trans esk
  have eso := (upd_ne (o := .ins (He.ga K "State") dx (putF "output" (.ref ou) (putF "place" (.int 0) (putF "back" (.ref bk) (putF "store" (.ref so) (putF "stack" (.ref sk) (putF "at" (.int 0) (putF "table" (.ref tb) (putF "numbers" (.ref nu) (putF "image" (.ref im) [])))))))))) npso.symm).trans eso
  have ebk := (upd_ne (o := .ins (He.ga K "State") dx (putF "output" (.ref ou) (putF "place" (.int 0) (putF "back" (.ref bk) (putF "store" (.ref so) (putF "stack" (.ref sk) (putF "at" (.int 0) (putF "table" (.ref tb) (putF "numbers" (.ref nu) (putF "image" (.ref im) [])))))))))) npbk.symm).trans ebk
  have eou := (upd_ne (o := .ins (He.ga K "State") dx (putF "output" (.ref ou) (putF "place" (.int 0) (putF "back" (.ref bk) (putF "store" (.ref so) (putF "stack" (.ref sk) (putF "at" (.int 0) (putF "table" (.ref tb) (putF "numbers" (.ref nu) (putF "image" (.ref im) [])))))))))) npou.symm).trans eou
  generalize upd H16 p (.ins (He.ga K "State") dx (putF "output" (.ref ou) (putF "place" (.int 0) (putF "back" (.ref bk) (putF "store" (.ref so) (putF "stack" (.ref sk) (putF "at" (.int 0) (putF "table" (.ref tb) (putF "numbers" (.ref nu) (putF "image" (.ref im) [])))))))))) = H17 at f17 hp17 esk eso ebk eou
  refine ⟨_, rfl, _, _, _, _, rfl, hp17, T.cl, T.noat "steps" (by decide +kernel), (by show 9 < 1000; decide), ?_⟩
  have f18 := Same.mut (o := .ins (He.ga K "State") dx (putF "steps" (.int 0) (putF "output" (.ref ou) (putF "place" (.int 0) (putF "back" (.ref bk) (putF "store" (.ref so) (putF "stack" (.ref sk) (putF "at" (.int 0) (putF "table" (.ref tb) (putF "numbers" (.ref nu) (putF "image" (.ref im) []))))))))))) f17 fp
  have hp18 : (upd H17 p (.ins (He.ga K "State") dx (putF "steps" (.int 0) (putF "output" (.ref ou) (putF "place" (.int 0) (putF "back" (.ref bk) (putF "store" (.ref so) (putF "stack" (.ref sk) (putF "at" (.int 0) (putF "table" (.ref tb) (putF "numbers" (.ref nu) (putF "image" (.ref im) [])))))))))))) p = _ := upd_same
  have esk := (upd_ne (o := .ins (He.ga K "State") dx (putF "steps" (.int 0) (putF "output" (.ref ou) (putF "place" (.int 0) (putF "back" (.ref bk) (putF "store" (.ref so) (putF "stack" (.ref sk) (putF "at" (.int 0) (putF "table" (.ref tb) (putF "numbers" (.ref nu) (putF "image" (.ref im) []))))))))))) npsk.symm).trans esk
  have eso := (upd_ne (o := .ins (He.ga K "State") dx (putF "steps" (.int 0) (putF "output" (.ref ou) (putF "place" (.int 0) (putF "back" (.ref bk) (putF "store" (.ref so) (putF "stack" (.ref sk) (putF "at" (.int 0) (putF "table" (.ref tb) (putF "numbers" (.ref nu) (putF "image" (.ref im) []))))))))))) npso.symm).trans eso
  have ebk := (upd_ne (o := .ins (He.ga K "State") dx (putF "steps" (.int 0) (putF "output" (.ref ou) (putF "place" (.int 0) (putF "back" (.ref bk) (putF "store" (.ref so) (putF "stack" (.ref sk) (putF "at" (.int 0) (putF "table" (.ref tb) (putF "numbers" (.ref nu) (putF "image" (.ref im) []))))))))))) npbk.symm).trans ebk
  have eou := (upd_ne (o := .ins (He.ga K "State") dx (putF "steps" (.int 0) (putF "output" (.ref ou) (putF "place" (.int 0) (putF "back" (.ref bk) (putF "store" (.ref so) (putF "stack" (.ref sk) (putF "at" (.int 0) (putF "table" (.ref tb) (putF "numbers" (.ref nu) (putF "image" (.ref im) []))))))))))) npou.symm).trans eou
  generalize upd H17 p (.ins (He.ga K "State") dx (putF "steps" (.int 0) (putF "output" (.ref ou) (putF "place" (.int 0) (putF "back" (.ref bk) (putF "store" (.ref so) (putF "stack" (.ref sk) (putF "at" (.int 0) (putF "table" (.ref tb) (putF "numbers" (.ref nu) (putF "image" (.ref im) []))))))))))) = H18 at f18 hp18 esk eso ebk eou
  refine q H18 Hf ⟨p, dx, im, nu, tb, sk, so, bk, ou⟩ rfl sf ⟨fp, osk, oso, obk, oou, npsk, npso, npbk, npou, nskso, nskbk, nskou, nsobk, nsoou, nbkou, tf.at_, nf⟩ ⟨f18, hp18, esk, eso, ebk, eou, List.nodup_nil⟩
end Zw
namespace Zw
open PySem PySem.Spec PyProof.Rows L2 PH
variable {P : Program} {w : World} {K : PySem.W.Frag} {mg : Str → Option Value} {base : Heap}
theorem St.same {Hf H H' : Hp} {c : Cfg} {a : Int} {sk bk ou : List Int} {so : List (Int × Int)} {pl n : Nat} (s : Same H H') (h : St K Hf c H a sk so bk pl ou n) : St K Hf c H' a sk so bk pl ou n :=
  ⟨h.fr.trans s, s _ _ h.ins, s _ _ h.hsk, s _ _ h.hso, s _ _ h.hbk, s _ _ h.hou, h.nd⟩
def spBehind (K : PySem.W.Frag) : Sp := fun vs H Q _ => ∃ (a b : Addr) (R : Tl) (nums : List Int) (budget : Nat), vs = [.ref a, .ref b, .int budget] ∧ SqL K H a ((flat R).map V.int) ∧ SqL K H b (nums.map V.int) ∧ R.length ≤ 100 ∧ budget ≤ 7000 ∧ Clos (tabOf R) ∧
  ∀ H' Hf c m s, Same H H' → Cf K Hf c (tabOf R) nums → StM K Hf c H' m s → Pl.runN (look (tabOf R)) nums s Pl.init = some m → s ≤ budget → (s = budget ∨ look (tabOf R) m.at_ = none) → Q (.ref c.p) H'
abbrev s_law_behind : Stmt := tp 78
theorem sc_law_behind : FnScope ["_law_image_here", "_law_numbers", "_law_budget", "_law_state"] ["_law_image_here", "_law_numbers", "_law_budget"] (defScope s_law_behind) := ⟨rfl, rfl, rfl, by decide +kernel, rfl, by decide +kernel, by decide +kernel⟩
theorem c__law_behind (F : Top K mg "_law_behind" s_law_behind) (T : Txt K mg) {fdI fdA : FuncData} (GInit : FnOk P w K mg base CX0 3 (He.ma K (He.ga K "State") "__init__") fdI ["self", "image", "numbers"] (spInit K)) (bInit : Binds K fdI ["self", "image", "numbers"] [])
    (Gadvance : FnOk P w K mg base CX0 4 (He.ma K (He.ga K "State") "advance") fdA ["self", "fuel"] (spAdv K)) (badvance : KBn K fdA ["self", "fuel"] 1 ["fuel"] (fun us ws => us ++ ws) (fun vs zs => vs ++ zs)) : Cal P w K mg base 5 "_law_behind" ["_law_image_here", "_law_numbers", "_law_budget"] (spBehind K) := by
  refine F.cal sc_law_behind (fun vs H Q E h => ?_) (fun _ _ _ _ _ _ us hl => match us, hl with | [_, _, _], _ => rfl) (fun f cdv A outer s H vs Q E hr h => ?_)
  · obtain ⟨a, b, R, nums, budget, rfl, _⟩ := h
    rfl
  obtain ⟨a, b, R, nums, budget, rfl, S, N, hR, hb, cl, q⟩ := h
  have hu := hu_of hr
  refine ⟨_, (pss_cons (ps_set (i := 3) sc_law_behind.nd rfl (Or.inl rfl) (pe_make T.mkS GInit (hr.mono (by decide)) rfl T.mState bInit .nil pass0 (pa_cons (pe_callTy call_list_of (by rfl) T.list b_list (pa_cons (pv 0) pa_nil)) (pa_cons (pe_callTy call_list_of (by rfl) T.list b_list (pa_cons (pv 1) pa_nil)) pa_nil))))
        (pss_cons (ps_expr (pe_methKw (pv 3) T.cl T.m_advance Gadvance hr badvance (pk_cons (pv 2) pk_nil)))
        (pss_one (ps_ret (pv 3))))), ?_⟩
  refine ⟨_, rfl, a, _, rfl, .inl S, fun l hl => ?_⟩
  have s1 : Same H _ := Same.new (o := .lst ((flat R).map V.int)) hl
  have hl1 : (upd H l (.lst ((flat R).map V.int))) l = _ := upd_same
  generalize upd H l (.lst ((flat R).map V.int)) = H1 at s1 hl1
  refine ⟨_, rfl, b, _, rfl, .inl (sqSame s1 N), fun l2 hl2 => ?_⟩
  have s2 := s1.trans (Same.new (o := .lst (nums.map V.int)) hl2)
  have hl3 := (upd_ne (o := .lst (nums.map V.int)) (ne_of_none hl1 hl2)).trans hl1
  have hl4 : (upd H1 l2 (.lst (nums.map V.int))) l2 = _ := upd_same
  generalize upd H1 l2 (.lst (nums.map V.int)) = H2 at s2 hl3 hl4
  intro x dx hx hdx ne
  refine ⟨H2, x, dx, l, l2, R, nums, rfl, hx, hdx, ne, rfl, SqL.of hl3, SqL.of hl4, hR, fun H3 Hf c ec s3 C h => ?_⟩
  subst ec
  refine ⟨rfl, ?_⟩
  refine ⟨_, rfl, _, _, _, rfl, h.ins, rfl, _, rfl, rfl, Hf, c, tabOf R, nums, budget, C, rfl, h, hb, cl, fun H4 m s h' er hs ho => ?_⟩
  exact ⟨_, rfl, q H4 Hf c m s ((s2.trans s3).trans h'.fr) C h' er hs ho⟩
end Zw
namespace Zw
open PySem PySem.Spec PyProof.Rows L2 PH
variable {P : Program} {w : World} {K : PySem.W.Frag} {mg : Str → Option Value} {base : Heap}
def PrAt (H : Hp) (v : V) (q : Int × Int) : Prop := ∃ u, v = .ref u ∧ H u = some (.tup [.int q.1, .int q.2])
theorem PrAt.keep {H H' : Hp} {v : V} {q : Int × Int} (k : TK H H') (h : PrAt H v q) : PrAt H' v q := let ⟨u, e, h⟩ := h; ⟨u, e, k _ _ h⟩
def Prs (H : Hp) (ys : List V) (E : List (Int × Int)) : Prop := Paired (PrAt H) ys E
theorem Prs.keep {H H' : Hp} {ys : List V} {E : List (Int × Int)} (k : TK H H') (h : Prs H ys E) : Prs H' ys E := by
  unfold Prs at h ⊢
  exact Paired.mapP h fun p q e => e.keep k
theorem Prs.snoc {H : Hp} {ys : List V} {E : List (Int × Int)} {v : V} {q : Int × Int} (h : Prs H ys E) (e : PrAt H v q) : Prs H (ys ++ [v]) (E ++ [q]) := by
  unfold Prs at h ⊢
  induction h with
  | nil => exact .cons e .nil
  | cons a _ ih => exact .cons a ih
/-- the pair that stands at a value -/
noncomputable def kOf (H : Hp) (v : V) : Int × Int := match v with
  | .ref u => (match H u with
    | some (.tup [.int a, .int b]) => (a, b)
    | _ => (0, 0))
  | _ => (0, 0)
theorem kOf_eq {H : Hp} {v : V} {q : Int × Int} (h : PrAt H v q) : kOf H v = q := by
  obtain ⟨u, rfl, h⟩ := h
  show (match H u with
    | some (.tup [.int a, .int b]) => (a, b)
    | _ => (0, 0)) = q
  rw [h]
theorem Prs.map {H : Hp} {ys : List V} {E : List (Int × Int)} (h : Prs H ys E) : ys.map (kOf H) = E := by
  unfold Prs at h
  induction h with
  | nil => rfl
  | cons a _ ih => rw [List.map_cons, kOf_eq a, ih]
theorem Prs.mem {H : Hp} {ys : List V} {E : List (Int × Int)} (h : Prs H ys E) : ∀ v ∈ ys, PrAt H v (kOf H v) := by
  unfold Prs at h
  induction h with
  | nil => intro v z; cases z
  | @cons v q vs qs a _ ih =>
    intro x hx
    rcases List.mem_cons.mp hx with e | hx
    · rw [e, kOf_eq a]
      exact a
    · exact ih x hx
theorem prs_of {H : Hp} : ∀ {ys : List V}, (∀ v ∈ ys, PrAt H v (kOf H v)) → Prs H ys (ys.map (kOf H))
  | [], _ => .nil
  | v :: r, h => .cons (h v List.mem_cons_self) (prs_of fun x hx => h x (List.mem_cons_of_mem _ hx))
def ShAt (H : Hp) (p : Addr) (ou sk : List Int) (E : List (Int × Int)) : Prop := ∃ o s t ys, H p = some (.lst [.ref o, .ref s, .ref t]) ∧ H o = some (.lst (ou.map V.int)) ∧ H s = some (.lst (sk.map V.int)) ∧ H t = some (.lst ys) ∧ Prs H ys E
theorem ShAt.same {H H' : Hp} {p : Addr} {ou sk : List Int} {E : List (Int × Int)} (s : Same H H') (h : ShAt H p ou sk E) : ShAt H' p ou sk E := by
  obtain ⟨a, b, c, ys, h1, h2, h3, h4, h5⟩ := h
  exact ⟨a, b, c, ys, s _ _ h1, s _ _ h2, s _ _ h3, s _ _ h4, h5.keep (TK.of s)⟩
def nz (q : Int × Int) : Bool := !decide (q.2 = 0)
def SrtE (E S : List (Int × Int)) : Prop := E.Pairwise (fun a b => SrtO.lexB b a = false) ∧ E.Perm (S.filter nz)
theorem SrtE.uniq {E E' S : List (Int × Int)} (h : SrtE E S) (h' : SrtE E' S) : E = E' := by
  refine List.Perm.eq_of_pairwise (le := fun a b => SrtO.lexB b a = false) (fun a b _ _ h1 h2 => ?_) h.1 h'.1 (h.2.trans h'.2.symm)
  have a1 := SrtO.lexB_no.mp h1
  have a2 := SrtO.lexB_no.mp h2
  have e1 : a.1 = b.1 := by omega
  have e2 : a.2 = b.2 := by omega
  exact Prod.ext e1 e2
def spShown (K : PySem.W.Frag) : Sp := fun vs H Q _ => ∃ (Hf : Hp) (c : Cfg) (L : Tl) (nums : List Int) (m : Pl.MS) (n : Nat), Cf K Hf c L nums ∧ vs = [.ref c.p] ∧ StM K Hf c H m n ∧ m.d.store.length ≤ 20000 ∧
  ∀ H' p E, Same H H' → ShAt H' p m.d.output m.d.stack E → SrtE E m.d.store → Q (.ref p) H'
abbrev s_law_shown : Stmt := tp 77
theorem sc_law_shown : FnScope ["_law_state", "_law_store", "_law_at"] ["_law_state"] (defScope s_law_shown) := ⟨rfl, rfl, rfl, by decide +kernel, rfl, by decide +kernel, by decide +kernel⟩
theorem c__law_shown (F : Top K mg "_law_shown" s_law_shown) (T : Txt K mg) : Cal P w K mg base 1 "_law_shown" ["_law_state"] (spShown K) := by
  refine F.cal sc_law_shown (fun vs H Q E h => ?_) (fun _ _ _ _ _ _ us hl => match us, hl with | [_], _ => rfl) (fun f cdv A outer s H vs Q E hr h => ?_)
  · obtain ⟨Hf, c, L, nums, m, n, C, rfl, _⟩ := h
    rfl
  obtain ⟨Hf, c, L, nums, ⟨a, bk, ⟨sk, so, pl, ou⟩⟩, n, C, rfl, h, hl, q⟩ := h
  have hu := hu_of hr
  have h : St K Hf c H a sk so bk pl ou n := h
  have hl : so.length ≤ 20000 := hl
  refine ⟨_, (pss_cons (ps_set (i := 1) sc_law_shown.nd rfl (Or.inl rfl) (pe_callB cr_sortedPO (by rfl) T.sorted b_sorted (pa_cons (pe_lock (pe_lc (own := [("_law_at", 2)]) (tt := _) rfl sc_law_shown.nd (pi_keys (pe_fld (pv 0) rfl)) (blkOk_by (own := [("_law_at", 2)]) (N := ["_law_state", "_law_store", "_law_at"]) (sc := defScope (tp 77)) (by decide +kernel)) (fun _ _ _ _ _ => pg_name (i := 2) sc_law_shown.nd rfl (Or.inl rfl)) (fun _ _ _ _ _ => pts_one (pt_cmpR op_ne (pe_dget hu (pe_fldK (K := K) rfl (pv 0) rfl) (pv 2) (fun _ _ => rfl)) pe_int (nomark _))) (fun _ _ _ _ _ => (pe_tup (pa_cons (pv 2) (pa_cons (pe_dget hu (pe_fldK (K := K) rfl (pv 0) rfl) (pv 2) (fun _ _ => rfl)) pa_nil)))))) pa_nil)))
        (pss_one (ps_ret (pe_lst (pa_cons (pe_callTy call_list_of (by rfl) T.list b_list (pa_cons (pe_fld (pv 0) rfl) pa_nil)) (pa_cons (pe_callTy call_list_of (by rfl) T.list b_list (pa_cons (pe_fld (pv 0) rfl) pa_nil)) (pa_cons (pv 1) pa_nil))))))), ?_⟩
  refine ⟨c.so, .dK (intD so), h.hso, trivial, fun od => ?_⟩
  have hi : (upd H c.so (.frz od (.dK (intD so)))) c.p = _ := (upd_ne C.pso).trans h.ins
  have hd : (upd H c.so (.frz od (.dK (intD so)))) c.so = _ := upd_same
  have back : ∀ H', Same (upd H c.so (.frz od (.dK (intD so)))) H' → Same H (upd H' c.so (.dK (intD so))) := fun H' s => unlock h.hso s
  generalize hHl : upd H c.so (.frz od (.dK (intD so))) = Hl at hi hd back
  refine ⟨_, rfl, _, _, _, _, _, rfl, hi, T.cl, T.noat "store" (by decide +kernel), rfl, c.so, od, rfl, .inl ⟨_, hd, fun D hD => ?_⟩⟩
  have nsD : c.so ≠ D := ne_of_none hd hD
  refine lc_it walk_keys (fun i H' => Same Hl H' ∧ ∃ ys, H' D = some (.lst ys) ∧ Prs H' ys ((so.take i).filter nz) ∧ ys.length ≤ i) ⟨Same.new hD, [], upd_same, .nil, Nat.le_refl _⟩ (fun i H' _ z => z.1 _ _ hd) ?_ ?_
  · rintro i x H2 H3 hix ⟨s2, ys, hy, pr, yl⟩ ⟨e1, k, v, hkv, ex⟩
    subst e1 ex
    rw [intD_len] at hix
    have hS : so[i]? = some so[i] := List.getElem?_eq_getElem hix
    have hkv' : (intD so)[i]? = some (Sum.inl so[i].1, V.int so[i].2) := by
      unfold intD
      rw [List.getElem?_map, hS]
      rfl
    rw [hkv'] at hkv
    cases hkv
    have hd2 := s2 _ _ hd
    have get : ∀ {H' : Hp}, H' c.so = some (.frz od (.dK (intD so))) → DGet H' c.so (.int so[i].1) (some (.int so[i].2)) := fun {H'} z => by
      have g := intD_get (.inr ⟨od, z⟩) so[i].1
      rw [show Pl.slook so so[i].1 = some so[i].2 from Pl.slook_at h.nd (n := so[i].1) (v := so[i].2) (List.mem_of_getElem? hS)] at g
      exact g
    have hi2 := s2 _ _ hi
    refine ⟨rfl, _, rfl, _, _, _, _, _, rfl, hi2, T.cl, T.noat "store" (by decide +kernel), rfl, _, rfl, _, _, rfl, get hd2, rfl, _, rfl, ifNe (fun ne => ?_) fun e => ?_⟩
    · refine ⟨_, rfl, _, rfl, _, _, _, _, _, rfl, hi2, T.cl, T.noat "store" (by decide +kernel), rfl, _, rfl, _, _, rfl, get hd2, (by show 2 ≤ sizeLine; decide), fun u hu0 => ?_⟩
      have nDu : D ≠ u := ne_of_none hy hu0
      refine ⟨ys, by rw [upd_ne nDu]; exact hy, Nat.lt_of_le_of_lt (show ys.length ≤ 20000 by omega) (by decide), Same.mut (s2.trans (Same.new hu0)) hD, _, upd_same, ?_, ?_⟩
      · rw [take_succ_some hS, List.filter_append]
        have e2 : [so[i]].filter nz = [so[i]] := by
          rw [List.filter_cons, if_pos (show nz so[i] = true by unfold nz; rw [decide_eq_false ne]; rfl)]
          rfl
        rw [e2]
        have k1 : TK H3 (upd H3 u (.tup [.int so[i].1, .int so[i].2])) := TK.updN hu0
        have k2 : TK (upd H3 u (.tup [.int so[i].1, .int so[i].2])) (upd (upd H3 u (.tup [.int so[i].1, .int so[i].2])) D (.lst (ys ++ [.ref u]))) := TK.updS (by rw [upd_ne nDu]; exact hy)
        exact ((pr.keep (k1.trans k2)).snoc ⟨u, rfl, k2 _ _ upd_same⟩)
      · rw [List.length_append]
        exact Nat.succ_le_succ yl
    · refine ⟨s2, ys, hy, ?_, by omega⟩
      rw [take_succ_some hS, List.filter_append]
      have e2 : [so[i]].filter nz = [] := by
        rw [List.filter_cons, if_neg (show ¬ nz so[i] = true by unfold nz; rw [decide_eq_true e]; decide)]
        rfl
      rw [e2, List.append_nil]
      exact pr
  · rintro H2 ⟨s2, ys, hy, pr, yl⟩
    rw [intD_len, List.take_length] at pr
    rw [intD_len] at yl
    have hd2 := s2 _ _ hd
    have k3 : TK H2 (upd H2 c.so (.dK (intD so))) := tk_unlock hd2
    have s3 := back H2 s2
    have h3 := h.same s3
    have hy3 : (upd H2 c.so (.dK (intD so))) D = some (.lst ys) := (upd_ne nsD.symm).trans hy
    have pr3 := pr.keep k3
    refine ⟨hd2, ?_⟩
    generalize upd H2 c.so (.dK (intD so)) = H4 at k3 s3 h3 hy3 pr3
    refine ⟨D, ys, kOf H4, rfl, SqL.of hy3, fun x hx => ?_, fun zs t srt stb ht => ?_⟩
    · exact pr3.mem x hx
    · have prz : Prs H4 zs (zs.map (kOf H4)) := prs_of fun v hv => pr3.mem v (stb.perm.mem_iff.mp hv)
      have se : SrtE (zs.map (kOf H4)) so := by
        refine ⟨List.pairwise_map.mpr srt, ?_⟩
        have := stb.perm.map (kOf H4)
        rw [pr3.map] at this
        exact this
      have h5 := h3.N (o := .lst zs) ht
      have s5 := s3.trans (Same.new (o := .lst zs) ht)
      have pr5 := prz.keep (TK.updN (o := .lst zs) ht)
      have ht5 : (upd H4 t (.lst zs)) t = _ := upd_same
      generalize upd H4 t (.lst zs) = H5 at h5 s5 pr5 ht5
      refine ⟨_, rfl, _, _, _, _, _, rfl, h5.ins, T.cl, T.noat "output" (by decide +kernel), rfl, _, _, rfl, .inl (SqL.of h5.hou), fun o ho => ?_⟩
      have h6 := h5.N (o := .lst (ou.map V.int)) ho
      have s6 := Same.new (o := .lst (ou.map V.int)) ho
      have ho6 : (upd H5 o (.lst (ou.map V.int))) o = _ := upd_same
      generalize upd H5 o (.lst (ou.map V.int)) = H6 at h6 s6 ho6
      refine ⟨_, rfl, _, _, _, _, _, rfl, h6.ins, T.cl, T.noat "stack" (by decide +kernel), rfl, _, _, rfl, .inl (SqL.of h6.hsk), fun s hs => ?_⟩
      have s7 := Same.new (o := .lst (sk.map V.int)) hs
      have hs7 : (upd H6 s (.lst (sk.map V.int))) s = _ := upd_same
      generalize upd H6 s (.lst (sk.map V.int)) = H7 at s7 hs7
      refine ⟨_, rfl, (by show 3 ≤ sizeLine; decide), fun p hp => ?_⟩
      have s8 := Same.new (o := .lst [.ref o, .ref s, .ref t]) hp
      have s68 := s7.trans s8
      have s58 := s6.trans s68
      exact q _ p (zs.map (kOf H4)) (s5.trans s58) ⟨o, s, t, zs, upd_same, s68 _ _ ho6, s8 _ _ hs7, s58 _ _ ht5, pr5.keep (TK.of s58)⟩ se
end Zw
namespace Zw
open PySem PySem.Spec PyProof.Rows L2 PH
variable {P : Program} {w : World} {K : PySem.W.Frag} {mg : Str → Option Value} {base : Heap}
def shD (ou sk : List Int) (E : List (Int × Int)) : PyData := .list [.list (ou.map .int), .list (sk.map .int), .list (E.map fun q => .tuple [.int q.1, .int q.2])]
theorem dp_ints {H : Hp} : ∀ xs : List Int, DpAll K H (xs.map V.int) (xs.map PyData.int)
  | [] => .nil
  | x :: r => .cons (.int x) (dp_ints r)
theorem dp_prs {H : Hp} {ys : List V} {E : List (Int × Int)} (h : Prs H ys E) : DpAll K H ys (E.map fun q => .tuple [.int q.1, .int q.2]) := by
  unfold Prs at h
  induction h with
  | nil => exact .nil
  | cons a _ ih =>
    obtain ⟨u, rfl, hu⟩ := a
    exact .cons (.tup (SqT.of hu) (.cons (.int _) (.cons (.int _) .nil))) ih
theorem ShAt.dp {H : Hp} {p : Addr} {ou sk : List Int} {E : List (Int × Int)} (h : ShAt H p ou sk E) : Dp K H (.ref p) (shD ou sk E) := by
  obtain ⟨o, s, t, ys, h1, h2, h3, h4, h5⟩ := h
  exact .lst (SqL.of h1) (.cons (.lst (SqL.of h2) (dp_ints ou)) (.cons (.lst (SqL.of h3) (dp_ints sk)) (.cons (.lst (SqL.of h4) (dp_prs h5)) .nil)))
theorem lay_ints : ∀ xs : List Int, PyData.canLayAll0 (xs.map PyData.int) = true ∧ PyData.depthAll (xs.map PyData.int) = 0
  | [] => ⟨by simp [PyData.canLayAll0], by simp [PyData.depthAll]⟩
  | x :: r => by
    obtain ⟨a, b⟩ := lay_ints r
    constructor
    · simp only [List.map_cons, PyData.canLayAll0, PyData.canLay0, a, Bool.and_self]
    · simp only [List.map_cons, PyData.depthAll, PyData.depth, b, Nat.max_self]
theorem lay_prs : ∀ E : List (Int × Int), PyData.canLayAll0 (E.map fun q => PyData.tuple [.int q.1, .int q.2]) = true ∧ PyData.depthAll (E.map fun q => PyData.tuple [.int q.1, .int q.2]) ≤ 1
  | [] => ⟨by simp [PyData.canLayAll0], by simp [PyData.depthAll]⟩
  | x :: r => by
    obtain ⟨a, b⟩ := lay_prs r
    constructor
    · simp only [List.map_cons, PyData.canLayAll0, PyData.canLay0, a, Bool.and_self]
    · simp only [List.map_cons, PyData.depthAll, PyData.depth, Nat.max_self]
      omega
theorem sh_can (ou sk : List Int) (E : List (Int × Int)) : (shD ou sk E).canLay0 = true := by
  unfold shD
  simp only [PyData.canLay0, PyData.canLayAll0, (lay_ints ou).1, (lay_ints sk).1, (lay_prs E).1, Bool.and_self]
theorem sh_shaped (ou sk : List Int) (E : List (Int × Int)) : SeqAt.shaped (shD ou sk E) = true := by
  unfold SeqAt.shaped
  rw [sh_can, Bool.true_and]
  refine decide_eq_true ?_
  have h := (lay_prs E).2
  unfold shD
  simp only [PyData.depth, PyData.depthAll, (lay_ints ou).2, (lay_ints sk).2]
  omega
theorem sh_eqv (ou sk : List Int) (E : List (Int × Int)) : PyData.eqv (shD ou sk E) (shD ou sk E) = true := SeqAt.eqv_refl _ (sh_can ou sk E)
def spAgree (K : PySem.W.Frag) : Sp := fun vs H Q _ => ∃ (a b e : Addr) (R R' : Tl) (nums : List Int) (budget F : Nat), vs = [.ref a, .ref b, .ref e, .int budget, .int F] ∧ SqL K H a ((flat R).map V.int) ∧ SqL K H b ((flat R').map V.int) ∧ SqL K H e (nums.map V.int) ∧ R.length ≤ 100 ∧ R'.length ≤ 100 ∧
  Clos (tabOf R) ∧ Clos (tabOf R') ∧ budget ≤ 7000 ∧ 0 < F ∧ F ≤ 10000 ∧ Pl.Agree (look (tabOf R)) (look (tabOf R')) (fun s => (s + 1) * F) ∧ ∀ H', Same H H' → Q (.bl true) H'
abbrev s_law_agree : Stmt := tp 79
theorem sc_law_agree : FnScope ["_law_old", "_law_new", "_law_numbers", "_law_budget", "_law_factor", "_law_first", "_law_second"] ["_law_old", "_law_new", "_law_numbers", "_law_budget", "_law_factor"] (defScope s_law_agree) := ⟨rfl, rfl, rfl, by decide +kernel, rfl, by decide +kernel, by decide +kernel⟩
theorem c__law_agree (F : Top K mg "_law_agree" s_law_agree) (T : Txt K mg) (G_law_behind : Cal P w K mg base 5 "_law_behind" ["_law_image_here", "_law_numbers", "_law_budget"] (spBehind K)) (G_law_shown : Cal P w K mg base 1 "_law_shown" ["_law_state"] (spShown K))
    {fdE : FuncData} (Ghas_ended : FnOk P w K mg base CX0 1 (He.ma K (He.ga K "State") "has_ended") fdE ["self"] (spEnded K)) (bhas_ended : Binds K fdE ["self"] []) : Cal P w K mg base 6 "_law_agree" ["_law_old", "_law_new", "_law_numbers", "_law_budget", "_law_factor"] (spAgree K) := by
  refine F.cal sc_law_agree (fun vs H Q E h => ?_) (fun _ _ _ _ _ _ us hl => match us, hl with | [_, _, _, _, _], _ => rfl) (fun f cdv A outer s H vs Q E hr h => ?_)
  · obtain ⟨a, b, e, R, R', nums, budget, F, rfl, _⟩ := h
    rfl
  obtain ⟨a, b, e, R, R', nums, budget, F, rfl, SA, SB, SE, hR, hR', cl, cl', hb, F0, F1, Ag, q⟩ := h
  have hu := hu_of hr
  refine ⟨_, (pss_cons (ps_set (i := 5) sc_law_agree.nd rfl (Or.inl rfl) (pe_c G_law_behind hr (pa_cons (pv 0) (pa_cons (pv 2) (pa_cons (pv 3) pa_nil)))))
        (pss_cons (ps_if (pt_val (pe_meth0 (pv 5) T.cl T.m_has_ended Ghas_ended (hr.mono (by decide)) bhas_ended .nil pass0)) (pss_cons (ps_set (i := 6) sc_law_agree.nd rfl (Or.inl rfl) (pe_c G_law_behind hr (pa_cons (pv 1) (pa_cons (pv 2) (pa_cons (pe_fld (pv 5) rfl) pa_nil)))))
        (pss_one (ps_ret (pe_and (pe_meth0 (pv 6) T.cl T.m_has_ended Ghas_ended (hr.mono (by decide)) bhas_ended .nil pass0) (pe_one (pe_cmpR (op_eqD hr.units) (pe_c G_law_shown hr (pa_cons (pv 5) pa_nil)) (pe_c G_law_shown hr (pa_cons (pv 6) pa_nil)) (nomark _))))))) pss_nil)
        (pss_cons (ps_set (i := 6) sc_law_agree.nd rfl (Or.inl rfl) (pe_c G_law_behind hr (pa_cons (pv 1) (pa_cons (pv 2) (pa_cons (pe_callB (call_max2 rfl) (by rfl) T.max b_max (pa_cons pe_int (pa_cons (pe_op op_sub (pe_op op_fdivN (pv 3) (pv 4)) pe_int) pa_nil))) pa_nil)))))
        (pss_one (ps_ret (pe_not (pe_meth0 (pv 6) T.cl T.m_has_ended Ghas_ended (hr.mono (by decide)) bhas_ended .nil pass0))))))), ?_⟩
  refine ⟨_, rfl, _, rfl, _, rfl, a, e, R, nums, budget, rfl, SA, SE, hR, hb, cl, fun H1 Hf c m1 s1 k1 C h1 r1 l1 o1 => ?_⟩
  refine ⟨_, rfl, _, _, _, rfl, h1.ins, rfl, Hf, c, _, nums, m1, s1, C, rfl, h1, _, rfl, ?_⟩
  cases e1 : look (tabOf R) m1.at_ with
  | none =>
    refine iteT ?_
    have E1 : Pl.EndsAt (look (tabOf R)) nums s1 m1.d := ⟨m1, r1, e1, rfl⟩
    refine ⟨_, rfl, _, rfl, _, rfl, _, _, _, _, _, rfl, h1.ins, T.cl, T.noat "steps" (by decide +kernel), rfl, b, e, R', nums, s1, rfl, sqSame k1 SB, sqSame k1 SE, hR', by omega, cl', fun H2 Hf2 c2 m2 s2 k2 C2 h2 r2 l2 o2 => ?_⟩
    obtain ⟨e2, ed⟩ := Pl.agree_case1 Ag E1 r2 o2
    have bd1 := Pl.run_bd r1
    have bd2 := Pl.run_bd r2
    have h12 := h1.same k2
    refine ⟨_, rfl, _, _, _, rfl, h2.ins, rfl, Hf2, c2, _, nums, m2, s2, C2, rfl, h2, _, rfl, ?_⟩
    rw [e2]
    refine iteT ?_
    refine ⟨_, rfl, Hf, c, _, nums, m1, s1, C, rfl, h12, Nat.le_trans bd1.t (by omega), fun H3 p1 E1' k3 sh1 se1 => ?_⟩
    refine ⟨_, rfl, Hf2, c2, _, nums, m2, s2, C2, rfl, h2.same k3, Nat.le_trans bd2.t (by omega), fun H4 p2 E2' k4 sh2 se2 => ?_⟩
    rw [ed] at sh2 se2
    rw [SrtE.uniq se2 se1] at sh2
    refine ⟨_, _, (sh1.same k4).dp, sh2.dp, sh_shaped _ _ _, sh_shaped _ _ _, ?_⟩
    rw [sh_eqv]
    exact q H4 (k1.trans (k2.trans (k3.trans k4)))
  | some nd =>
    refine iteF ?_
    have es : s1 = budget := o1.resolve_right fun z => by rw [e1] at z; cases z
    have bud : (if ((budget : Int).fdiv (F : Int) - 1) > 0 then ((budget : Int).fdiv (F : Int) - 1) else 0) = ((budget / F - 1 : Nat) : Int) := by
      rw [Int.fdiv_eq_ediv_of_nonneg _ (by omega)]
      rw [show ((budget : Int) / (F : Int)) = ((budget / F : Nat) : Int) from rfl]
      split <;> omega
    refine ⟨_, rfl, _, rfl, _, rfl, _, rfl, _, _, rfl, rfl, ⟨by omega, by omega⟩, _, _, rfl, rfl, _, _, rfl, ?_⟩
    rw [bud]
    have hbb : budget / F - 1 ≤ 7000 := Nat.le_trans (Nat.sub_le _ _) (Nat.le_trans (Nat.div_le_self _ _) hb)
    refine ⟨b, e, R', nums, budget / F - 1, rfl, sqSame k1 SB, sqSame k1 SE, hR', hbb, cl', fun H2 Hf2 c2 m2 s2 k2 C2 h2 r2 l2 o2 => ?_⟩
    have ne2 := Pl.agree_case2 Ag (by rw [← es]; exact r1) (fun z => by rw [e1] at z; cases z) r2 l2
    refine ⟨_, rfl, _, _, _, rfl, h2.ins, rfl, Hf2, c2, _, nums, m2, s2, C2, rfl, h2, _, rfl, ?_⟩
    cases e2 : look (tabOf R') m2.at_ with
    | none => exact (ne2 e2).elim
    | some nd2 => exact q H2 (k1.trans k2)
end Zw
namespace Zw
open PySem PySem.Spec PyProof.Rows L2 PH
variable {P : Program} {w : World} {K : PySem.W.Frag} {mg : Str → Option Value} {base : Heap}
def spBoth (K : PySem.W.Frag) : Sp := fun vs H Q _ => ∃ (a b e : Addr) (R R' : Tl) (nums : List Int), vs = [.ref a, .ref b, .ref e] ∧ SqL K H a ((flat R).map V.int) ∧ SqL K H b ((flat R').map V.int) ∧ SqL K H e (nums.map V.int) ∧ R.length ≤ 16 ∧ R'.length ≤ 100 ∧
  Clos (tabOf R) ∧ Clos (tabOf R') ∧ Pl.Good R.length (look (tabOf R)) (look (tabOf R')) ∧ ∀ H', Same H H' → Q (.bl true) H'
abbrev s_law_agree_both : Stmt := tp 80
theorem sc_law_agree_both : FnScope ["_law_old", "_law_new", "_law_numbers", "_law_factor", "_law_second", "_law_first"] ["_law_old", "_law_new", "_law_numbers"] (defScope s_law_agree_both) := ⟨rfl, rfl, rfl, by decide +kernel, rfl, by decide +kernel, by decide +kernel⟩
theorem c__law_agree_both (F : Top K mg "_law_agree_both" s_law_agree_both) (T : Txt K mg) (G_law_agree : Cal P w K mg base 6 "_law_agree" ["_law_old", "_law_new", "_law_numbers", "_law_budget", "_law_factor"] (spAgree K)) (G_law_behind : Cal P w K mg base 5 "_law_behind" ["_law_image_here", "_law_numbers", "_law_budget"] (spBehind K)) (G_law_shown : Cal P w K mg base 1 "_law_shown" ["_law_state"] (spShown K))
    {fdE : FuncData} (Ghas_ended : FnOk P w K mg base CX0 1 (He.ma K (He.ga K "State") "has_ended") fdE ["self"] (spEnded K)) (bhas_ended : Binds K fdE ["self"] []) : Cal P w K mg base 7 "_law_agree_both" ["_law_old", "_law_new", "_law_numbers"] (spBoth K) := by
  refine F.cal sc_law_agree_both (fun vs H Q E h => ?_) (fun _ _ _ _ _ _ us hl => match us, hl with | [_, _, _], _ => rfl) (fun f cdv A outer s H vs Q E hr h => ?_)
  · obtain ⟨a, b, e, R, R', nums, rfl, _⟩ := h
    rfl
  obtain ⟨a, b, e, R, R', nums, rfl, SA, SB, SE, hR, hR', cl, cl', Gd, q⟩ := h
  have hu := hu_of hr
  refine ⟨_, (pss_cons (ps_set (i := 3) sc_law_agree_both.nd rfl (Or.inl rfl) (pe_op op_mul (pe_op op_mul pe_int (pe_op op_add (pe_op op_fdivN (pe_callB call_len_seq (by rfl) T.len PySem.boot_len (pa_cons (pv 0) pa_nil)) pe_int) pe_int)) (pe_op op_add (pe_op op_fdivN (pe_callB call_len_seq (by rfl) T.len PySem.boot_len (pa_cons (pv 0) pa_nil)) pe_int) pe_int)))
        (pss_cons (ps_if (pt_not (pt_val (pe_c G_law_agree hr (pa_cons (pv 0) (pa_cons (pv 1) (pa_cons (pv 2) (pa_cons pe_int (pa_cons (pv 3) pa_nil)))))))) (pss_one (ps_ret pe_bl)) pss_nil)
        (pss_cons (ps_set (i := 4) sc_law_agree_both.nd rfl (Or.inl rfl) (pe_c G_law_behind hr (pa_cons (pv 1) (pa_cons (pv 2) (pa_cons pe_int pa_nil)))))
        (pss_cons (ps_if (pt_not (pt_val (pe_meth0 (pv 4) T.cl T.m_has_ended Ghas_ended (hr.mono (by decide)) bhas_ended .nil pass0))) (pss_one (ps_ret pe_bl)) pss_nil)
        (pss_cons (ps_set (i := 5) sc_law_agree_both.nd rfl (Or.inl rfl) (pe_c G_law_behind hr (pa_cons (pv 0) (pa_cons (pv 2) (pa_cons (pe_op op_mul pe_int (pv 3)) pa_nil)))))
        (pss_one (ps_ret (pe_and (pe_meth0 (pv 5) T.cl T.m_has_ended Ghas_ended (hr.mono (by decide)) bhas_ended .nil pass0) (pe_and (pe_cmpR (op_eqD hr.units) (pe_c G_law_shown hr (pa_cons (pv 5) pa_nil)) (pe_c G_law_shown hr (pa_cons (pv 4) pa_nil)) (nomark _)) (pe_one (pe_cmpR op_le (pe_fld (pv 4) rfl) (pe_fld (pv 5) rfl) (nomark _)))))))))))), ?_⟩
  have hk : Int.fdiv ((((flat R).map V.int).length : Nat) : Int) 4 = (R.length : Int) := by
    rw [List.length_map, flat_len, Int.fdiv_eq_ediv_of_nonneg _ (by decide)]
    omega
  obtain ⟨n, hn⟩ : ∃ n, n = R.length := ⟨_, rfl⟩
  obtain ⟨FF, hF⟩ : ∃ FF, FF = 3 * ((n + 2) * (n + 2)) := ⟨_, rfl⟩
  have c2 : (n + 2) * (n + 2) ≤ 18 * 18 := Nat.mul_le_mul (by omega) (by omega)
  have c1 : 0 < (n + 2) * (n + 2) := Nat.mul_pos (by omega) (by omega)
  have F0 : 0 < FF := by omega
  have F1 : FF ≤ 972 := by omega
  have val : 3 * (Int.fdiv ((((flat R).map V.int).length : Nat) : Int) 4 + 2) * (Int.fdiv ((((flat R).map V.int).length : Nat) : Int) 4 + 2) = (FF : Int) := by
    rw [hk, hF, ← hn]
    rw [Int.natCast_mul, Int.natCast_mul, Int.mul_assoc]
    rfl
  refine ⟨_, rfl, _, _, rfl, .inl SA, _, _, rfl, rfl, ⟨by decide, by decide⟩, _, _, rfl, rfl, _, _, rfl, rfl, .inl ⟨by decide, by decide⟩, ?_⟩
  refine ⟨_, rfl, _, _, rfl, .inl SA, _, _, rfl, rfl, ⟨by decide, by decide⟩, _, _, rfl, rfl, _, _, rfl, rfl, .inr ⟨by rw [hk]; omega, by rw [hk]; omega⟩, ?_⟩
  show gName 3 (V.int (3 * (Int.fdiv ((((flat R).map V.int).length : Nat) : Int) 4 + 2) * (Int.fdiv ((((flat R).map V.int).length : Nat) : Int) 4 + 2))) _ H _
  rw [val]
  have Ag : Pl.Agree (look (tabOf R)) (look (tabOf R')) (fun s => (s + 1) * FF) := by
    rw [hF, hn]
    exact Gd
  refine ⟨_, rfl, _, rfl, _, rfl, _, rfl, a, b, e, R, R', nums, 150, FF, rfl, SA, SB, SE, by omega, hR', cl, cl', by decide, F0, by omega, Ag, fun H1 k1 => ?_⟩
  refine ⟨_, rfl, iteF ?_⟩
  refine ⟨_, rfl, _, rfl, b, e, R', nums, 6, rfl, sqSame k1 SB, sqSame k1 SE, hR', by decide, cl', fun H2 Hf2 cc2 m2 s2 k2 C2 h2 r2 l2 o2 => ?_⟩
  refine ⟨_, rfl, _, _, _, rfl, h2.ins, rfl, Hf2, cc2, _, nums, m2, s2, C2, rfl, h2, _, rfl, ?_⟩
  have k12 := k1.trans k2
  cases e2 : look (tabOf R') m2.at_ with
  | some nd => exact iteT (q H2 k12)
  | none =>
    refine iteF ?_
    have E2 : Pl.EndsAt (look (tabOf R')) nums s2 m2.d := ⟨m2, r2, e2, rfl⟩
    refine ⟨_, rfl, _, rfl, _, rfl, _, _, rfl, rfl, .inl ⟨by decide, by decide⟩, ?_⟩
    refine ⟨a, e, R, nums, 7 * FF, rfl, sqSame k12 SA, sqSame k12 SE, by omega, by omega, cl, fun H3 Hf1 cc1 m1 s1 k3 C1 h1 r1 l1 o1 => ?_⟩
    obtain ⟨e1, ed, le⟩ := Pl.agree_case3 Ag E2 l2 r1 o1
    have bd1 := Pl.run_bd r1
    have bd2 := Pl.run_bd r2
    have h23 := h2.same k3
    refine ⟨_, rfl, _, _, _, rfl, h1.ins, rfl, Hf1, cc1, _, nums, m1, s1, C1, rfl, h1, _, rfl, ?_⟩
    rw [e1]
    refine iteT ?_
    refine ⟨_, rfl, Hf1, cc1, _, nums, m1, s1, C1, rfl, h1, Nat.le_trans bd1.t (by omega), fun H4 p1 E1' k4 sh1 se1 => ?_⟩
    have h24 := h23.same k4
    refine ⟨_, rfl, Hf2, cc2, _, nums, m2, s2, C2, rfl, h24, Nat.le_trans bd2.t (by omega), fun H5 p2 E2' k5 sh2 se2 => ?_⟩
    rw [ed] at sh1 se1
    rw [SrtE.uniq se2 se1] at sh2
    refine ⟨_, _, (sh1.same k5).dp, sh2.dp, sh_shaped _ _ _, sh_shaped _ _ _, _, rfl, ?_⟩
    rw [sh_eqv]
    have h25 := h24.same k5
    have h15 := (h1.same k4).same k5
    refine iteT ⟨_, rfl, _, _, _, _, _, rfl, h25.ins, T.cl, T.noat "steps" (by decide +kernel), rfl, _, rfl, _, _, _, _, _, rfl, h15.ins, T.cl, T.noat "steps" (by decide +kernel), rfl, _, _, rfl, rfl, ?_⟩
    show Q (.bl (decide (((s2 : Nat) : Int) ≤ ((s1 : Nat) : Int)))) H5
    rw [decide_eq_true (show ((s2 : Nat) : Int) ≤ ((s1 : Nat) : Int) by omega)]
    exact q H5 (k12.trans (k3.trans (k4.trans k5)))
end Zw
namespace Zw
open PySem PySem.Spec PyProof.Rows L2 PH
variable {P : Program} {w : World} {K : PySem.W.Frag} {mg : Str → Option Value} {base : Heap}
/-- all but the object at d stays -/
def Fr (d : Addr) (H H' : Hp) : Prop := ∀ b u, b ≠ d → H b = some u → H' b = some u
theorem Fr.refl (d : Addr) (H : Hp) : Fr d H H := fun _ _ _ e => e
theorem Fr.trans {d : Addr} {H H1 H2 : Hp} (a : Fr d H H1) (b : Fr d H1 H2) : Fr d H H2 := fun x u n e => b x u n (a x u n e)
theorem Fr.of {d : Addr} {H H' : Hp} (s : Same H H') : Fr d H H' := fun x u _ e => s x u e
theorem Fr.put {d : Addr} {H : Hp} {o : HO} : Fr d H (upd H d o) := fun x u n e => (upd_ne n).trans e
/-- a list of ints, the draws -/
def Dr (H : Hp) (d : Addr) : Prop := ∃ xs : List Int, H d = some (.lst (xs.map V.int))
theorem Dr.same {H H' : Hp} {d : Addr} (s : Same H H') (h : Dr H d) : Dr H' d := let ⟨xs, e⟩ := h; ⟨xs, s _ _ e⟩
theorem inI {xs : List Int} {i : Int} (h0 : 0 ≤ i) (h1 : i < xs.length) : ∃ v, v ∈ xs ∧ atI (xs.map V.int) i = some (.int v) := by
  obtain ⟨j, rfl⟩ := Int.eq_ofNat_of_zero_le h0
  have hj : j < xs.length := by omega
  exact ⟨xs[j], List.getElem_mem hj, atI_nat (by rw [List.getElem?_map, List.getElem?_eq_getElem hj]; rfl)⟩
def spNum : Sp := fun vs H Q _ => ∃ i : Int, vs = [.int i] ∧ ∀ j : Int, Q (.int j) H
abbrev s_law_number : Stmt := tp 69
theorem sc_law_number : FnScope ["_law_cell"] ["_law_cell"] (defScope s_law_number) := ⟨rfl, rfl, rfl, by decide +kernel, rfl, by decide +kernel, by decide +kernel⟩
theorem c__law_number (F : Top K mg "_law_number" s_law_number) (T : Txt K mg) : Cal P w K mg base 1 "_law_number" ["_law_cell"] spNum := by
  refine F.cal sc_law_number (fun vs H Q E h => ?_) (fun _ _ _ _ _ _ us hl => match us, hl with | [_], _ => rfl) (fun f cdv A outer s H vs Q E hr h => ?_)
  · obtain ⟨i, rfl, _⟩ := h
    rfl
  obtain ⟨i, rfl, q⟩ := h
  refine ⟨_, (pss_cons (ps_if (pt_cmpR op_lt (pv 0) pe_int (nomark _)) (pss_one (ps_ret (pe_op op_sub pe_int (pv 0)))) pss_nil)
        (pss_one (ps_ret (pv 0)))), ?_⟩
  refine ⟨_, rfl, _, _, rfl, rfl, _, rfl, ifD (fun _ => ?_) fun _ => ?_⟩
  · exact ⟨_, rfl, _, _, rfl, rfl, q _⟩
  · exact ⟨_, rfl, q _⟩
def spDraws (K : PySem.W.Frag) : Sp := fun vs H Q _ => ∃ (a : Addr) (ns : List Int), vs = [.ref a] ∧ SqL K H a (ns.map V.int) ∧ ns.length ≤ 1000 ∧ ∀ H' p, Same H H' → H p = none → Dr H' p → Q (.ref p) H'
abbrev s_law_draws : Stmt := tp 70
theorem sc_law_draws : FnScope ["_law_script", "_law_draws_here", "_law_seed", "_law_cell", "_law_rest", "_law_k", "_law_once", "_law_twice"] ["_law_script"] (defScope s_law_draws) := ⟨rfl, rfl, rfl, by decide +kernel, rfl, by decide +kernel, by decide +kernel⟩
theorem c__law_draws (F : Top K mg "_law_draws" s_law_draws) (T : Txt K mg) (G_law_number : Cal P w K mg base 1 "_law_number" ["_law_cell"] spNum) : Cal P w K mg base 2 "_law_draws" ["_law_script"] (spDraws K) := by
  refine F.cal sc_law_draws (fun vs H Q E h => ?_) (fun _ _ _ _ _ _ us hl => match us, hl with | [_], _ => rfl) (fun f cdv A outer s H vs Q E hr h => ?_)
  · obtain ⟨a, ns, rfl, _⟩ := h
    rfl
  obtain ⟨a, ns, rfl, S, hn, q⟩ := h
  have hu := hu_of hr
  refine ⟨_, (pss_cons (ps_set (i := 1) sc_law_draws.nd rfl (Or.inl rfl) (pe_lst pa_nil))
        (pss_cons (ps_set (i := 2) sc_law_draws.nd rfl (Or.inl rfl) pe_int)
        (pss_cons (ps_for PassesOwn.never rfl (pi_list (pv 0)) (pg_name (i := 3) sc_law_draws.nd rfl (Or.inl rfl)) (pss_cons (ps_set (i := 4) sc_law_draws.nd rfl (Or.inl rfl) (pe_c G_law_number hr (pa_cons (pv 3) pa_nil)))
        (pss_cons (ps_set (i := 2) sc_law_draws.nd rfl (Or.inl rfl) (pe_op op_modN (pe_callTy call_int1 (by rfl) T.int b_int (pa_cons (pe_op op_add (pe_op op_mul (pv 2) pe_int) (pv 4)) pa_nil)) pe_int))
        (pss_one (ps_if (pt_cmpR op_ge (pv 4) pe_int (nomark _)) (pss_one (ps_for PassesOwn.never rfl (pi_range1 rfl T.range (pa_cons pe_int pa_nil)) (pg_name (i := 5) sc_law_draws.nd rfl (Or.inl rfl)) (pss_cons (ps_if (pt_cmpR op_eq (pv 4) pe_int (nomark _)) (pss_one ps_break) pss_nil)
        (pss_cons (ps_expr (pe_bm PySem.F.plainAttrs_list PySem.F.slot_list_append PySem.F.type_list_append mt_append (pv 1) (pa_cons (pe_op op_modN (pe_callTy call_int1 (by rfl) T.int b_int (pa_cons (pv 4) pa_nil)) pe_int) pa_nil)))
        (pss_one (ps_set (i := 4) sc_law_draws.nd rfl (Or.inl rfl) (pe_op op_fdivN (pv 4) pe_int))))))) (pss_cons (ps_set (i := 6) sc_law_draws.nd rfl (Or.inl rfl) (pe_op op_modN (pe_callTy call_int1 (by rfl) T.int b_int (pa_cons (pe_op op_add (pe_op op_mul (pv 4) pe_int) pe_int) pa_nil)) pe_int))
        (pss_cons (ps_set (i := 7) sc_law_draws.nd rfl (Or.inl rfl) (pe_op op_modN (pe_callTy call_int1 (by rfl) T.int b_int (pa_cons (pe_op op_add (pe_op op_mul (pv 6) pe_int) (pv 4)) pa_nil)) pe_int))
        (pss_one (ps_expr (pe_bm PySem.F.plainAttrs_list PySem.F.slot_list_extend PySem.F.type_list_extend mt_extend (pv 1) (pa_cons (pe_lst (pa_cons (pe_op op_modN (pe_callTy call_int1 (by rfl) T.int b_int (pa_cons (pv 4) pa_nil)) pe_int) (pa_cons (pe_op op_modN (pe_callTy call_int1 (by rfl) T.int b_int (pa_cons (pv 6) pa_nil)) pe_int) (pa_cons (pe_op op_modN (pe_callTy call_int1 (by rfl) T.int b_int (pa_cons (pv 7) pa_nil)) pe_int) pa_nil)))) pa_nil)))))))))))
        (pss_cons (ps_for PassesOwn.never rfl (pi_range1 rfl T.range (pa_cons pe_int pa_nil)) (pg_name (i := 5) sc_law_draws.nd rfl (Or.inl rfl)) (pss_cons (ps_set (i := 2) sc_law_draws.nd rfl (Or.inl rfl) (pe_op op_modN (pe_callTy call_int1 (by rfl) T.int b_int (pa_cons (pe_op op_add (pe_op op_mul (pv 2) pe_int) pe_int) pa_nil)) pe_int))
        (pss_one (ps_expr (pe_bm PySem.F.plainAttrs_list PySem.F.slot_list_append PySem.F.type_list_append mt_append (pv 1) (pa_cons (pe_op op_modN (pe_callTy call_int1 (by rfl) T.int b_int (pa_cons (pe_op op_fdivN (pv 2) pe_int) pa_nil)) pe_int) pa_nil))))))
        (pss_cons (ps_expr (pe_bm0 PySem.F.plainAttrs_list PySem.F.slot_list_reverse PySem.F.type_list_reverse mt_reverse (pv 1)))
        (pss_one (ps_ret (pv 1)))))))), ?_⟩
  refine ⟨Nat.zero_le _, fun p hp => ?_⟩
  have bnd : ∀ {n : Nat}, n ≤ 100000 → n < sizeLine := fun h => Nat.lt_of_le_of_lt h (by decide)
  refine ⟨_, rfl, a, rfl, ⟨_, Same.seq (Same.new hp) S⟩, for_list (K := K) (a := a) (xs := ns.map V.int) (fun i σ H' => Same H H' ∧ ∃ (xs : List Int) (sd : Int), H' p = some (.lst (xs.map V.int)) ∧ xs.length ≤ 60 * i ∧ ∃ v3 v4 v5 v6 v7, σ = [some (.ref a), some (.ref p), some (.int sd), v3, v4, v5, v6, v7])
    ⟨Same.new hp, [], 7, upd_same, Nat.le_refl _, none, none, none, none, none, rfl⟩ (fun i σ H' _ z => Same.seq z.1 S) ?_ ?_⟩
  · rintro i x σ H2 hi ⟨s2, xs, sd, hx, lx, v3, v4, v5, v6, v7, rfl⟩
    rw [List.getElem?_map] at hi
    obtain ⟨n, hni, ex⟩ := Option.map_eq_some_iff.mp hi
    subst ex
    have hil : i < ns.length := (List.getElem?_eq_some_iff.mp hni).1
    refine ⟨_, rfl, n, rfl, fun rest => ?_⟩
    refine ⟨_, rfl, _, _, rfl, rfl, .inr ⟨by decide, by decide⟩, _, rfl, _, _, rfl, rfl, .inl ⟨_, rfl, _, _, rfl, rfl, (by show (_ : Int) ≠ 0; decide), ?_⟩⟩
    refine ⟨_, rfl, _, _, rfl, rfl, _, rfl, ifD (fun _ => ?_) fun _ => ?_⟩
    · refine ⟨_, rfl, by omega, by omega, for_range (lo := 0) (n := 60) (fun j σ H' => Same H H' ∧ ∃ (xs : List Int) (sd rest : Int), H' p = some (.lst (xs.map V.int)) ∧ xs.length ≤ 60 * i + j ∧ ∃ v3 v5 v6 v7, σ = [some (.ref a), some (.ref p), some (.int sd), v3, some (.int rest), v5, v6, v7])
        ⟨s2, xs, _, _, hx, lx, _, _, _, _, rfl⟩ ?_ ?_⟩
      · rintro j σ H3 hj ⟨s3, xs3, sd3, rest3, hx3, lx3, w3, w5, w6, w7, rfl⟩
        refine ⟨_, rfl, rfl, _, rfl, ifI (fun _ => ?_) fun _ => ?_⟩
        · exact ⟨s3, xs3, sd3, hx3, by omega, _, _, _, _, _, rfl⟩
        · refine ⟨_, rfl, .inl ⟨rfl, _, SqL.of hx3⟩, _, rfl, .inl ⟨_, rfl, _, _, rfl, rfl, (by show (_ : Int) ≠ 0; decide), ?_⟩⟩
          refine ⟨p, _, _, rfl, rfl, hx3, by rw [List.length_map]; exact bnd (by omega), ?_⟩
          refine ⟨_, rfl, _, _, rfl, rfl, ⟨by decide, by decide⟩, ?_⟩
          refine ⟨Same.mut s3 hp, xs3 ++ [_], _, _, (by rw [upd_same, List.map_append]; rfl), ?_, _, _, _, _, rfl⟩
          rw [List.length_append]
          exact Nat.succ_le_succ lx3
      · rintro σ H3 ⟨s3, xs3, sd3, rest3, hx3, lx3, w3, w5, w6, w7, rfl⟩
        exact ⟨s3, xs3, sd3, hx3, by omega, _, _, _, _, _, rfl⟩
    · refine ⟨_, rfl, _, _, rfl, rfl, .inr ⟨by decide, by decide⟩, _, _, rfl, rfl, .inl ⟨_, rfl, _, _, rfl, rfl, (by show (_ : Int) ≠ 0; decide), ?_⟩⟩
      refine ⟨_, rfl, _, _, rfl, rfl, .inr ⟨by decide, by decide⟩, _, rfl, _, _, rfl, rfl, .inl ⟨_, rfl, _, _, rfl, rfl, (by show (_ : Int) ≠ 0; decide), ?_⟩⟩
      refine ⟨_, rfl, .inl ⟨rfl, _, SqL.of hx⟩, ?_⟩
      refine ⟨_, rfl, .inl ⟨_, rfl, _, _, rfl, rfl, (by show (_ : Int) ≠ 0; decide), _, rfl, .inl ⟨_, rfl, _, _, rfl, rfl, (by show (_ : Int) ≠ 0; decide), _, rfl, .inl ⟨_, rfl, _, _, rfl, rfl, (by show (_ : Int) ≠ 0; decide), (by show 3 ≤ sizeLine; decide), fun u hu0 => ?_⟩⟩⟩⟩
      have npu : p ≠ u := ne_of_none hx hu0
      refine ⟨p, u, _, _, rfl, rfl, by rw [upd_ne npu]; exact hx, upd_same, ?_, ?_⟩
      · rw [List.length_map]
        exact Nat.le_of_lt (bnd (show xs.length + 3 ≤ 100000 by omega))
      · refine ⟨Same.mut (s2.trans (Same.new hu0)) hp, xs ++ [_, _, _], _, (by rw [upd_same, List.map_append]; rfl), ?_, _, _, _, _, _, rfl⟩
        rw [List.length_append]
        show xs.length + 3 ≤ _
        omega
  · rintro σ H2 ⟨s2, xs, sd, hx, lx, v3, v4, v5, v6, v7, rfl⟩
    rw [List.length_map] at lx
    refine ⟨_, rfl, by omega, by omega, for_range (lo := 0) (n := 200) (fun j σ H' => Same H H' ∧ ∃ (xs : List Int) (sd : Int), H' p = some (.lst (xs.map V.int)) ∧ xs.length ≤ 60000 + j ∧ ∃ v3 v4 v5 v6 v7, σ = [some (.ref a), some (.ref p), some (.int sd), v3, v4, v5, v6, v7])
      ⟨s2, xs, sd, hx, by omega, _, _, _, _, _, rfl⟩ ?_ ?_⟩
    · rintro j σ H3 hj ⟨s3, xs3, sd3, hx3, lx3, w3, w4, w5, w6, w7, rfl⟩
      refine ⟨_, rfl, _, _, rfl, rfl, .inr ⟨by decide, by decide⟩, _, _, rfl, rfl, .inl ⟨_, rfl, _, _, rfl, rfl, (by show (_ : Int) ≠ 0; decide), ?_⟩⟩
      refine ⟨_, rfl, .inl ⟨rfl, _, SqL.of hx3⟩, _, rfl, _, _, rfl, rfl, ⟨by decide, by decide⟩, .inl ⟨_, rfl, _, _, rfl, rfl, (by show (_ : Int) ≠ 0; decide), ?_⟩⟩
      refine ⟨p, _, _, rfl, rfl, hx3, by rw [List.length_map]; exact bnd (by omega), ?_⟩
      refine ⟨Same.mut s3 hp, xs3 ++ [_], _, (by rw [upd_same, List.map_append]; rfl), ?_, _, _, _, _, _, rfl⟩
      rw [List.length_append]
      exact Nat.succ_le_succ lx3
    · rintro σ H3 ⟨s3, xs3, sd3, hx3, lx3, w3, w4, w5, w6, w7, rfl⟩
      refine ⟨_, rfl, .inl ⟨rfl, _, SqL.of hx3⟩, p, _, rfl, rfl, hx3, ?_⟩
      refine ⟨_, rfl, q _ p (Same.mut s3 hp) hp ⟨xs3.reverse, ?_⟩⟩
      rw [upd_same, List.map_reverse]
end Zw
namespace Zw
open PySem PySem.Spec PyProof.Rows L2 PH
variable {P : Program} {w : World} {K : PySem.W.Frag} {mg : Str → Option Value} {base : Heap}
def spDraw : Sp := fun vs H Q _ => ∃ d : Addr, vs = [.ref d] ∧ Dr H d ∧ ∀ H' (v : Int), Fr d H H' → Dr H' d → Q (.int v) H'
abbrev s_law_draw : Stmt := tp 71
theorem sc_law_draw : FnScope ["_law_draws_here"] ["_law_draws_here"] (defScope s_law_draw) := ⟨rfl, rfl, rfl, by decide +kernel, rfl, by decide +kernel, by decide +kernel⟩
theorem c__law_draw (F : Top K mg "_law_draw" s_law_draw) (T : Txt K mg) : Cal P w K mg base 1 "_law_draw" ["_law_draws_here"] spDraw := by
  refine F.cal sc_law_draw (fun vs H Q E h => ?_) (fun _ _ _ _ _ _ us hl => match us, hl with | [_], _ => rfl) (fun f cdv A outer s H vs Q E hr h => ?_)
  · obtain ⟨d, rfl, _⟩ := h
    rfl
  obtain ⟨d, rfl, ⟨xs, hd⟩, q⟩ := h
  refine ⟨_, (pss_cons (ps_if (pt_truth (pv 0) (by intro _; rfl)) (pss_one (ps_ret (pe_bm0 PySem.F.plainAttrs_list PySem.F.slot_list_pop PySem.F.type_list_pop mt_pop (pv 0)))) pss_nil)
        (pss_one (ps_ret pe_int))), ?_⟩
  refine ⟨_, rfl, _, .inl ⟨_, SqL.of hd, rfl⟩, ?_⟩
  cases e : xs with
  | nil =>
    refine iteF ?_
    exact q H 0 (Fr.refl d H) ⟨xs, hd⟩
  | cons x r =>
    refine iteT ⟨_, rfl, .inl ⟨rfl, _, SqL.of hd⟩, _, _, .int (Pl.top xs), rfl, rfl, hd, ?_, ?_⟩
    · rw [List.length_map, List.getElem?_map]
      unfold Pl.top
      rw [List.getLast?_eq_getElem?]
      have hl : xs.length - 1 < xs.length := by
        rw [e, List.length_cons]
        omega
      rw [List.getElem?_eq_getElem hl]
      rfl
    · exact q _ _ Fr.put ⟨xs.dropLast, by rw [upd_same, List.map_dropLast]⟩
def spPick : Sp := fun vs H Q _ => ∃ (d : Addr) (m : Int), vs = [.ref d, .int m] ∧ 0 < m ∧ Dr H d ∧ ∀ H' (r : Int), Fr d H H' → Dr H' d → 0 ≤ r → r < m → Q (.int r) H'
abbrev s_law_pick : Stmt := tp 72
theorem sc_law_pick : FnScope ["_law_draws_here", "_law_many"] ["_law_draws_here", "_law_many"] (defScope s_law_pick) := ⟨rfl, rfl, rfl, by decide +kernel, rfl, by decide +kernel, by decide +kernel⟩
theorem c__law_pick (F : Top K mg "_law_pick" s_law_pick) (T : Txt K mg) (G_law_draw : Cal P w K mg base 1 "_law_draw" ["_law_draws_here"] spDraw) : Cal P w K mg base 2 "_law_pick" ["_law_draws_here", "_law_many"] spPick := by
  refine F.cal sc_law_pick (fun vs H Q E h => ?_) (fun _ _ _ _ _ _ us hl => match us, hl with | [_, _], _ => rfl) (fun f cdv A outer s H vs Q E hr h => ?_)
  · obtain ⟨d, m, rfl, _⟩ := h
    rfl
  obtain ⟨d, m, rfl, hm, hd, q⟩ := h
  refine ⟨_, (pss_one (ps_ret (pe_op op_modN (pe_callTy call_int1 (by rfl) T.int b_int (pa_cons (pe_c G_law_draw hr (pa_cons (pv 0) pa_nil)) pa_nil)) (pv 1)))), ?_⟩
  refine ⟨_, rfl, d, rfl, hd, fun H1 v f1 d1 => .inl ⟨_, rfl, _, rfl, _, _, rfl, rfl, ?_, ?_⟩⟩
  · show m ≠ 0
    omega
  · refine q H1 _ f1 d1 ?_ ?_
    · rw [Int.fmod_eq_emod_of_nonneg v (by omega)]
      exact Int.emod_nonneg v (by omega)
    · rw [Int.fmod_eq_emod_of_nonneg v (by omega)]
      exact Int.emod_lt_of_pos v hm
def spNof : Sp := fun vs H Q _ => ∃ d : Addr, vs = [.ref d] ∧ Dr H d ∧ ∀ H' (v : Int), Fr d H H' → Dr H' d → Q (.int v) H'
def poolL : List Int := [0, 1, 36, 65, 66, 90, 199, 200, 201, 202, 203, 250, 300, 1000, -1, -7]
abbrev s_law_number_of : Stmt := tp 73
theorem sc_law_number_of : FnScope ["_law_draws_here", "_law_pool"] ["_law_draws_here"] (defScope s_law_number_of) := ⟨rfl, rfl, rfl, by decide +kernel, rfl, by decide +kernel, by decide +kernel⟩
theorem c__law_number_of (F : Top K mg "_law_number_of" s_law_number_of) (T : Txt K mg) (G_law_pick : Cal P w K mg base 2 "_law_pick" ["_law_draws_here", "_law_many"] spPick) : Cal P w K mg base 3 "_law_number_of" ["_law_draws_here"] spNof := by
  refine F.cal sc_law_number_of (fun vs H Q E h => ?_) (fun _ _ _ _ _ _ us hl => match us, hl with | [_], _ => rfl) (fun f cdv A outer s H vs Q E hr h => ?_)
  · obtain ⟨d, rfl, _⟩ := h
    rfl
  obtain ⟨d, rfl, hd, q⟩ := h
  have hu := hu_of hr
  refine ⟨_, (pss_cons (ps_set (i := 1) sc_law_number_of.nd rfl (Or.inl rfl) (pe_lst (pa_cons pe_int (pa_cons pe_int (pa_cons pe_int (pa_cons pe_int (pa_cons pe_int (pa_cons pe_int (pa_cons pe_int (pa_cons pe_int (pa_cons pe_int (pa_cons pe_int (pa_cons pe_int (pa_cons pe_int (pa_cons pe_int (pa_cons pe_int (pa_cons (pe_un un_neg pe_int) (pa_cons (pe_un un_neg pe_int) pa_nil))))))))))))))))))
        (pss_one (ps_ret (pe_ix ix_list (pv 1) (pe_c G_law_pick hr (pa_cons (pv 0) (pa_cons pe_int pa_nil))) (fun _ _ => rfl))))), ?_⟩
  refine ⟨_, rfl, _, rfl, (by show 16 ≤ sizeLine; decide), fun p hp => ?_⟩
  have nd : p ≠ d := let ⟨xs, e⟩ := hd; (ne_of_none e hp).symm
  have hp1 : (upd H p (.lst (poolL.map V.int))) p = _ := upd_same
  refine ⟨_, rfl, _, rfl, d, 16, rfl, by decide, hd.same (Same.new hp), fun H1 r f1 d1 r0 r1 => ?_⟩
  obtain ⟨v, _, hv⟩ := inI (xs := poolL) r0 (by show r < 16; exact r1)
  refine ⟨p, _, r, _, rfl, rfl, SqL.of (f1 _ _ nd hp1), hv, ?_⟩
  exact q H1 v ((Fr.of (Same.new hp)).trans f1) d1
def spOp : Sp := fun vs H Q _ => ∃ d : Addr, vs = [.ref d, .int 0] ∧ Dr H d ∧ ∀ H' (v : Int), Fr d H H' → Dr H' d → v ≠ 38 ∧ v ≠ 40 → Q (.int v) H'
def ops1 : List Int := [35, 35, 35, 35, 35, 43, 45, 42, 60, 126, 64, 33, 61, 97, 98, 44, 44, 94, 46, 46, 46, 95, 34, 92]
def ops2 : List Int := [63, 63, 63, 65, 66, 36, 41, 41, 32, 32, 32, 0, 10, 200, -5]
theorem ops_ok : ∀ v, v ∈ ops1 ++ ops2 → v ≠ 38 ∧ v ≠ 40 := by decide
abbrev s_law_op : Stmt := tp 74
theorem sc_law_op : FnScope ["_law_draws_here", "_law_share", "_law_ops"] ["_law_draws_here", "_law_share"] (defScope s_law_op) := ⟨rfl, rfl, rfl, by decide +kernel, rfl, by decide +kernel, by decide +kernel⟩
theorem c__law_op (F : Top K mg "_law_op" s_law_op) (T : Txt K mg) (G_law_pick : Cal P w K mg base 2 "_law_pick" ["_law_draws_here", "_law_many"] spPick) : Cal P w K mg base 3 "_law_op" ["_law_draws_here", "_law_share"] spOp := by
  refine F.cal sc_law_op (fun vs H Q E h => ?_) (fun _ _ _ _ _ _ us hl => match us, hl with | [_, _], _ => rfl) (fun f cdv A outer s H vs Q E hr h => ?_)
  · obtain ⟨d, rfl, _⟩ := h
    rfl
  obtain ⟨d, rfl, hd, q⟩ := h
  have hu := hu_of hr
  refine ⟨_, (pss_cons (ps_if (PW.pt (pw_and (pt_cmpR op_gt (pv 1) pe_int (nomark _)) (pw_and1 (pt_cmpR op_eq (pe_c G_law_pick hr (pa_cons (pv 0) (pa_cons (pv 1) pa_nil))) pe_int (nomark _))))) (pss_one (ps_ret (pe_ix ix_list (pe_lst (pa_cons pe_int (pa_cons pe_int pa_nil))) (pe_c G_law_pick hr (pa_cons (pv 0) (pa_cons pe_int pa_nil))) (fun _ _ => rfl)))) pss_nil)
        (pss_cons (ps_set (i := 2) sc_law_op.nd rfl (Or.inl rfl) (pe_lst (pa_cons pe_int (pa_cons pe_int (pa_cons pe_int (pa_cons pe_int (pa_cons pe_int (pa_cons pe_int (pa_cons pe_int (pa_cons pe_int (pa_cons pe_int (pa_cons pe_int (pa_cons pe_int (pa_cons pe_int (pa_cons pe_int (pa_cons pe_int (pa_cons pe_int (pa_cons pe_int (pa_cons pe_int (pa_cons pe_int (pa_cons pe_int (pa_cons pe_int (pa_cons pe_int (pa_cons pe_int (pa_cons pe_int (pa_cons pe_int pa_nil))))))))))))))))))))))))))
        (pss_cons (ps_set (i := 2) sc_law_op.nd rfl (Or.inl rfl) (pe_op op_cat (pv 2) (pe_lst (pa_cons pe_int (pa_cons pe_int (pa_cons pe_int (pa_cons pe_int (pa_cons pe_int (pa_cons pe_int (pa_cons pe_int (pa_cons pe_int (pa_cons pe_int (pa_cons pe_int (pa_cons pe_int (pa_cons pe_int (pa_cons pe_int (pa_cons pe_int (pa_cons (pe_un un_neg pe_int) pa_nil))))))))))))))))))
        (pss_one (ps_ret (pe_ix ix_list (pv 2) (pe_c G_law_pick hr (pa_cons (pv 0) (pa_cons pe_int pa_nil))) (fun _ _ => rfl))))))), ?_⟩
  refine ⟨_, rfl, _, _, rfl, rfl, _, rfl, ?_⟩
  rw [decide_eq_false (show ¬ ((0 : Int) > 0) by decide)]
  refine iteF (iteF ?_)
  refine ⟨(by show 24 ≤ sizeLine; decide), fun p hp => ?_⟩
  have nd : p ≠ d := let ⟨xs, e⟩ := hd; (ne_of_none e hp).symm
  have hp1 : (upd H p (.lst (ops1.map V.int))) p = _ := upd_same
  have s1 : Same H (upd H p (.lst (ops1.map V.int))) := Same.new hp
  refine ⟨_, rfl, _, rfl, (by show 15 ≤ sizeLine; decide), fun p2 hp2 => ?_⟩
  have np2 : p ≠ p2 := ne_of_none hp1 hp2
  have s2 := s1.trans (Same.new (o := .lst (ops2.map V.int)) hp2)
  refine ⟨p, p2, ops1.map V.int, ops2.map V.int, rfl, rfl, (upd_ne np2).trans hp1, upd_same, (by show 39 ≤ sizeLine; decide), fun p3 hp3 => ?_⟩
  have s3 := s2.trans (Same.new (o := .lst (ops1.map V.int ++ ops2.map V.int)) hp3)
  have nd3 : p3 ≠ d := let ⟨xs, e⟩ := hd; (ne_of_none (s2 _ _ e) hp3).symm
  have hp4 : (upd (upd (upd H p (.lst (ops1.map V.int))) p2 (.lst (ops2.map V.int))) p3 (.lst (ops1.map V.int ++ ops2.map V.int))) p3 = some (.lst ((ops1 ++ ops2).map V.int)) := by
    rw [upd_same, List.map_append]
  refine ⟨_, rfl, _, rfl, d, 39, rfl, by decide, hd.same s3, fun H1 r f1 d1 r0 r1 => ?_⟩
  obtain ⟨v, vm, hv⟩ := inI (xs := ops1 ++ ops2) r0 (by show r < 39; exact r1)
  refine ⟨p3, _, r, _, rfl, rfl, SqL.of (f1 _ _ nd3 hp4), hv, ?_⟩
  exact q H1 v ((Fr.of s3).trans f1) d1 (ops_ok v vm)
def spArg : Sp := fun vs H Q _ => ∃ (d : Addr) (op : Int), vs = [.ref d, .int op] ∧ Dr H d ∧ ∀ H' (v : Int), Fr d H H' → Dr H' d → Q (.int v) H'
def argL : List Int := [36, 65, 66, 97, 98, 199, 200, 0]
abbrev s_law_arg : Stmt := tp 75
theorem sc_law_arg : FnScope ["_law_draws_here", "_law_op_here"] ["_law_draws_here", "_law_op_here"] (defScope s_law_arg) := ⟨rfl, rfl, rfl, by decide +kernel, rfl, by decide +kernel, by decide +kernel⟩
theorem c__law_arg (F : Top K mg "_law_arg" s_law_arg) (T : Txt K mg) (G_law_pick : Cal P w K mg base 2 "_law_pick" ["_law_draws_here", "_law_many"] spPick) (G_law_number_of : Cal P w K mg base 3 "_law_number_of" ["_law_draws_here"] spNof) : Cal P w K mg base 4 "_law_arg" ["_law_draws_here", "_law_op_here"] spArg := by
  refine F.cal sc_law_arg (fun vs H Q E h => ?_) (fun _ _ _ _ _ _ us hl => match us, hl with | [_, _], _ => rfl) (fun f cdv A outer s H vs Q E hr h => ?_)
  · obtain ⟨d, op, rfl, _⟩ := h
    rfl
  obtain ⟨d, op, rfl, hd, q⟩ := h
  have hu := hu_of hr
  refine ⟨_, (pss_cons (ps_if (pt_cmpR op_eq (pv 1) pe_int (nomark _)) (pss_one (ps_ret (pe_c G_law_number_of hr (pa_cons (pv 0) pa_nil)))) pss_nil)
        (pss_cons (ps_if (pt_cmpR op_eq (pv 1) pe_int (nomark _)) (pss_one (ps_ret (pe_op op_add pe_int (pe_c G_law_pick hr (pa_cons (pv 0) (pa_cons pe_int pa_nil)))))) pss_nil)
        (pss_cons (ps_if (PW.pt (pw_and (pt_cmpR op_eq (pv 1) pe_int (nomark _)) (pw_and1 (pt_cmpR op_eq (pe_c G_law_pick hr (pa_cons (pv 0) (pa_cons pe_int pa_nil))) pe_int (nomark _))))) (pss_one (ps_ret (pe_ix ix_list (pe_lst (pa_cons pe_int (pa_cons pe_int (pa_cons pe_int (pa_cons pe_int (pa_cons pe_int (pa_cons pe_int (pa_cons pe_int (pa_cons pe_int pa_nil))))))))) (pe_c G_law_pick hr (pa_cons (pv 0) (pa_cons pe_int pa_nil))) (fun _ _ => rfl)))) pss_nil)
        (pss_one (ps_ret (pe_op op_sub (pe_c G_law_pick hr (pa_cons (pv 0) (pa_cons pe_int pa_nil))) pe_int)))))), ?_⟩
  refine ⟨_, rfl, rfl, _, rfl, ifI (fun _ => ?_) fun _ => ?_⟩
  · exact ⟨_, rfl, d, rfl, hd, q⟩
  refine ⟨_, rfl, rfl, _, rfl, ifI (fun _ => ?_) fun _ => ?_⟩
  · refine ⟨_, rfl, d, 3, rfl, by decide, hd, fun H1 r f1 d1 _ _ => ⟨_, _, rfl, rfl, q H1 _ f1 d1⟩⟩
  have last : ∀ H1, Fr d H H1 → Dr H1 d → tRet (tOp (rI0 fun i j => V.int (i - j)) (tCall spPick [] E0 (tCons (tVar 0) (tCons (tC (.int 9)) tNil))) (tC (.int 2))) { nx := fun _ H' => Q .non H', rt := Q } [some (.ref d), some (.int op)] H1 := fun H1 f1 d1 =>
    ⟨_, rfl, d, 9, rfl, by decide, d1, fun H2 r f2 d2 _ _ => ⟨_, _, rfl, rfl, q H2 _ (f1.trans f2) d2⟩⟩
  refine ⟨_, rfl, rfl, _, rfl, ifI (fun _ => ?_) fun _ => ?_⟩
  · refine ⟨_, rfl, d, 3, rfl, by decide, hd, fun H1 r f1 d1 _ _ => ⟨rfl, _, rfl, ifI (fun _ => ?_) fun _ => ?_⟩⟩
    · refine ⟨(by show 8 ≤ sizeLine; decide), fun p hp => ?_⟩
      have nd : p ≠ d := let ⟨xs, e⟩ := d1; (ne_of_none e hp).symm
      have hp1 : (upd H1 p (.lst (argL.map V.int))) p = _ := upd_same
      refine ⟨_, rfl, d, 8, rfl, by decide, d1.same (Same.new hp), fun H2 r f2 d2 r0 r1 => ?_⟩
      obtain ⟨v, _, hv⟩ := inI (xs := argL) r0 (by show r < 8; exact r1)
      exact ⟨p, _, r, _, rfl, rfl, SqL.of (f2 _ _ nd hp1), hv, q H2 v ((f1.trans (Fr.of (Same.new hp))).trans f2) d2⟩
    · exact last H1 f1 d1
  · exact iteF (last H (Fr.refl d H) hd)
end Zw
namespace Zw
open PySem PySem.Spec PyProof.Rows L2 PH
variable {P : Program} {w : World} {K : PySem.W.Frag} {mg : Str → Option Value} {base : Heap}
theorem Fr.mut {d p : Addr} {H H' : Hp} {o : HO} (f : Fr d H H') (h : H p = none) : Fr d H (upd H' p o) := fun b u n e => by
  rw [upd_ne (ne_of_none e h)]
  exact f b u n e
theorem cut4 (R : Tl) : cutV ((flat R).map V.int) (some 4) none = (flat (R.drop 1)).map V.int := by
  unfold cutV
  show (((flat R).map V.int).drop (HT.sIx _ 0 (some ((4 : Nat) : Int)))).take (((flat R).map V.int).length - HT.sIx _ 0 (some ((4 : Nat) : Int))) = _
  rw [HT.sIx_nat, List.length_map, flat_len]
  cases R with
  | nil => rfl
  | cons r R =>
    rw [List.length_cons, Nat.min_eq_left (by omega), List.drop_one, List.tail_cons]
    have e : flat (r :: R) = [r.1, r.2.1, r.2.2.1, r.2.2.2] ++ flat R := by
      unfold flat
      rw [List.flatMap_cons]
    rw [e, List.map_append]
    show ((flat R).map V.int).take (4 * (R.length + 1) - 4) = _
    refine List.take_of_length_le ?_
    rw [List.length_map, flat_len]
    omega
theorem clos_of {R : Tl} (h : ∀ q ∈ R, q.2.1 ≠ 38 ∧ q.2.1 ≠ 40) : Clos (tabOf R) := by
  have key : ∀ i, i ≤ R.length → Clos (tabOf (R.take i)) := fun i => by
    induction i with
    | zero =>
      intro _ n op arg s z
      cases z
    | succ i ih =>
      intro hi n op arg s z
      have e : R[i]? = some R[i] := List.getElem?_eq_getElem hi
      rw [take_succ_some e, tabOf_snoc, look_put] at z
      by_cases q : n = R[i].1
      · rw [if_pos q] at z
        have := h R[i] (List.getElem_mem hi)
        rw [Option.some.inj z] at this
        exact this
      · rw [if_neg q] at z
        exact ih (by omega) n op arg s z
  have := key R.length (Nat.le_refl _)
  rw [List.take_length] at this
  exact this
def spImage : Sp := fun vs H Q _ => ∃ d : Addr, vs = [.ref d, .int 16, .int 0] ∧ Dr H d ∧ ∀ H' p (R : Tl), Fr d H H' → Dr H' d → H p = none → H' p = some (.lst ((flat R).map V.int)) → R.length ≤ 16 → Clos (tabOf R) → Q (.ref p) H'
abbrev s_law_image : Stmt := tp 76
theorem sc_law_image : FnScope ["_law_draws_here", "_law_many", "_law_share", "_law_numbers", "_law_k", "_law_cells", "_law_op_here", "_law_successor"] ["_law_draws_here", "_law_many", "_law_share"] (defScope s_law_image) := ⟨rfl, rfl, rfl, by decide +kernel, rfl, by decide +kernel, by decide +kernel⟩
theorem c__law_image (F : Top K mg "_law_image" s_law_image) (T : Txt K mg) (G_law_pick : Cal P w K mg base 2 "_law_pick" ["_law_draws_here", "_law_many"] spPick) (G_law_number_of : Cal P w K mg base 3 "_law_number_of" ["_law_draws_here"] spNof) (G_law_op : Cal P w K mg base 3 "_law_op" ["_law_draws_here", "_law_share"] spOp)
    (G_law_arg : Cal P w K mg base 4 "_law_arg" ["_law_draws_here", "_law_op_here"] spArg) : Cal P w K mg base 5 "_law_image" ["_law_draws_here", "_law_many", "_law_share"] spImage := by
  refine F.cal sc_law_image (fun vs H Q E h => ?_) (fun _ _ _ _ _ _ us hl => match us, hl with | [_, _, _], _ => rfl) (fun f cdv A outer s H vs Q E hr h => ?_)
  · obtain ⟨d, rfl, _⟩ := h
    rfl
  obtain ⟨d, rfl, hd, q⟩ := h
  have hu := hu_of hr
  refine ⟨_, (pss_cons (ps_set (i := 3) sc_law_image.nd rfl (Or.inl rfl) (pe_lst (pa_cons pe_int pa_nil)))
        (pss_cons (ps_for PassesOwn.never rfl (pi_range1 rfl T.range (pa_cons (pe_c G_law_pick hr (pa_cons (pv 0) (pa_cons (pv 1) pa_nil))) pa_nil)) (pg_name (i := 4) sc_law_image.nd rfl (Or.inl rfl)) (pss_one (ps_expr (pe_bm PySem.F.plainAttrs_list PySem.F.slot_list_append PySem.F.type_list_append mt_append (pv 3) (pa_cons (pe_c G_law_number_of hr (pa_cons (pv 0) pa_nil)) pa_nil)))))
        (pss_cons (ps_expr (pe_bm PySem.F.plainAttrs_list PySem.F.slot_list_append PySem.F.type_list_append mt_append (pv 3) (pa_cons (pe_c G_law_number_of hr (pa_cons (pv 0) pa_nil)) pa_nil)))
        (pss_cons (ps_set (i := 5) sc_law_image.nd rfl (Or.inl rfl) (pe_lst pa_nil))
        (pss_cons (ps_for PassesOwn.never rfl (pi_range1 rfl T.range (pa_cons (pe_op op_sub (pe_callB call_len_seq (by rfl) T.len PySem.boot_len (pa_cons (pv 3) pa_nil)) pe_int) pa_nil)) (pg_name (i := 4) sc_law_image.nd rfl (Or.inl rfl)) (pss_cons (ps_set (i := 6) sc_law_image.nd rfl (Or.inl rfl) (pe_c G_law_op hr (pa_cons (pv 0) (pa_cons (pv 2) pa_nil))))
        (pss_cons (ps_set (i := 7) sc_law_image.nd rfl (Or.inl rfl) (pe_ix ix_list (pv 3) (pe_op op_add (pv 4) pe_int) (fun _ _ => rfl)))
        (pss_cons (ps_if (pt_cmpR op_eq (pe_c G_law_pick hr (pa_cons (pv 0) (pa_cons pe_int pa_nil))) pe_int (nomark _)) (pss_one (ps_set (i := 7) sc_law_image.nd rfl (Or.inl rfl) (pe_c G_law_number_of hr (pa_cons (pv 0) pa_nil)))) pss_nil)
        (pss_one (ps_expr (pe_bm PySem.F.plainAttrs_list PySem.F.slot_list_extend PySem.F.type_list_extend mt_extend (pv 5) (pa_cons (pe_lst (pa_cons (pe_ix ix_list (pv 3) (pv 4) (fun _ _ => rfl)) (pa_cons (pv 6) (pa_cons (pe_c G_law_arg hr (pa_cons (pv 0) (pa_cons (pv 6) pa_nil))) (pa_cons (pv 7) pa_nil))))) pa_nil))))))))
        (pss_cons (ps_if (pt_cmpR op_eq (pe_c G_law_pick hr (pa_cons (pv 0) (pa_cons pe_int pa_nil))) pe_int (nomark _)) (pss_one (ps_ret (pe_slice sl_list (pv 5) (po_some pe_int) po_none))) pss_nil)
        (pss_one (ps_ret (pv 5))))))))), ?_⟩
  have bnd : ∀ {n : Nat}, n ≤ 1000 → n < sizeLine := fun h => small1000 h
  refine ⟨(by show 1 ≤ sizeLine; decide), fun nb hnb => ?_⟩
  have nnd : nb ≠ d := let ⟨xs, e⟩ := hd; (ne_of_none e hnb).symm
  have s1 : Same H (upd H nb (.lst [.int 0])) := Same.new hnb
  have hn1 : (upd H nb (.lst [.int 0])) nb = some (.lst (([0] : List Int).map V.int)) := upd_same
  have hd1 := hd.same s1
  generalize upd H nb (.lst [.int 0]) = H1 at s1 hn1 hd1
  refine ⟨_, rfl, _, rfl, d, 16, rfl, by decide, hd1, fun H2 r f2 d2 r0 r1 => ?_⟩
  have hn2 := f2 _ _ nnd hn1
  have f02 := (Fr.of s1).trans f2
  refine ⟨_, rfl, by omega, by omega, for_range (lo := 0) (n := r.toNat) (fun i σ H' => Fr d H H' ∧ Dr H' d ∧ ∃ xs : List Int, H' nb = some (.lst (xs.map V.int)) ∧ xs.length = i + 1 ∧ ∃ v4, σ = [some (.ref d), some (.int 16), some (.int 0), some (.ref nb), v4, none, none, none])
    ⟨f02, d2, _, hn2, rfl, none, rfl⟩ ?_ ?_⟩
  · rintro i σ H3 hi ⟨f3, d3, xs, hx, lx, v4, rfl⟩
    refine ⟨_, rfl, .inl ⟨rfl, _, SqL.of hx⟩, _, rfl, d, rfl, d3, fun H4 v f4 d4 => ?_⟩
    refine ⟨nb, _, _, rfl, rfl, f4 _ _ nnd hx, by rw [List.length_map]; exact bnd (by omega), ?_⟩
    rw [ap]
    obtain ⟨ys, hy⟩ := d4
    exact ⟨(f3.trans f4).mut hnb, ⟨ys, (upd_ne nnd.symm).trans hy⟩, xs ++ [v], upd_same, by rw [List.length_append, lx]; rfl, _, rfl⟩
  · rintro σ H3 ⟨f3, d3, xs0, hx0, lx0, v4, rfl⟩
    refine ⟨_, rfl, .inl ⟨rfl, _, SqL.of hx0⟩, _, rfl, d, rfl, d3, fun H4 v f4 d4 => ?_⟩
    refine ⟨nb, _, _, rfl, rfl, f4 _ _ nnd hx0, by rw [List.length_map]; exact bnd (by omega), ?_⟩
    rw [ap]
    obtain ⟨ys, hy⟩ := d4
    have f5 := (f3.trans f4).mut (o := .lst ((xs0 ++ [v]).map V.int)) hnb
    have d5 : Dr (upd H4 nb (.lst ((xs0 ++ [v]).map V.int))) d := ⟨ys, (upd_ne nnd.symm).trans hy⟩
    have hx5 : (upd H4 nb (.lst ((xs0 ++ [v]).map V.int))) nb = _ := upd_same
    have lx5 : (xs0 ++ [v]).length = r.toNat + 2 := by
      rw [List.length_append, lx0]
      rfl
    generalize upd H4 nb (.lst ((xs0 ++ [v]).map V.int)) = H5 at f5 d5 hx5
    generalize xs0 ++ [v] = xs at hx5 lx5
    refine ⟨Nat.zero_le _, fun ce hce => ?_⟩
    have ncd : ce ≠ d := let ⟨xs, e⟩ := d5; (ne_of_none e hce).symm
    have nnc : nb ≠ ce := ne_of_none hx5 hce
    have hce0 : H ce = none := by
      cases z : H ce with
      | none => rfl
      | some o =>
        have := f5 _ _ ncd z
        rw [hce] at this
        cases this
    have f6 := f5.mut (o := .lst []) hce0
    have d6 : Dr (upd H5 ce (.lst [])) d := d5.same (Same.new hce)
    have hx6 : (upd H5 ce (.lst [])) nb = _ := (upd_ne nnc).trans hx5
    have hc6 : (upd H5 ce (.lst [])) ce = some (.lst ((flat []).map V.int)) := upd_same
    generalize upd H5 ce (.lst []) = H6 at f6 d6 hx6 hc6
    have len : (((xs.map V.int).length : Nat) : Int) - 1 = ((r.toNat + 1 : Nat) : Int) := by
      rw [List.length_map, lx5]
      omega
    refine ⟨_, rfl, _, _, rfl, .inl (SqL.of hx6), _, _, rfl, rfl, _, rfl, by rw [len]; omega, by rw [len]; omega, for_range (lo := 0) (n := ((((xs.map V.int).length : Nat) : Int) - 1).toNat) (fun i σ H' => Fr d H H' ∧ Dr H' d ∧ H' nb = some (.lst (xs.map V.int)) ∧ ∃ R : Tl, H' ce = some (.lst ((flat R).map V.int)) ∧ R.length = i ∧ (∀ q ∈ R, q.2.1 ≠ 38 ∧ q.2.1 ≠ 40) ∧ ∃ v4 v6 v7, σ = [some (.ref d), some (.int 16), some (.int 0), some (.ref nb), v4, some (.ref ce), v6, v7])
      ⟨f6, d6, hx6, [], hc6, rfl, (fun q z => nomatch z), v4, none, none, rfl⟩ ?_ ?_⟩
    · rintro i σ H7 hi ⟨f7, d7, hx7, R, hc7, lR, ok, v4, v6, v7, rfl⟩
      have hi : i < r.toNat + 1 := by
        rw [len] at hi
        exact hi
      refine ⟨_, rfl, _, rfl, d, rfl, d7, fun H8 op f8 d8 op_ok => ?_⟩
      have hx8 := f8 _ _ nnd hx7
      have hc8 := f8 _ _ ncd hc7
      obtain ⟨sc, _, hsc⟩ := inI (xs := xs) (i := (0 : Int) + (i : Nat) + 1) (by omega) (by omega)
      obtain ⟨nm, _, hnm⟩ := inI (xs := xs) (i := (0 : Int) + (i : Nat)) (by omega) (by omega)
      refine ⟨_, rfl, _, rfl, _, _, rfl, rfl, nb, _, _, _, rfl, rfl, SqL.of hx8, hsc, ?_⟩
      refine ⟨_, rfl, d, 3, rfl, by decide, d8, fun H9 r9 f9 d9 _ _ => ⟨rfl, _, rfl, ifI (fun _ => ?_) fun _ => ?_⟩⟩
      · refine ⟨_, rfl, d, rfl, d9, fun Ha sc2 fa da => ?_⟩
        have fx := f9.trans fa
        have hxa := fx _ _ nnd hx8
        have hca := fx _ _ ncd hc8
        have f7a := f7.trans (f8.trans fx)
        refine ⟨_, rfl, .inl ⟨rfl, _, SqL.of hca⟩, _, rfl, _, rfl, nb, _, _, _, rfl, rfl, SqL.of hxa, hnm, _, rfl, _, rfl, _, rfl, d, op, rfl, da, fun Hb av fb db => ?_⟩
        have hxb := fb _ _ nnd hxa
        have hcb := fb _ _ ncd hca
        refine ⟨_, rfl, (by show 4 ≤ sizeLine; decide), fun u hu0 => ?_⟩
        have ncu : ce ≠ u := ne_of_none hcb hu0
        have nnu : nb ≠ u := ne_of_none hxb hu0
        have ndu : d ≠ u := let ⟨ys, e⟩ := db; ne_of_none e hu0
        refine ⟨ce, u, _, _, rfl, rfl, (upd_ne ncu).trans hcb, upd_same, ?_, ?_⟩
        · rw [List.length_map, flat_len]
          exact Nat.le_of_lt (bnd (show 4 * R.length + 4 ≤ 1000 by omega))
        · obtain ⟨ys, hy⟩ := db
          refine ⟨((f7a.trans fb).trans (Fr.of (Same.new hu0))).mut hce0, ⟨ys, (upd_ne ncd.symm).trans ((upd_ne ndu).trans hy)⟩, (upd_ne nnc).trans ((upd_ne nnu).trans hxb), R ++ [(nm, op, av, sc2)], ?_, by rw [List.length_append, lR]; rfl, fun x hx => ?_, _, _, _, rfl⟩
          · rw [upd_same, flat_append, List.map_append]
            rfl
          · rcases List.mem_append.mp hx with z | z
            · exact ok x z
            · rw [List.mem_singleton.mp z]
              exact op_ok
      · have hxa := f9 _ _ nnd hx8
        have hca := f9 _ _ ncd hc8
        have f7a := f7.trans (f8.trans f9)
        refine ⟨_, rfl, .inl ⟨rfl, _, SqL.of hca⟩, _, rfl, _, rfl, nb, _, _, _, rfl, rfl, SqL.of hxa, hnm, _, rfl, _, rfl, _, rfl, d, op, rfl, d9, fun Hb av fb db => ?_⟩
        have hxb := fb _ _ nnd hxa
        have hcb := fb _ _ ncd hca
        refine ⟨_, rfl, (by show 4 ≤ sizeLine; decide), fun u hu0 => ?_⟩
        have ncu : ce ≠ u := ne_of_none hcb hu0
        have nnu : nb ≠ u := ne_of_none hxb hu0
        have ndu : d ≠ u := let ⟨ys, e⟩ := db; ne_of_none e hu0
        refine ⟨ce, u, _, _, rfl, rfl, (upd_ne ncu).trans hcb, upd_same, ?_, ?_⟩
        · rw [List.length_map, flat_len]
          exact Nat.le_of_lt (bnd (show 4 * R.length + 4 ≤ 1000 by omega))
        · obtain ⟨ys, hy⟩ := db
          refine ⟨((f7a.trans fb).trans (Fr.of (Same.new hu0))).mut hce0, ⟨ys, (upd_ne ncd.symm).trans ((upd_ne ndu).trans hy)⟩, (upd_ne nnc).trans ((upd_ne nnu).trans hxb), R ++ [(nm, op, av, sc)], ?_, by rw [List.length_append, lR]; rfl, fun x hx => ?_, _, _, _, rfl⟩
          · rw [upd_same, flat_append, List.map_append]
            rfl
          · rcases List.mem_append.mp hx with z | z
            · exact ok x z
            · rw [List.mem_singleton.mp z]
              exact op_ok
    · rintro σ H7 ⟨f7, d7, hx7, R, hc7, lR, ok, v4, v6, v7, rfl⟩
      rw [len] at lR
      have lR : R.length ≤ 16 := by
        rw [lR, Int.toNat_natCast]
        omega
      refine ⟨_, rfl, d, 9, rfl, by decide, d7, fun H8 r8 f8 d8 _ _ => ⟨rfl, _, rfl, ifI (fun _ => ?_) fun _ => ?_⟩⟩
      · refine ⟨_, rfl, _, rfl, ce, _, rfl, SqL.of (f8 _ _ ncd hc7), fun p hp => ?_⟩
        rw [cut4]
        have npd : p ≠ d := let ⟨xs, e⟩ := d8; (ne_of_none e hp).symm
        have f78 := f7.trans f8
        have hp0 : H p = none := by
          cases z : H p with
          | none => rfl
          | some o =>
            have := f78 _ _ npd z
            rw [hp] at this
            cases this
        exact q _ p (R.drop 1) (f78.mut hp0) (d8.same (Same.new hp)) hp0 upd_same (by rw [List.length_drop]; omega) (clos_of fun x hx => ok x (List.mem_of_mem_drop hx))
      · exact ⟨_, rfl, q H8 ce R (f7.trans f8) d8 hce0 (f8 _ _ ncd hc7) lR (clos_of ok)⟩
end Zw
namespace Zw
open PySem PySem.Spec PyProof.Rows L2 PH
variable {P : Program} {w : World} {K : PySem.W.Frag} {mg : Str → Option Value} {base : Heap}
/-- an image that the law is content with -/
def Img (R : Tl) (H : Hp) (x : V) : Prop := ∃ (p : Addr) (R' : Tl), x = .ref p ∧ H p = some (.lst ((flat R').map V.int)) ∧ R'.length ≤ 100 ∧ Clos (tabOf R') ∧ Pl.Good R.length (look (tabOf R)) (look (tabOf R'))
theorem Img.same {R : Tl} {H H' : Hp} {x : V} (s : Same H H') (h : Img R H x) : Img R H' x := let ⟨p, R', e, a, b, c, d⟩ := h; ⟨p, R', e, s _ _ a, b, c, d⟩
def spLaw (K : PySem.W.Frag) : Sp := fun vs H Q _ => ∃ (a : Addr) (ns : List Int), vs = [.ref a] ∧ SqL K H a (ns.map V.int) ∧ ns.length ≤ 1000 ∧ ∀ H', Q (.bl true) H'
abbrev slaw : Stmt := tp 81
theorem sclaw : FnScope ["_law_script", "_law_draws_here", "_law_cells", "_law_numbers", "_law_k", "_law_images", "_law_image_here"] ["_law_script"] (defScope slaw) := ⟨rfl, rfl, rfl, by decide +kernel, rfl, by decide +kernel, by decide +kernel⟩
theorem ok_law {f : Addr} {fd : FuncData} (F : FunD K "law" "law" (defArgs slaw) (defBody slaw) (defScope slaw) [] [] f fd) (T : Txt K mg) (G_law_draws : Cal P w K mg base 2 "_law_draws" ["_law_script"] (spDraws K)) (G_law_image : Cal P w K mg base 5 "_law_image" ["_law_draws_here", "_law_many", "_law_share"] spImage)
    (G_law_pick : Cal P w K mg base 2 "_law_pick" ["_law_draws_here", "_law_many"] spPick) (Gthread : Cal P w K mg base 7 "thread" ["image"] (spIm K Pl.ThreadSpec 20)) (Gfold : Cal P w K mg base 5 "fold" ["image"] (spIm K Pl.FoldSpec 20)) (Gprune : Cal P w K mg base 5 "prune" ["image"] (spIm K Pl.PruneSpec 20))
    (Grenumber : Cal P w K mg base 6 "renumber" ["image"] (spIm K (fun T T' => ∃ nm, Pl.RenumSpec T T' nm) 61)) (Gmerge : Cal P w K mg base 6 "merge" ["image"] (spIm K (fun T T' => ∃ fo ch, Pl.MergeSpec T T' fo ch) 20)) (Gtrim : Cal P w K mg base 8 "trim" ["image"] (spTrim K))
    (G_law_agree_both : Cal P w K mg base 7 "_law_agree_both" ["_law_old", "_law_new", "_law_numbers"] (spBoth K)) : FnOk P w K mg base CX0 9 f fd ["_law_script"] (spLaw K) := by
  refine m_ok F sclaw (fun vs H Q E h => ?_) (fun cdv A outer s H vs Q E hr h => ?_)
  · obtain ⟨a, ns, rfl, _⟩ := h
    rfl
  obtain ⟨a, ns, rfl, S, hn, q⟩ := h
  have hu := hu_of hr
  refine ⟨_, (pss_cons (ps_set (i := 1) sclaw.nd rfl (Or.inr rfl) (pe_c G_law_draws hr (pa_cons (pv 0) pa_nil)))
        (pss_cons (ps_set (i := 2) sclaw.nd rfl (Or.inl rfl) (pe_c G_law_image hr (pa_cons (pv 1) (pa_cons pe_int (pa_cons pe_int pa_nil)))))
        (pss_cons (ps_setLc (i := 3) (own := [("_law_k", 4)]) (tt := tYes) rfl sclaw.nd rfl rfl (sw_true rfl rfl rfl (by decide +kernel)) (pi_range1 rfl T.range (pa_cons (pe_c G_law_pick hr (pa_cons (pv 1) (pa_cons pe_int pa_nil))) pa_nil)) (blkOk_by (own := [("_law_k", 4)]) (N := ["_law_script", "_law_draws_here", "_law_cells", "_law_numbers", "_law_k", "_law_images", "_law_image_here"]) (sc := defScope (tp 81)) (by decide +kernel)) (fun _ _ _ _ _ => pg_name (i := 4) sclaw.nd rfl (Or.inl rfl)) (fun _ _ _ _ _ => pts_nil) (fun _ _ _ _ _ => (pe_op op_sub (pe_c G_law_pick hr (pa_cons (pv 1) (pa_cons pe_int pa_nil))) pe_int)))
        (pss_cons (ps_set (i := 5) sclaw.nd rfl (Or.inl rfl) (pe_lst (pa_cons (pe_c Gthread hr (pa_cons (pe_callTy call_list_of (by rfl) T.list b_list (pa_cons (pv 2) pa_nil)) pa_nil)) (pa_cons (pe_c Gfold hr (pa_cons (pe_callTy call_list_of (by rfl) T.list b_list (pa_cons (pv 2) pa_nil)) pa_nil)) (pa_cons (pe_c Gprune hr (pa_cons (pe_callTy call_list_of (by rfl) T.list b_list (pa_cons (pv 2) pa_nil)) pa_nil)) (pa_cons (pe_c Grenumber hr (pa_cons (pe_callTy call_list_of (by rfl) T.list b_list (pa_cons (pv 2) pa_nil)) pa_nil)) pa_nil))))))
        (pss_cons (ps_expr (pe_bm PySem.F.plainAttrs_list PySem.F.slot_list_extend PySem.F.type_list_extend mt_extend (pv 5) (pa_cons (pe_lst (pa_cons (pe_c Gmerge hr (pa_cons (pe_callTy call_list_of (by rfl) T.list b_list (pa_cons (pv 2) pa_nil)) pa_nil)) (pa_cons (pe_c Gtrim hr (pa_cons (pe_callTy call_list_of (by rfl) T.list b_list (pa_cons (pv 2) pa_nil)) pa_nil)) pa_nil))) pa_nil)))
        (pss_cons (ps_for PassesOwn.never rfl (pi_list (pv 5)) (pg_name (i := 6) sclaw.nd rfl (Or.inl rfl)) (pss_one (ps_if (pt_not (pt_val (pe_c G_law_agree_both hr (pa_cons (pv 2) (pa_cons (pv 6) (pa_cons (pv 3) pa_nil)))))) (pss_one (ps_ret pe_bl)) pss_nil)))
        (pss_one (ps_ret pe_bl)))))))), ?_⟩
  refine ⟨_, rfl, a, ns, rfl, S, hn, fun H1 d s1 hd0 dr1 => ?_⟩
  refine ⟨_, rfl, d, rfl, dr1, fun H2 ce R f2 dr2 hce hc lR cl => ?_⟩
  have ncd : ce ≠ d := let ⟨xs, e⟩ := dr1; (ne_of_none e hce).symm
  refine ⟨_, rfl, d, 7, rfl, by decide, dr2, fun H3 r f3 dr3 r0 r1 => ?_⟩
  have hc3 := f3 _ _ ncd hc
  refine ⟨_, rfl, by omega, by omega, fun D hD => ?_⟩
  have nDd : D ≠ d := let ⟨xs, e⟩ := dr3; (ne_of_none e hD).symm
  have nDc : ce ≠ D := ne_of_none hc3 hD
  refine lc_it (n := r.toNat) walk_range (fun i H' => Dr H' d ∧ H' ce = some (.lst ((flat R).map V.int)) ∧ ∃ xs : List Int, H' D = some (.lst (xs.map V.int)) ∧ xs.length = i)
    ⟨dr3.same (Same.new hD), (upd_ne nDc).trans hc3, [], upd_same, rfl⟩ (fun _ _ _ _ => trivial) ?_ ?_
  · rintro i x H4 H5 hi ⟨dr4, hc4, xs, hx, lx⟩ ⟨rfl, rfl⟩
    refine ⟨rfl, _, rfl, d, 9, rfl, by decide, dr4, fun H6 v f6 dr6 _ _ => ⟨_, _, rfl, rfl, _, f6 _ _ nDd hx, by rw [List.length_map]; exact small1000 (by omega), ?_⟩⟩
    rw [ap]
    obtain ⟨ys, hy⟩ := dr6
    exact ⟨⟨ys, (upd_ne nDd.symm).trans hy⟩, (upd_ne nDc).trans (f6 _ _ ncd hc4), xs ++ [_], upd_same, by rw [List.length_append, lx]; rfl⟩
  · rintro H4 ⟨dr4, hc4, nums, hx4, _⟩
    have tk := tabOf_len R
    have hk : ∀ n v, look (tabOf R) n = some v → n ∈ keys (tabOf R) := fun n v e => look_mem e
    have hkl : (keys (tabOf R)).length ≤ R.length := by
      unfold keys
      rw [List.length_map]
      exact tk
    refine ⟨_, rfl, ce, _, rfl, .inl (SqL.of hc4), fun l1 hl1 => ?_⟩
    refine ⟨l1, R, rfl, SqL.of upd_same, by omega, cl, fun H5 p1 R1 s5 hp1 hR1 lR1 sp1 cl1 => ?_⟩
    have k5 := (Same.new (o := .lst ((flat R).map V.int)) hl1).trans s5
    have i1 : Img R H5 (.ref p1) := ⟨p1, R1, rfl, hR1, by omega, cl1, Pl.good_thread sp1 hk hkl⟩
    have hc5 := k5 _ _ hc4
    refine ⟨_, rfl, ce, _, rfl, .inl (SqL.of hc5), fun l2 hl2 => ?_⟩
    refine ⟨l2, R, rfl, SqL.of upd_same, by omega, cl, fun H6 p2 R2 s6 hp2 hR2 lR2 sp2 cl2 => ?_⟩
    have k6 := (Same.new (o := .lst ((flat R).map V.int)) hl2).trans s6
    have i2 : Img R H6 (.ref p2) := ⟨p2, R2, rfl, hR2, by omega, cl2, Pl.good_fold sp2⟩
    have hc6 := k6 _ _ hc5
    refine ⟨_, rfl, ce, _, rfl, .inl (SqL.of hc6), fun l3 hl3 => ?_⟩
    refine ⟨l3, R, rfl, SqL.of upd_same, by omega, cl, fun H7 p3 R3 s7 hp3 hR3 lR3 sp3 cl3 => ?_⟩
    have k7 := (Same.new (o := .lst ((flat R).map V.int)) hl3).trans s7
    have i3 : Img R H7 (.ref p3) := ⟨p3, R3, rfl, hR3, by omega, cl3, Pl.good_prune sp3⟩
    have hc7 := k7 _ _ hc6
    refine ⟨_, rfl, ce, _, rfl, .inl (SqL.of hc7), fun l4 hl4 => ?_⟩
    refine ⟨l4, R, rfl, SqL.of upd_same, by omega, cl, fun H8 p4 R4 s8 hp4 hR4 lR4 sp4 cl4 => ?_⟩
    have k8 := (Same.new (o := .lst ((flat R).map V.int)) hl4).trans s8
    obtain ⟨nm4, sp4⟩ := sp4
    have i4 : Img R H8 (.ref p4) := ⟨p4, R4, rfl, hR4, by omega, cl4, Pl.good_renum sp4⟩
    have hc8 := k8 _ _ hc7
    refine ⟨(by show 4 ≤ sizeLine; decide), fun li hli => ?_⟩
    have s9 : Same H8 _ := Same.new (o := .lst [.ref p1, .ref p2, .ref p3, .ref p4]) hli
    have hc9 := s9 _ _ hc8
    have hl9 : (upd H8 li (.lst [.ref p1, .ref p2, .ref p3, .ref p4])) li = _ := upd_same
    generalize upd H8 li (.lst [.ref p1, .ref p2, .ref p3, .ref p4]) = H9 at s9 hc9 hl9
    refine ⟨_, rfl, .inl ⟨rfl, _, SqL.of hl9⟩, ?_⟩
    refine ⟨_, rfl, ce, _, rfl, .inl (SqL.of hc9), fun l5 hl5 => ?_⟩
    refine ⟨l5, R, rfl, SqL.of upd_same, by omega, cl, fun Ha p5 R5 sa hp5 hR5 lR5 sp5 cl5 => ?_⟩
    have ka := (Same.new (o := .lst ((flat R).map V.int)) hl5).trans sa
    obtain ⟨fo5, ch5, sp5⟩ := sp5
    have i5 : Img R Ha (.ref p5) := ⟨p5, R5, rfl, hR5, by omega, cl5, Pl.good_merge sp5⟩
    have hca := ka _ _ hc9
    refine ⟨_, rfl, ce, _, rfl, .inl (SqL.of hca), fun l6 hl6 => ?_⟩
    refine ⟨l6, R, rfl, SqL.of upd_same, by omega, cl, fun Hb p6 R6 sb hp6 hR6 lR6 sp6 cl6 => ?_⟩
    have kb := (Same.new (o := .lst ((flat R).map V.int)) hl6).trans sb
    obtain ⟨T1, T2, T3, nm6, ks1, ks2, t1, t2, t3, t4, t5, t6, t7, t8⟩ := sp6
    have i6 : Img R Hb (.ref p6) := ⟨p6, R6, rfl, hR6, by omega, cl6, Pl.good_trim t1 t2 t3 t4 t5 t6 t7 t8⟩
    refine ⟨(by show 2 ≤ sizeLine; decide), fun lj hlj => ?_⟩
    have kc : Same Hb _ := Same.new (o := .lst [.ref p5, .ref p6]) hlj
    have hlb : Hb li = some (.lst [.ref p1, .ref p2, .ref p3, .ref p4]) := kb _ _ (ka _ _ hl9)
    have nlij : li ≠ lj := ne_of_none hlb hlj
    refine ⟨li, lj, _, _, rfl, rfl, (upd_ne nlij).trans hlb, upd_same, (by show 6 ≤ sizeLine; decide), ?_⟩
    have k8c : Same H8 (upd Hb lj (.lst [.ref p5, .ref p6])) := s9.trans (ka.trans (kb.trans kc))
    have k8d : Same H8 (upd (upd Hb lj (.lst [.ref p5, .ref p6])) li (.lst ([.ref p1, .ref p2, .ref p3, .ref p4] ++ [.ref p5, .ref p6]))) := Same.mut k8c hli
    have n5 : p5 ≠ li := fun z => by
      have := ne_of_none hl9 hl5
      obtain ⟨xs, e⟩ : ∃ xs : List Int, Ha p5 = some (.lst (xs.map V.int)) := ⟨_, hR5⟩
      have e2 := ka _ _ hl9
      rw [z, e2] at hR5
      cases R5 with
      | nil => cases hR5
      | cons r R5 => cases hR5
    have n6 : p6 ≠ li := fun z => by
      rw [z, hlb] at hR6
      cases R6 with
      | nil => cases hR6
      | cons r R6 => cases hR6
    have j5 : Img R (upd (upd Hb lj (.lst [.ref p5, .ref p6])) li (.lst ([.ref p1, .ref p2, .ref p3, .ref p4] ++ [.ref p5, .ref p6]))) (.ref p5) := by
      obtain ⟨p, R', e, x1, x2⟩ := (i5.same kb).same kc
      cases e
      exact ⟨_, R', rfl, (upd_ne n5).trans x1, x2⟩
    have j6 : Img R (upd (upd Hb lj (.lst [.ref p5, .ref p6])) li (.lst ([.ref p1, .ref p2, .ref p3, .ref p4] ++ [.ref p5, .ref p6]))) (.ref p6) := by
      obtain ⟨p, R', e, x1, x2⟩ := i6.same kc
      cases e
      exact ⟨_, R', rfl, (upd_ne n6).trans x1, x2⟩
    have j4 := i4.same k8d
    have j3 := (i3.same k8).same k8d
    have j2 := ((i2.same k7).same k8).same k8d
    have j1 := (((i1.same k6).same k7).same k8).same k8d
    have hcd := k8d _ _ hc8
    have hxd := k8d _ _ (k8 _ _ (k7 _ _ (k6 _ _ (k5 _ _ hx4))))
    have hld : (upd (upd Hb lj (.lst [.ref p5, .ref p6])) li (.lst ([.ref p1, .ref p2, .ref p3, .ref p4] ++ [.ref p5, .ref p6]))) li = some (.lst [.ref p1, .ref p2, .ref p3, .ref p4, .ref p5, .ref p6]) := upd_same
    generalize upd (upd Hb lj (.lst [.ref p5, .ref p6])) li (.lst ([.ref p1, .ref p2, .ref p3, .ref p4] ++ [.ref p5, .ref p6])) = Hd at j1 j2 j3 j4 j5 j6 hcd hxd hld
    have all : ∀ x, x ∈ ([.ref p1, .ref p2, .ref p3, .ref p4, .ref p5, .ref p6] : List V) → Img R Hd x := fun x hx => by
      simp only [List.mem_cons, List.not_mem_nil, or_false] at hx
      rcases hx with e | e | e | e | e | e <;> rw [e] <;> assumption
    refine ⟨_, rfl, li, rfl, ⟨_, SqL.of hld⟩, for_list (K := K) (a := li) (xs := [.ref p1, .ref p2, .ref p3, .ref p4, .ref p5, .ref p6]) (fun i σ H' => Same Hd H' ∧ ∃ v, σ = [some (.ref a), some (.ref d), some (.ref ce), some (.ref D), none, some (.ref li), v])
      ⟨fun _ _ e => e, none, rfl⟩ (fun i σ H' _ z => SqL.of (z.1 _ _ hld)) ?_ ?_⟩
    · rintro i x σ H' hi ⟨se, v, rfl⟩
      obtain ⟨p, R', rfl, hp, lp, clp, gp⟩ := all x (List.mem_of_getElem? hi)
      exact ⟨_, rfl, _, rfl, _, rfl, ce, p, D, R, R', nums, rfl, SqL.of (se _ _ hcd), SqL.of (se _ _ hp), SqL.of (se _ _ hxd), lR, lp, cl, clp, gp, fun H'' s'' => ⟨_, rfl, iteF ⟨se.trans s'', _, rfl⟩⟩⟩
    · rintro σ H' ⟨se, v, rfl⟩
      exact q H'
end Zw
namespace Zw
open PySem PySem.Spec PyProof.Rows L2 PH
section
variable {P : Program} {w : World} {K : PySem.W.Frag} {h : Heap} {mg : Str → Option Value} {base : Heap}
theorem top_of {x : Str} {n i j : Nat} (X : K.In h) (G : h.Ns mainGlobals mg) (c : He.SaysD fa fn K) (hi : fn[i]? = some (dd x n)) (hj : fa[j]? = some (.glo x)) : Top K mg x (tp n) := by
  obtain ⟨fd, F⟩ := c.def_ i hi
  exact ⟨He.ga K x, fd, He.glo_ok X G (c.fact j hj), F⟩
theorem txt_of (X : K.In h) (G : h.Ns mainGlobals mg) (c : He.SaysD fa fn K) (m : moreB K = true) : Txt K mg := by
  obtain ⟨m1, m2⟩ := ba m
  obtain ⟨m2, m3⟩ := ba m2
  exact {
    range := He.free_ok X G (c.fact 0 (f := .free "range") rfl)
    len := He.free_ok X G (c.fact 1 (f := .free "len") rfl)
    list := He.free_ok X G (c.fact 2 (f := .free "list") rfl)
    tuple := He.free_ok X G (c.fact 3 (f := .free "tuple") rfl)
    sorted := He.free_ok X G (c.fact 4 (f := .free "sorted") rfl)
    max := He.free_ok X G (c.fact 5 (f := .free "max") rfl)
    min := He.free_ok X G (c.fact 6 (f := .free "min") rfl)
    int := He.free_ok X G (c.fact 7 (f := .free "int") rfl)
    cFIRST_LETTER := He.int_ok X G (c.fact 8 (f := .int "FIRST_LETTER" 97) rfl)
    cLAST_LETTER := He.int_ok X G (c.fact 9 (f := .int "LAST_LETTER" 122) rfl)
    cFIRST_CAPITAL := He.int_ok X G (c.fact 10 (f := .int "FIRST_CAPITAL" 65) rfl)
    cLAST_CAPITAL := He.int_ok X G (c.fact 11 (f := .int "LAST_CAPITAL" 90) rfl)
    cLAST_LOW := He.int_ok X G (c.fact 12 (f := .int "LAST_LOW" 199) rfl)
    mSIGNS := He.glo_ok X G (c.fact 13 (f := .glo "SIGNS") rfl)
    mPAIRS := He.glo_ok X G (c.fact 14 (f := .glo "PAIRS") rfl)
    mDEEDS := He.glo_ok X G (c.fact 15 (f := .glo "DEEDS") rfl)
    mState := He.glo_ok X G (c.fact 16 (f := .glo "State") rfl)
    signs := fun H => He.tupB_ok m1 H
    pairs := fun H => He.tupB_ok m2 H
    deeds := m3
    cl := He.cls_ok (c.fact 17 (f := .cls "State") rfl)
    mkS := He.mkr_ok (c.fact 18 (f := .mkr "State") rfl)
    noat := fun f hf => by
      simp only [List.mem_cons, List.not_mem_nil, or_false] at hf
      rcases hf with rfl | rfl | rfl | rfl | rfl | rfl | rfl | rfl | rfl | rfl
      · exact He.noat_ok (c.fact 19 (f := .noat "State" "image") rfl)
      · exact He.noat_ok (c.fact 20 (f := .noat "State" "numbers") rfl)
      · exact He.noat_ok (c.fact 21 (f := .noat "State" "table") rfl)
      · exact He.noat_ok (c.fact 22 (f := .noat "State" "at") rfl)
      · exact He.noat_ok (c.fact 23 (f := .noat "State" "stack") rfl)
      · exact He.noat_ok (c.fact 24 (f := .noat "State" "store") rfl)
      · exact He.noat_ok (c.fact 25 (f := .noat "State" "back") rfl)
      · exact He.noat_ok (c.fact 26 (f := .noat "State" "place") rfl)
      · exact He.noat_ok (c.fact 27 (f := .noat "State" "output") rfl)
      · exact He.noat_ok (c.fact 28 (f := .noat "State" "steps") rfl)
    m_pull := He.meth_ok (c.fact 29 (f := .meth "State" "pull") rfl)
    m_has_ended := He.meth_ok (c.fact 30 (f := .meth "State" "has_ended") rfl)
    m_step := He.meth_ok (c.fact 31 (f := .meth "State" "step") rfl)
    m_advance := He.meth_ok (c.fact 32 (f := .meth "State" "advance") rfl) }
theorem kb_adv {f : Addr} {fd : FuncData} (F : FunD K "advance" "State.advance" (defArgs sadvance) (defBody sadvance) (defScope sadvance) [] [] f fd) : KBn K fd ["self", "fuel"] 1 ["fuel"] (fun us ws => us ++ ws) (fun vs zs => vs ++ zs) := by
  obtain ⟨oc, od, dV, kV, doc, pm, an, cdv, ct, osl, rfl, lk, hcd, hD, hK⟩ := F.ex
  rcases hD with ⟨_, rfl⟩ | ⟨e, _⟩
  · refine ⟨fun s us ws X l1 l2 => ?_, fun r1 r2 => r1.append r2⟩
    match us, ws, l1, l2 with
    | [u], [v], _, _ => exact .of_eq rfl
  · exact absurd rfl e
theorem law_of (X : K.In h) (G : h.Ns mainGlobals mg) (c : He.SaysD fa fn K) (m : moreB K = true) (P : Program) (w : World) (base : Heap) {fd : FuncData} (F : FunD K "law" "law" (defArgs slaw) (defBody slaw) (defScope slaw) [] [] (He.ga K "law") fd) :
    FnOk P w K mg base CX0 9 (He.ga K "law") fd ["_law_script"] (spLaw K) := by
  have T : Txt K mg := txt_of X G c m
  have Gis_letter := c_is_letter (P := P) (w := w) (base := base) (top_of (x := "is_letter") (n := 7) (i := 2) (j := 35) X G c rfl rfl)
  have Gis_nop := c_is_nop (P := P) (w := w) (base := base) (top_of (x := "is_nop") (n := 8) (i := 3) (j := 36) X G c rfl rfl) T Gis_letter
  have Gcombined := c_combined (P := P) (w := w) (base := base) (top_of (x := "combined") (n := 9) (i := 4) (j := 37) X G c rfl rfl) T
  have Ghas_nop := c_has_nop (P := P) (w := w) (base := base) (top_of (x := "has_nop") (n := 14) (i := 9) (j := 42) X G c rfl rfl) T Gis_nop
  have Gpassed := c_passed (P := P) (w := w) (base := base) (top_of (x := "passed") (n := 15) (i := 10) (j := 43) X G c rfl rfl) T Ghas_nop
  have Gtarget_in := c_target_in (P := P) (w := w) (base := base) (top_of (x := "target_in") (n := 16) (i := 11) (j := 44) X G c rfl rfl) T Gpassed
  have Gnodes_of := c_nodes_of (P := P) (w := w) (base := base) (top_of (x := "nodes_of") (n := 2) (i := 0) (j := 33) X G c rfl rfl) T
  have Gtable_of := c_table_of (P := P) (w := w) (base := base) (top_of (x := "table_of") (n := 3) (i := 1) (j := 34) X G c rfl rfl) T Gnodes_of
  have Gwritten := c_written (P := P) (w := w) (base := base) (top_of (x := "written") (n := 10) (i := 5) (j := 38) X G c rfl rfl) T
  have G_ways := c__ways (P := P) (w := w) (base := base) (top_of (x := "_ways") (n := 11) (i := 6) (j := 39) X G c rfl rfl) T Gis_letter
  have Greached := c_reached (P := P) (w := w) (base := base) (top_of (x := "reached") (n := 12) (i := 7) (j := 40) X G c rfl rfl) T G_ways
  have Gis_closed_table := c_is_closed_table (P := P) (w := w) (base := base) (top_of (x := "is_closed_table") (n := 13) (i := 8) (j := 41) X G c rfl rfl) T Greached
  have Gthreaded := c_threaded (P := P) (w := w) (base := base) (top_of (x := "threaded") (n := 18) (i := 12) (j := 45) X G c rfl rfl) T Gis_nop Ghas_nop Gtarget_in
  have G_folded := c__folded (P := P) (w := w) (base := base) (top_of (x := "_folded") (n := 19) (i := 13) (j := 46) X G c rfl rfl) T Gcombined
  have G_folded_table := c__folded_table (P := P) (w := w) (base := base) (top_of (x := "_folded_table") (n := 20) (i := 14) (j := 47) X G c rfl rfl) T G_folded
  have G_pruned := c__pruned (P := P) (w := w) (base := base) (top_of (x := "_pruned") (n := 21) (i := 15) (j := 48) X G c rfl rfl) T Greached
  have G_order := c__order (P := P) (w := w) (base := base) (top_of (x := "_order") (n := 22) (i := 16) (j := 49) X G c rfl rfl) T Greached
  have Grenumbered := c_renumbered (P := P) (w := w) (base := base) (top_of (x := "renumbered") (n := 23) (i := 17) (j := 50) X G c rfl rfl) T G_order
  have G_first_class := c__first_class (P := P) (w := w) (base := base) (top_of (x := "_first_class") (n := 61) (i := 41) (j := 74) X G c rfl rfl) T Gis_nop
  have G_later_key := c__later_key (P := P) (w := w) (base := base) (top_of (x := "_later_key") (n := 63) (i := 43) (j := 76) X G c rfl rfl) T
  have G_numbered := c__numbered (P := P) (w := w) (base := base) (top_of (x := "_numbered") (n := 62) (i := 42) (j := 75) X G c rfl rfl) T
  have Gclasses_in := c_classes_in (P := P) (w := w) (base := base) (top_of (x := "classes_in") (n := 64) (i := 44) (j := 77) X G c rfl rfl) T Greached G_first_class G_later_key G_numbered
  have G_representatives := c__representatives (P := P) (w := w) (base := base) (top_of (x := "_representatives") (n := 65) (i := 45) (j := 78) X G c rfl rfl) T
  have Gmerged := c_merged (P := P) (w := w) (base := base) (top_of (x := "merged") (n := 66) (i := 46) (j := 79) X G c rfl rfl) T Gclasses_in G_representatives Gis_nop
  have Gthread := c_thread (P := P) (w := w) (base := base) (top_of (x := "thread") (n := 24) (i := 18) (j := 51) X G c rfl rfl) T Gtable_of Gis_closed_table Gthreaded Gwritten
  have Gfold := c_fold (P := P) (w := w) (base := base) (top_of (x := "fold") (n := 25) (i := 19) (j := 52) X G c rfl rfl) T Gtable_of Gis_closed_table G_folded_table Gwritten
  have Gprune := c_prune (P := P) (w := w) (base := base) (top_of (x := "prune") (n := 26) (i := 20) (j := 53) X G c rfl rfl) T Gtable_of Gis_closed_table G_pruned Gwritten
  have Grenumber := c_renumber (P := P) (w := w) (base := base) (top_of (x := "renumber") (n := 27) (i := 21) (j := 54) X G c rfl rfl) T Gtable_of Gis_closed_table Grenumbered Gwritten
  have Gmerge := c_merge (P := P) (w := w) (base := base) (top_of (x := "merge") (n := 67) (i := 47) (j := 80) X G c rfl rfl) T Gtable_of Gis_closed_table Gmerged Gwritten
  have Gtrim := c_trim (P := P) (w := w) (base := base) (top_of (x := "trim") (n := 28) (i := 22) (j := 55) X G c rfl rfl) T Gthread Gfold Grenumber
  obtain ⟨fdInit, FInit⟩ := c.def_ 61 (d := dm "__init__" "State.__init__" 0) rfl
  obtain ⟨fdpull, Fpull⟩ := c.def_ 62 (d := dm "pull" "State.pull" 1) rfl
  obtain ⟨fdhas_ended, Fhas_ended⟩ := c.def_ 63 (d := dm "has_ended" "State.has_ended" 2) rfl
  obtain ⟨fdstep, Fstep⟩ := c.def_ 64 (d := dm "step" "State.step" 3) rfl
  obtain ⟨fdadvance, Fadvance⟩ := c.def_ 65 (d := dm "advance" "State.advance" 4) rfl
  have Gpull := ok_pull (P := P) (w := w) (base := base) Fpull T
  have bpull : Binds K fdpull ["self"] [] := FunD.bindsN Fpull fun _ _ _ _ _ _ us hl => match us, hl with | [_], _ => rfl
  have Ghas_ended := ok_has_ended (P := P) (w := w) (base := base) Fhas_ended T
  have bhas_ended : Binds K fdhas_ended ["self"] [] := FunD.bindsN Fhas_ended fun _ _ _ _ _ _ us hl => match us, hl with | [_], _ => rfl
  have GInit := ok_init (P := P) (w := w) (base := base) FInit T Gtable_of
  have bInit : Binds K fdInit ["self", "image", "numbers"] [] := FunD.bindsN FInit fun _ _ _ _ _ _ us hl => match us, hl with | [_, _, _], _ => rfl
  have DH : ∀ i nm, findD deeds i = some nm → i ≠ 38 → i ≠ 40 → Held P w K mg base 2 (He.ga K nm) (spDeed K i) := fun i nm e n1 n2 => by
    have e : findD deeds i = some nm := e
    unfold deeds at e
    unfold findD at e
    by_cases z : 35 = i
    · rw [if_pos z] at e
      cases e
      subst z
      exact (c__push (P := P) (w := w) (base := base) (top_of (x := "_push") (n := 38) (i := 23) (j := 56) X G c rfl rfl) T Gpull bpull).held (He.glo_ok X G (c.fact 56 (f := .glo "_push") rfl))
    rw [if_neg z] at e
    clear z
    unfold findD at e
    by_cases z : 43 = i
    · rw [if_pos z] at e
      cases e
      subst z
      exact (c__plus (P := P) (w := w) (base := base) (top_of (x := "_plus") (n := 39) (i := 24) (j := 57) X G c rfl rfl) T Gpull bpull).held (He.glo_ok X G (c.fact 57 (f := .glo "_plus") rfl))
    rw [if_neg z] at e
    clear z
    unfold findD at e
    by_cases z : 45 = i
    · rw [if_pos z] at e
      cases e
      subst z
      exact (c__minus (P := P) (w := w) (base := base) (top_of (x := "_minus") (n := 40) (i := 25) (j := 58) X G c rfl rfl) T Gpull bpull).held (He.glo_ok X G (c.fact 58 (f := .glo "_minus") rfl))
    rw [if_neg z] at e
    clear z
    unfold findD at e
    by_cases z : 42 = i
    · rw [if_pos z] at e
      cases e
      subst z
      exact (c__digit (P := P) (w := w) (base := base) (top_of (x := "_digit") (n := 41) (i := 26) (j := 59) X G c rfl rfl) T Gpull bpull).held (He.glo_ok X G (c.fact 59 (f := .glo "_digit") rfl))
    rw [if_neg z] at e
    clear z
    unfold findD at e
    by_cases z : 60 = i
    · rw [if_pos z] at e
      cases e
      subst z
      exact (c__less (P := P) (w := w) (base := base) (top_of (x := "_less") (n := 42) (i := 27) (j := 60) X G c rfl rfl) T Gpull bpull).held (He.glo_ok X G (c.fact 60 (f := .glo "_less") rfl))
    rw [if_neg z] at e
    clear z
    unfold findD at e
    by_cases z : 126 = i
    · rw [if_pos z] at e
      cases e
      subst z
      exact (c__same (P := P) (w := w) (base := base) (top_of (x := "_same") (n := 43) (i := 28) (j := 61) X G c rfl rfl) T Gpull bpull).held (He.glo_ok X G (c.fact 61 (f := .glo "_same") rfl))
    rw [if_neg z] at e
    clear z
    unfold findD at e
    by_cases z : 64 = i
    · rw [if_pos z] at e
      cases e
      subst z
      exact (c__load (P := P) (w := w) (base := base) (top_of (x := "_load") (n := 44) (i := 29) (j := 62) X G c rfl rfl) T Gpull bpull).held (He.glo_ok X G (c.fact 62 (f := .glo "_load") rfl))
    rw [if_neg z] at e
    clear z
    unfold findD at e
    by_cases z : 33 = i
    · rw [if_pos z] at e
      cases e
      subst z
      exact (c__keep (P := P) (w := w) (base := base) (top_of (x := "_keep") (n := 45) (i := 30) (j := 63) X G c rfl rfl) T Gpull bpull).held (He.glo_ok X G (c.fact 63 (f := .glo "_keep") rfl))
    rw [if_neg z] at e
    clear z
    unfold findD at e
    by_cases z : 61 = i
    · rw [if_pos z] at e
      cases e
      subst z
      exact (c__assign (P := P) (w := w) (base := base) (top_of (x := "_assign") (n := 46) (i := 31) (j := 64) X G c rfl rfl) T Gpull bpull).held (He.glo_ok X G (c.fact 64 (f := .glo "_assign") rfl))
    rw [if_neg z] at e
    clear z
    unfold findD at e
    by_cases z : 44 = i
    · rw [if_pos z] at e
      cases e
      subst z
      exact (c__take (P := P) (w := w) (base := base) (top_of (x := "_take") (n := 47) (i := 32) (j := 65) X G c rfl rfl) T Gpull bpull).held (He.glo_ok X G (c.fact 65 (f := .glo "_take") rfl))
    rw [if_neg z] at e
    clear z
    unfold findD at e
    by_cases z : 94 = i
    · rw [if_pos z] at e
      cases e
      subst z
      exact (c__rewind (P := P) (w := w) (base := base) (top_of (x := "_rewind") (n := 48) (i := 33) (j := 66) X G c rfl rfl) T Gpull bpull).held (He.glo_ok X G (c.fact 66 (f := .glo "_rewind") rfl))
    rw [if_neg z] at e
    clear z
    unfold findD at e
    by_cases z : 46 = i
    · rw [if_pos z] at e
      cases e
      subst z
      exact (c__emit (P := P) (w := w) (base := base) (top_of (x := "_emit") (n := 49) (i := 34) (j := 67) X G c rfl rfl) T Gpull bpull).held (He.glo_ok X G (c.fact 67 (f := .glo "_emit") rfl))
    rw [if_neg z] at e
    clear z
    unfold findD at e
    by_cases z : 38 = i
    · rw [if_pos z] at e
      cases e
      subst z
      exact (n1 rfl).elim
    rw [if_neg z] at e
    clear z
    unfold findD at e
    by_cases z : 95 = i
    · rw [if_pos z] at e
      cases e
      subst z
      exact (c__drop (P := P) (w := w) (base := base) (top_of (x := "_drop") (n := 51) (i := 35) (j := 68) X G c rfl rfl) T Gpull bpull).held (He.glo_ok X G (c.fact 68 (f := .glo "_drop") rfl))
    rw [if_neg z] at e
    clear z
    unfold findD at e
    by_cases z : 34 = i
    · rw [if_pos z] at e
      cases e
      subst z
      exact (c__double (P := P) (w := w) (base := base) (top_of (x := "_double") (n := 52) (i := 36) (j := 69) X G c rfl rfl) T Gpull bpull).held (He.glo_ok X G (c.fact 69 (f := .glo "_double") rfl))
    rw [if_neg z] at e
    clear z
    unfold findD at e
    by_cases z : 92 = i
    · rw [if_pos z] at e
      cases e
      subst z
      exact (c__exchange (P := P) (w := w) (base := base) (top_of (x := "_exchange") (n := 53) (i := 37) (j := 70) X G c rfl rfl) T Gpull bpull).held (He.glo_ok X G (c.fact 70 (f := .glo "_exchange") rfl))
    rw [if_neg z] at e
    clear z
    unfold findD at e
    by_cases z : 63 = i
    · rw [if_pos z] at e
      cases e
      subst z
      exact (c__test (P := P) (w := w) (base := base) (top_of (x := "_test") (n := 54) (i := 38) (j := 71) X G c rfl rfl) T Gpull bpull).held (He.glo_ok X G (c.fact 71 (f := .glo "_test") rfl))
    rw [if_neg z] at e
    clear z
    unfold findD at e
    by_cases z : 40 = i
    · rw [if_pos z] at e
      cases e
      subst z
      exact (n2 rfl).elim
    rw [if_neg z] at e
    clear z
    unfold findD at e
    by_cases z : 36 = i
    · rw [if_pos z] at e
      cases e
      subst z
      exact (c__call_low (P := P) (w := w) (base := base) (top_of (x := "_call_low") (n := 56) (i := 39) (j := 72) X G c rfl rfl) T Gpull bpull).held (He.glo_ok X G (c.fact 72 (f := .glo "_call_low") rfl))
    rw [if_neg z] at e
    clear z
    unfold findD at e
    by_cases z : 41 = i
    · rw [if_pos z] at e
      cases e
      subst z
      exact (c__return (P := P) (w := w) (base := base) (top_of (x := "_return") (n := 57) (i := 40) (j := 73) X G c rfl rfl) T Gpull bpull).held (He.glo_ok X G (c.fact 73 (f := .glo "_return") rfl))
    rw [if_neg z] at e
    clear z
    cases e
  have Gstep := ok_step (P := P) (w := w) (base := base) Fstep T DH
  have bstep : Binds K fdstep ["self"] [] := FunD.bindsN Fstep fun _ _ _ _ _ _ us hl => match us, hl with | [_], _ => rfl
  have Gadvance := ok_advance (P := P) (w := w) (base := base) Fadvance T Gstep bstep
  have badvance := kb_adv Fadvance
  have G_law_number := c__law_number (P := P) (w := w) (base := base) (top_of (x := "_law_number") (n := 69) (i := 48) (j := 81) X G c rfl rfl) T
  have G_law_draws := c__law_draws (P := P) (w := w) (base := base) (top_of (x := "_law_draws") (n := 70) (i := 49) (j := 82) X G c rfl rfl) T G_law_number
  have G_law_draw := c__law_draw (P := P) (w := w) (base := base) (top_of (x := "_law_draw") (n := 71) (i := 50) (j := 83) X G c rfl rfl) T
  have G_law_pick := c__law_pick (P := P) (w := w) (base := base) (top_of (x := "_law_pick") (n := 72) (i := 51) (j := 84) X G c rfl rfl) T G_law_draw
  have G_law_number_of := c__law_number_of (P := P) (w := w) (base := base) (top_of (x := "_law_number_of") (n := 73) (i := 52) (j := 85) X G c rfl rfl) T G_law_pick
  have G_law_op := c__law_op (P := P) (w := w) (base := base) (top_of (x := "_law_op") (n := 74) (i := 53) (j := 86) X G c rfl rfl) T G_law_pick
  have G_law_arg := c__law_arg (P := P) (w := w) (base := base) (top_of (x := "_law_arg") (n := 75) (i := 54) (j := 87) X G c rfl rfl) T G_law_pick G_law_number_of
  have G_law_image := c__law_image (P := P) (w := w) (base := base) (top_of (x := "_law_image") (n := 76) (i := 55) (j := 88) X G c rfl rfl) T G_law_pick G_law_number_of G_law_op G_law_arg
  have G_law_behind := c__law_behind (P := P) (w := w) (base := base) (top_of (x := "_law_behind") (n := 78) (i := 57) (j := 90) X G c rfl rfl) T GInit bInit Gadvance badvance
  have G_law_shown := c__law_shown (P := P) (w := w) (base := base) (top_of (x := "_law_shown") (n := 77) (i := 56) (j := 89) X G c rfl rfl) T
  have G_law_agree := c__law_agree (P := P) (w := w) (base := base) (top_of (x := "_law_agree") (n := 79) (i := 58) (j := 91) X G c rfl rfl) T G_law_behind G_law_shown Ghas_ended bhas_ended
  have G_law_agree_both := c__law_agree_both (P := P) (w := w) (base := base) (top_of (x := "_law_agree_both") (n := 80) (i := 59) (j := 92) X G c rfl rfl) T G_law_agree G_law_behind G_law_shown Ghas_ended bhas_ended
  exact ok_law F T G_law_draws G_law_image G_law_pick Gthread Gfold Gprune Grenumber Gmerge Gtrim G_law_agree_both
theorem facts (P : Program) (w : World) {f : Addr} (X : K.In h) (G : h.Ns mainGlobals mg) (hfa : mg ("law" : Str) = some (.ref f)) (c : SaysP K) :
    ∃ fd : FuncData, (∀ (s : Shared) (v : Value), BindsTo s fd ⟨[v], []⟩ [("_law_script", v)]) ∧ ∀ base : Heap, K.In base → base.Ns mainGlobals mg → FnOk P w K mg base CX0 9 f fd ["_law_script"] (spLaw K) := by
  have e := hfa.symm.trans (He.glo_ok X G (c.1.fact 93 (f := .glo "law") rfl))
  cases e
  obtain ⟨fd, F⟩ := c.1.def_ 60 (d := dd "law" 81) rfl
  have b := FunD.bindsA (ps := ["_law_script"]) F fun _ _ _ _ _ _ us hl => match us, hl with | [_], _ => rfl
  exact ⟨fd, fun s v => b s [v] rfl, fun base _ _ => law_of X G c.1 c.2 P w base F⟩
end
end Zw
open PySem PySem.W PySem.Calls PyProof.Rows
theorem PySem.Challenge.cw_plinth_k37_whole_shorter_images_agree_holds : PySem.Challenge.rw_plinth_k37_whole_shorter_images_agree.Holds := by
  w_on; o_law
  refine HandSHeadRun.head_any (r := OpenLaw.row PySem.Challenge.rw_plinth_k37_whole_shorter_images_agree) (q := view (OpenLaw.row PySem.Challenge.rw_plinth_k37_whole_shorter_images_agree).prog [81]) (H := PH.hookP) (ob := PH.ob) (M := 20000) (loose := PH.loose)
    (d := HandSHeadRun.topDef (OpenLaw.row PySem.Challenge.rw_plinth_k37_whole_shorter_images_agree).prog 81) (kwd := []) PH.ob_eq
    (by kernel_rfl) (fun s => by kernel_rfl) PH.run (by kernel_rfl) (by kernel_rfl) (by kernel_rfl) (by rfl) (by first | assumption | decide +kernel) (by decide +kernel) ⟨rfl, rfl, rfl, rfl, rfl, by decide +kernel⟩ ?hw ?hc
  case hw => w_witness2
  case hc =>
    refine L2.walk_ofE (l := PySem.Challenge.rw_plinth_k37_whole_shorter_images_agree) (n := 63) (k := 9) (x := "_law_script") (CX := L2.CX0) rfl (by decide) (by kernel_rfl) ⟨rfl, by decide, by decide⟩ ?F (fun _ _ _ _ z => z)
    intro w mg fa h Y G hmg0
    obtain ⟨K, KX, c⟩ := Y
    have hmg : mg ("law" : PySem.Str) = some (.ref fa) := by
      have e : (HandSHeadRun.topDef (OpenLaw.row PySem.Challenge.rw_plinth_k37_whole_shorter_images_agree).prog 81).name = ("law" : PySem.Str) := by kernel_rfl
      rw [← e]
      exact hmg0
    obtain ⟨fd, hb, hF⟩ := Zw.facts (PySem.Challenge.rw_plinth_k37_whole_shorter_images_agree).prog w KX G hmg c
    exact ⟨K, fd, Zw.spLaw K, KX, hb, fun H a ns hl _ hS => ⟨a, ns, rfl, hS, Nat.le_trans hl (by decide), fun _ => rfl⟩, hF⟩
