import PyProof.Rows.All
import PyProof.P3Statements
import PyProof.EqLayable
import Wide.All
import OpenK.AllK
import Wide.FinOn
import HandS.ForMost
import HandS.Defaults
import HandS.IsInst
import HandS.Strs
import HandS.Zip
import HandS.TupAny
import HandS.Deep
import HandS.ForExc
import HandS.ExcInit
import KE.KUnpackStar
import HandS.SetBool
import HandS.Conv
import HandS.More
import HandS.TryOnly
import HandS.Dict
import HandS.Style
import HandS.SetFor
import HandS.Iter
import HandS.ExcOwn
import HandS.WrittenGet
import PySem.Challenge.RW_forkjoins_k13_whole_any_order_paper
set_option Elab.async false
set_option linter.all false
set_option maxRecDepth 100000
set_option maxHeartbeats 8000000
/-! FJa: the plain law. What the program reckons, as total functions over plain data, and the facts that the law asks. -/
namespace FJ
open PySem

/-! ### sums -/
inductive Sl where
  | base | mine | theirs | other
  deriving DecidableEq
inductive Bo where
  | plus | minus | less
  deriving DecidableEq
inductive Sm where
  | num (i : Int)
  | slot (x : Sl)
  | bin (o : Bo) (a b : Sm)
def Sl.word : Sl → Str
  | .base => "base"
  | .mine => "mine"
  | .theirs => "theirs"
  | .other => "other"
def Bo.word : Bo → Str
  | .plus => "plus"
  | .minus => "minus"
  | .less => "less"
def Sl.val (b m t : Int) : Sl → Int
  | .base => b
  | .mine => m
  | .theirs => t
  | .other => 0
def Bo.op : Bo → Int → Int → Int
  | .plus, x, y => x + y
  | .minus, x, y => x - y
  | .less, x, y => if x < y then 1 else 0
def Sm.val (b m t : Int) : Sm → Int
  | .num i => i
  | .slot x => x.val b m t
  | .bin o p q => o.op (p.val b m t) (q.val b m t)
def Sm.depth : Sm → Nat
  | .num _ => 1
  | .slot _ => 1
  | .bin _ p q => max p.depth q.depth + 1
def Sm.dat : Sm → PyData
  | .num i => .tuple [.str "num", .int i]
  | .slot x => .tuple [.str "slot", .str x.word]
  | .bin o p q => .tuple [.str o.word, p.dat, q.dat]

/-! ### the four numbers of a sum without less -/
abbrev N4 := Int × Int × Int × Int
def Sl.nums : Sl → N4
  | .base => (1, 0, 0, 0)
  | .mine => (0, 1, 0, 0)
  | .theirs => (0, 0, 1, 0)
  | .other => (0, 0, 0, 0)
def Bo.sign : Bo → Int
  | .plus => 1
  | _ => -1
def mix (s : Int) (p q : N4) : N4 := (p.1 + s * q.1, p.2.1 + s * q.2.1, p.2.2.1 + s * q.2.2.1, p.2.2.2 + s * q.2.2.2)
def comb (o : Bo) : Option N4 → Option N4 → Option N4
  | some p, some q => if o = .less then none else some (mix o.sign p q)
  | _, _ => none
def numbersOf : Sm → Option N4
  | .num i => some (0, 0, 0, i)
  | .slot x => some x.nums
  | .bin o p q => comb o (numbersOf p) (numbersOf q)
def N4.dat (n : N4) : PyData := .tuple [.int n.1, .int n.2.1, .int n.2.2.1, .int n.2.2.2]
def optN : Option N4 → PyData
  | none => .none
  | some n => n.dat
def N4.at (n : N4) (b m t : Int) : Int := n.1 * b + n.2.1 * m + n.2.2.1 * t + n.2.2.2
theorem lin : ∀ (s : Sm) (n : N4), numbersOf s = some n → ∀ b m t, s.val b m t = n.at b m t
  | .num i, n, h, b, m, t => by
    have e : (0, 0, 0, i) = n := Option.some.inj h
    subst e
    show i = 0 * b + 0 * m + 0 * t + i
    omega
  | .slot x, n, h, b, m, t => by
    have e : x.nums = n := Option.some.inj h
    subst e
    cases x
    · show b = 1 * b + 0 * m + 0 * t + 0
      omega
    · show m = 0 * b + 1 * m + 0 * t + 0
      omega
    · show t = 0 * b + 0 * m + 1 * t + 0
      omega
    · show 0 = 0 * b + 0 * m + 0 * t + 0
      omega
  | .bin o p q, n, h, b, m, t => by
    have h : comb o (numbersOf p) (numbersOf q) = some n := h
    cases hp : numbersOf p with
    | none => rw [hp] at h; cases h
    | some np =>
      cases hq : numbersOf q with
      | none => rw [hp, hq] at h; cases h
      | some nq =>
        rw [hp, hq] at h
        have ep := lin p np hp b m t
        have eq := lin q nq hq b m t
        show o.op (p.val b m t) (q.val b m t) = _
        rw [ep, eq]
        cases o with
        | less => cases h
        | plus =>
          have e : mix 1 np nq = n := Option.some.inj h
          subst e
          obtain ⟨p1, p2, p3, p4⟩ := np
          obtain ⟨q1, q2, q3, q4⟩ := nq
          show p1 * b + p2 * m + p3 * t + p4 + (q1 * b + q2 * m + q3 * t + q4) = (p1 + 1 * q1) * b + (p2 + 1 * q2) * m + (p3 + 1 * q3) * t + (p4 + 1 * q4)
          simp only [Int.one_mul, Int.add_mul]
          omega
        | minus =>
          have e : mix (-1) np nq = n := Option.some.inj h
          subst e
          obtain ⟨p1, p2, p3, p4⟩ := np
          obtain ⟨q1, q2, q3, q4⟩ := nq
          show p1 * b + p2 * m + p3 * t + p4 - (q1 * b + q2 * m + q3 * t + q4) = (p1 + (-1) * q1) * b + (p2 + (-1) * q2) * m + (p3 + (-1) * q3) * t + (p4 + (-1) * q4)
          simp only [Int.neg_mul, Int.one_mul, Int.add_mul]
          omega

/-! ### rising lists -/
abbrev Rising (ns : List Int) : Prop := ns.Pairwise (· < ·)
def insU (x : Int) : List Int → List Int
  | [] => [x]
  | y :: r => if x < y then x :: y :: r else if x = y then y :: r else y :: insU x r
def sortU (xs : List Int) : List Int := xs.foldr insU []
theorem mem_insU (x z : Int) : ∀ l : List Int, z ∈ insU x l ↔ z = x ∨ z ∈ l
  | [] => by simp [insU]
  | y :: r => by
    unfold insU
    by_cases h : x < y
    · rw [if_pos h]; simp
    · rw [if_neg h]
      by_cases h2 : x = y
      · rw [if_pos h2]
        subst h2
        simp
      · rw [if_neg h2, List.mem_cons, mem_insU x z r, List.mem_cons]
        constructor
        · rintro (a | a | a)
          · exact .inr (.inl a)
          · exact .inl a
          · exact .inr (.inr a)
        · rintro (a | a | a)
          · exact .inr (.inl a)
          · exact .inl a
          · exact .inr (.inr a)
theorem rising_insU (x : Int) : ∀ l : List Int, Rising l → Rising (insU x l)
  | [], _ => by simp [insU]
  | y :: r, h => by
    have h1 := List.pairwise_cons.mp h
    unfold insU
    by_cases c : x < y
    · rw [if_pos c]
      refine List.pairwise_cons.mpr ⟨fun z hz => ?_, h⟩
      rcases List.mem_cons.mp hz with e | hz
      · omega
      · have := h1.1 z hz
        omega
    · rw [if_neg c]
      by_cases c2 : x = y
      · rw [if_pos c2]; exact h
      · rw [if_neg c2]
        refine List.pairwise_cons.mpr ⟨fun z hz => ?_, rising_insU x r h1.2⟩
        rcases (mem_insU x z r).mp hz with e | hz
        · omega
        · exact h1.1 z hz
theorem mem_sortU (z : Int) : ∀ l : List Int, z ∈ sortU l ↔ z ∈ l
  | [] => Iff.rfl
  | x :: r => by
    show z ∈ insU x (sortU r) ↔ _
    rw [mem_insU, mem_sortU z r, List.mem_cons]
theorem rising_sortU : ∀ l : List Int, Rising (sortU l)
  | [] => List.Pairwise.nil
  | x :: r => rising_insU x _ (rising_sortU r)
theorem len_insU (x : Int) : ∀ l : List Int, (insU x l).length ≤ l.length + 1
  | [] => Nat.le_refl _
  | y :: r => by
    unfold insU
    by_cases c : x < y
    · rw [if_pos c]; exact Nat.le_refl _
    · rw [if_neg c]
      by_cases c2 : x = y
      · rw [if_pos c2]; simp
      · rw [if_neg c2]
        have := len_insU x r
        simp only [List.length_cons]
        omega
theorem len_sortU : ∀ l : List Int, (sortU l).length ≤ l.length
  | [] => Nat.le_refl _
  | x :: r => by
    have h1 := len_insU x (sortU r)
    have h2 := len_sortU r
    show (insU x (sortU r)).length ≤ r.length + 1
    omega
theorem rising_ext : ∀ {l r : List Int}, Rising l → Rising r → (∀ z, z ∈ l ↔ z ∈ r) → l = r
  | [], [], _, _, _ => rfl
  | [], y :: r, _, _, h => absurd ((h y).mpr List.mem_cons_self) (by simp)
  | x :: l, [], _, _, h => absurd ((h x).mp List.mem_cons_self) (by simp)
  | x :: l, y :: r, hl, hr, h => by
    have l1 := List.pairwise_cons.mp hl
    have r1 := List.pairwise_cons.mp hr
    have exy : x = y := by
      rcases List.mem_cons.mp ((h x).mp List.mem_cons_self) with e | e
      · exact e
      · rcases List.mem_cons.mp ((h y).mpr List.mem_cons_self) with e2 | e2
        · exact e2.symm
        · have a := r1.1 x e
          have b := l1.1 y e2
          omega
    subst exy
    have t : l = r := rising_ext l1.2 r1.2 fun z => by
      constructor
      · intro hz
        rcases List.mem_cons.mp ((h z).mp (List.mem_cons_of_mem _ hz)) with e | e
        · have := l1.1 z hz
          omega
        · exact e
      · intro hz
        rcases List.mem_cons.mp ((h z).mpr (List.mem_cons_of_mem _ hz)) with e | e
        · have := r1.1 z hz
          omega
        · exact e
    rw [t]
theorem sortU_of {l r : List Int} (hr : Rising r) (h : ∀ z, z ∈ r ↔ z ∈ l) : r = sortU l :=
  rising_ext hr (rising_sortU l) fun z => (h z).trans (mem_sortU z l).symm

theorem rising_len : ∀ (l : List Int) (lo hi : Int), Rising l → (∀ x ∈ l, lo ≤ x ∧ x ≤ hi) → (l.length : Int) ≤ max 0 (hi - lo + 1)
  | [], lo, hi, _, _ => by
    show (0 : Int) ≤ _
    omega
  | x :: r, lo, hi, h, hb => by
    have h1 := List.pairwise_cons.mp h
    have ih := rising_len r (x + 1) hi h1.2 fun y hy => by
      have := h1.1 y hy
      have := (hb y (List.mem_cons_of_mem _ hy)).2
      omega
    have hx := hb x List.mem_cons_self
    rw [List.length_cons]
    omega
theorem rising_few {l : List Int} (h : Rising l) (hb : ∀ x ∈ l, -1 ≤ x ∧ x ≤ 40) : l.length ≤ 42 := by
  have := rising_len l (-1) 40 h hb
  omega
theorem sortU_snoc (acc : List Int) (c : Int) : sortU (acc ++ [c]) = insU c (sortU acc) := by
  refine rising_ext (rising_sortU _) (rising_insU c _ (rising_sortU _)) fun z => ?_
  rw [mem_sortU, mem_insU, mem_sortU, List.mem_append, List.mem_singleton]
  exact Or.comm
theorem insU_len : ∀ (l : List Int) (c : Int), Rising l → (insU c l).length = if c ∈ l then l.length else l.length + 1
  | [], c, _ => by simp [insU]
  | y :: r, c, h => by
    have h1 := List.pairwise_cons.mp h
    unfold insU
    by_cases a : c < y
    · have n : c ∉ y :: r := fun z => by
        rcases List.mem_cons.mp z with e | e
        · omega
        · have := h1.1 c e
          omega
      rw [if_pos a, if_neg n]
      rfl
    · rw [if_neg a]
      by_cases b : c = y
      · subst b
        simp
      · rw [if_neg b, List.length_cons, insU_len r c h1.2]
        by_cases m : c ∈ r
        · rw [if_pos m, if_pos (List.mem_cons_of_mem _ m)]
          rfl
        · rw [if_neg m, if_neg (fun z => (List.mem_cons.mp z).elim b m)]
          rfl
theorem len_snoc (acc : List Int) (c : Int) : (sortU (acc ++ [c])).length = if c ∈ acc then (sortU acc).length else (sortU acc).length + 1 := by
  rw [sortU_snoc, insU_len _ _ (rising_sortU _)]
  by_cases h : c ∈ acc
  · rw [if_pos h, if_pos ((mem_sortU c acc).mpr h)]
  · rw [if_neg h, if_neg fun z => h ((mem_sortU c acc).mp z)]

/-! ### kinds, what a cell has, merged -/
inductive Kd where
  | plain | sum | most | set | list
  | own (s : Sm)
inductive HV where
  | int (i : Int)
  | tup (ns : List Int)
  deriving DecidableEq
def Kd.dat : Kd → PyData
  | .plain => .str "plain"
  | .sum => .str "sum"
  | .most => .str "most"
  | .set => .str "set"
  | .list => .str "list"
  | .own s => .tuple [.str "own", s.dat]
def tupI (ns : List Int) : PyData := .tuple (ns.map PyData.int)
def HV.dat : HV → PyData
  | .int i => .int i
  | .tup ns => tupI ns
def HV.num : HV → Int
  | .int i => i
  | .tup _ => 0
def HV.nums : HV → List Int
  | .int _ => []
  | .tup ns => ns
def HV.len : HV → Nat
  | .int _ => 0
  | .tup ns => ns.length
/-- what a cell of a kind can have -/
def Fits : Kd → HV → Prop
  | .set, .tup ns => Rising ns ∧ ∀ x ∈ ns, -1 ≤ x ∧ x ≤ 40
  | .list, .tup _ => True
  | .plain, .int _ => True
  | .sum, .int _ => True
  | .most, .int _ => True
  | .own _, .int _ => True
  | _, _ => False
def some1 (b m t : List Int) : List Int := m.filter fun x => decide (x ∈ t) || !decide (x ∈ b)
def some2 (b t : List Int) : List Int := t.filter fun x => !decide (x ∈ b)
def mset (b m t : List Int) : List Int := sortU (some1 b m t ++ some2 b t)
def merged : Kd → HV → HV → HV → HV
  | .plain, _, _, t => t
  | .sum, b, m, t => .int (m.num + t.num - b.num)
  | .most, _, m, t => .int (if t.num > m.num then t.num else m.num)
  | .set, b, m, t => .tup (mset b.nums m.nums t.nums)
  | .list, b, m, t => .tup (m.nums ++ t.nums.drop b.nums.length)
  | .own s, b, m, t => .int (s.val b.num m.num t.num)
structure Jn where
  base : HV
  theirs : HV
  deriving DecidableEq
def Jn.dat (j : Jn) : PyData := .tuple [j.base.dat, j.theirs.dat]
def Jn.Fits (k : Kd) (j : Jn) : Prop := FJ.Fits k j.base ∧ FJ.Fits k j.theirs
def two (k : Kd) (m : HV) (p q : Jn) : HV := merged k q.base (merged k p.base m p.theirs) q.theirs
theorem fits_merged {k : Kd} {b m t : HV} (hb : Fits k b) (hm : Fits k m) (ht : Fits k t) : Fits k (merged k b m t) := by
  cases k with
  | plain => exact ht
  | sum => exact trivial
  | most => exact trivial
  | set =>
    cases m with
    | int _ => exact hm.elim
    | tup ms =>
      cases t with
      | int _ => exact ht.elim
      | tup ts =>
        refine ⟨rising_sortU _, fun x hx => ?_⟩
        rcases List.mem_append.mp ((mem_sortU x _).mp hx) with h | h
        · exact hm.2 x (List.mem_filter.mp h).1
        · exact ht.2 x (List.mem_filter.mp h).1
  | list => exact trivial
  | own s => exact trivial
theorem len_merged (k : Kd) (b m t : HV) : (merged k b m t).len ≤ m.len + t.len := by
  cases k with
  | plain => exact Nat.le_add_left _ _
  | sum => exact Nat.zero_le _
  | most => exact Nat.zero_le _
  | own s => exact Nat.zero_le _
  | set =>
    have h1 := len_sortU (some1 b.nums m.nums t.nums ++ some2 b.nums t.nums)
    have h2 : (some1 b.nums m.nums t.nums).length ≤ m.nums.length := List.length_filter_le _ _
    have h3 : (some2 b.nums t.nums).length ≤ t.nums.length := List.length_filter_le _ _
    have e1 : m.len = m.nums.length := by cases m <;> rfl
    have e2 : t.len = t.nums.length := by cases t <;> rfl
    rw [List.length_append] at h1
    show (sortU _).length ≤ _
    omega
  | list =>
    have e1 : m.len = m.nums.length := by cases m <;> rfl
    have e2 : t.len = t.nums.length := by cases t <;> rfl
    show (m.nums ++ t.nums.drop b.nums.length).length ≤ _
    rw [List.length_append, List.length_drop]
    omega

/-! ### orders -/
def isAlike (n : N4) (same : Bool) : Bool := decide (n.2.1 = 1) || (decide (n.2.2.1 = 0) && (decide (n.1 = 0) || same))
abbrev Part := Int × (Int × Int) × (Int × Int)
def rngI (r : Nat) : List Int := (List.range (2 * r + 1)).map fun i => -(r : Int) + (i : Nat)
def bases (r : Nat) (same : Bool) : List (Int × Int) := (rngI r).flatMap fun x => ((rngI r).filter fun y => decide (x = y) || !same).map fun y => (x, y)
def joins (r : Nat) (same : Bool) : List ((Int × Int) × (Int × Int)) := (bases r same).flatMap fun lh => (rngI r).flatMap fun x => (rngI r).map fun y => ((lh.1, x), (lh.2, y))
def allParts (r : Nat) (same : Bool) : List Part := (rngI r).flatMap fun m => (joins r same).map fun j => (m, j.1, j.2)
def jn (p : Int × Int) : Jn := ⟨.int p.1, .int p.2⟩
def partsAt (k : Kd) (p : Part) : Bool := decide (two k (.int p.1) (jn p.2.1) (jn p.2.2) ≠ two k (.int p.1) (jn p.2.2) (jn p.2.1))
def parting (k : Kd) (r : Nat) (same : Bool) : Option Part := (allParts r same).find? (partsAt k)

/-! ### papers -/
inductive Th where
  | alikeN
  | alike (n : N4)
  | parted (m : HV) (p q : Jn)
  | within (r : Nat)
def Th.dat : Th → PyData
  | .alikeN => .tuple [.str "alike", .none]
  | .alike n => .tuple [.str "alike", n.dat]
  | .parted m p q => .tuple [.str "parted", .tuple [m.dat, p.dat, q.dat]]
  | .within r => .tuple [.str "within", .int r]
inductive Wd where
  | alike | parted | within
  deriving DecidableEq
def Wd.word : Wd → Str
  | .alike => "alike"
  | .parted => "parted"
  | .within => "within"
def Th.wd : Th → Wd
  | .alikeN => .alike
  | .alike _ => .alike
  | .parted _ _ _ => .parted
  | .within _ => .within
def Th.Fits (k : Kd) : Th → Prop
  | .parted m p q => FJ.Fits k m ∧ p.Fits k ∧ q.Fits k
  | _ => True
/-- the word that lets_order tells, none where it refuses -/
def lets (k : Kd) (same : Bool) : Th → Option Wd
  | .alikeN => match k with
    | .sum => some .alike
    | .most => some .alike
    | .set => if same then some .alike else none
    | _ => none
  | .alike n => match k with
    | .own s => match numbersOf s with
      | some due => if n = due then (if isAlike due same then some .alike else none) else none
      | none => none
    | _ => none
  | .parted m p q => if (decide (p.base = q.base) || !same) && decide (two k m p q ≠ two k m q p) then some .parted else none
  | .within r => match k with
    | .own s => match numbersOf s with
      | some _ => none
      | none => match parting (.own s) r same with
        | none => some .within
        | some _ => none
    | _ => none
def ofPart (p : Part) : Th := .parted (.int p.1) (jn p.2.1) (jn p.2.2)
def plainParts : Kd → Th
  | .plain => .parted (.int 0) ⟨.int 0, .int 1⟩ ⟨.int 0, .int 2⟩
  | .list => .parted (.tup []) ⟨.tup [], .tup [1]⟩ ⟨.tup [], .tup [2]⟩
  | _ => .parted (.tup []) ⟨.tup [], .tup [1]⟩ ⟨.tup [1], .tup []⟩
def ownPaper (s : Sm) (same : Bool) (r : Nat) : Th :=
  match numbersOf s with
  | some n => if isAlike n same then .alike n else match parting (.own s) 1 same with
    | none => .within r
    | some p => ofPart p
  | none => match parting (.own s) r same with
    | none => .within r
    | some p => ofPart p
def orderPaper (k : Kd) (same : Bool) (r : Nat) : Th :=
  match k with
  | .own s => ownPaper s same r
  | .sum => .alikeN
  | .most => .alikeN
  | .set => if same then .alikeN else plainParts .set
  | k => plainParts k

/-! ### what the law asks -/
theorem at_two (n : N4) (b1 t1 b2 t2 m : Int) (same : Bool) (h : isAlike n same = true) (hb : same = true → b1 = b2) : n.at b2 (n.at b1 m t1) t2 = n.at b1 (n.at b2 m t2) t1 := by
  obtain ⟨a, b, c, d⟩ := n
  show a * b2 + b * (a * b1 + b * m + c * t1 + d) + c * t2 + d = a * b1 + b * (a * b2 + b * m + c * t2 + d) + c * t1 + d
  have h : (decide (b = 1) || (decide (c = 0) && (decide (a = 0) || same))) = true := h
  simp only [Bool.or_eq_true, Bool.and_eq_true, decide_eq_true_eq] at h
  rcases h with rfl | ⟨rfl, rfl | h⟩
  · omega
  · simp only [Int.zero_mul, Int.zero_add]
  · have e := hb h
    subst e
    simp only [Int.zero_mul]
theorem set_two (b m t u : List Int) : mset b (mset b m t) u = mset b (mset b m u) t := by
  refine rising_ext (rising_sortU _) (rising_sortU _) fun z => ?_
  simp only [mset, mem_sortU, some1, some2, List.mem_append, List.mem_filter, Bool.or_eq_true, Bool.not_eq_true', decide_eq_true_eq, decide_eq_false_iff_not]
  by_cases h1 : z ∈ b <;> by_cases h2 : z ∈ m <;> by_cases h3 : z ∈ t <;> by_cases h4 : z ∈ u <;> simp [h1, h2, h3, h4]
theorem alike_two {k : Kd} {same : Bool} {th : Th} (h : lets k same th = some .alike) {m : HV} {p q : Jn} (hm : Fits k m) (hp : p.Fits k) (hq : q.Fits k) (hb : same = true → p.base = q.base) : two k m p q = two k m q p := by
  cases th with
  | parted m p q =>
    have h : (if _ then some Wd.parted else none) = some Wd.alike := h
    split at h <;> cases h
  | within r =>
    cases k with
    | own s =>
      have h : (match numbersOf s with | some _ => none | none => match parting (.own s) r same with | none => some Wd.within | some _ => none) = some Wd.alike := h
      cases e : numbersOf s with
      | some _ => rw [e] at h; cases h
      | none =>
        rw [e] at h
        cases e2 : parting (.own s) r same with
        | some _ => simp only [e2] at h; cases h
        | none => simp only [e2] at h; cases h
    | _ => cases h
  | alike n =>
    cases k with
    | own s =>
      have h : (match numbersOf s with | some due => if n = due then (if isAlike due same then some Wd.alike else none) else none | none => none) = some Wd.alike := h
      cases e : numbersOf s with
      | none => rw [e] at h; cases h
      | some due =>
        rw [e] at h
        by_cases c1 : n = due
        · by_cases c2 : isAlike due same = true
          · obtain ⟨pb, pt⟩ := p
            obtain ⟨qb, qt⟩ := q
            have key := at_two due pb.num pt.num qb.num qt.num m.num same c2 fun z => by
              have e2 : pb = qb := hb z
              rw [e2]
            show HV.int (s.val qb.num (s.val pb.num m.num pt.num) qt.num) = HV.int (s.val pb.num (s.val qb.num m.num qt.num) pt.num)
            rw [lin s due e, lin s due e, lin s due e, lin s due e, key]
          · simp only [c1, if_true, c2] at h
            cases h
        · simp only [c1, if_false] at h
          cases h
    | _ => cases h
  | alikeN =>
    obtain ⟨pb, pt⟩ := p
    obtain ⟨qb, qt⟩ := q
    cases k with
    | plain => cases h
    | list => cases h
    | own s => cases h
    | sum =>
      show HV.int ((m.num + pt.num - pb.num) + qt.num - qb.num) = HV.int ((m.num + qt.num - qb.num) + pt.num - pb.num)
      congr 1
      omega
    | most =>
      show HV.int (if qt.num > (if pt.num > m.num then pt.num else m.num) then qt.num else (if pt.num > m.num then pt.num else m.num)) = HV.int (if pt.num > (if qt.num > m.num then qt.num else m.num) then pt.num else (if qt.num > m.num then qt.num else m.num))
      congr 1
      repeat' split
      all_goals omega
    | set =>
      have h : (if same = true then some Wd.alike else none) = some Wd.alike := h
      cases same with
      | false => cases h
      | true =>
        have e : pb = qb := hb rfl
        subst e
        exact congrArg HV.tup (set_two pb.nums m.nums pt.nums qt.nums)
theorem lets_parted {k : Kd} {same : Bool} {th : Th} (h : lets k same th = some .parted) : ∃ m p q, th = .parted m p q ∧ (same = true → p.base = q.base) ∧ two k m p q ≠ two k m q p := by
  cases th with
  | parted m p q =>
    have h : (if ((decide (p.base = q.base) || !same) && decide (two k m p q ≠ two k m q p)) = true then some Wd.parted else none) = some Wd.parted := h
    by_cases c : ((decide (p.base = q.base) || !same) && decide (two k m p q ≠ two k m q p)) = true
    · simp only [Bool.and_eq_true, Bool.or_eq_true, decide_eq_true_eq, Bool.not_eq_true'] at c
      refine ⟨m, p, q, rfl, fun z => ?_, c.2⟩
      rcases c.1 with a | a
      · exact a
      · rw [z] at a; cases a
    · rw [if_neg c] at h
      cases h
  | alikeN =>
    cases k with
    | set =>
      have h : (if same = true then some Wd.alike else none) = some Wd.parted := h
      split at h <;> cases h
    | _ => cases h
  | alike n =>
    cases k with
    | own s =>
      have h : (match numbersOf s with | some due => if n = due then (if isAlike due same then some Wd.alike else none) else none | none => none) = some Wd.parted := h
      cases e : numbersOf s with
      | none => rw [e] at h; cases h
      | some due =>
        rw [e] at h
        dsimp only at h
        split at h
        · split at h <;> cases h
        · cases h
    | _ => cases h
  | within r =>
    cases k with
    | own s =>
      have h : (match numbersOf s with | some _ => none | none => match parting (.own s) r same with | none => some Wd.within | some _ => none) = some Wd.parted := h
      cases e : numbersOf s with
      | some _ => rw [e] at h; cases h
      | none =>
        rw [e] at h
        dsimp only at h
        split at h <;> cases h
    | _ => cases h
theorem lets_within {k : Kd} {same : Bool} {th : Th} (h : lets k same th = some .within) : ∃ s r, k = .own s ∧ th = .within r ∧ numbersOf s = none ∧ parting (.own s) r same = none := by
  cases th with
  | parted m p q =>
    have h : (if _ then some Wd.parted else none) = some Wd.within := h
    split at h <;> cases h
  | alikeN =>
    cases k with
    | set =>
      have h : (if same = true then some Wd.alike else none) = some Wd.within := h
      split at h <;> cases h
    | _ => cases h
  | alike n =>
    cases k with
    | own s =>
      have h : (match numbersOf s with | some due => if n = due then (if isAlike due same then some Wd.alike else none) else none | none => none) = some Wd.within := h
      cases e : numbersOf s with
      | none => rw [e] at h; cases h
      | some due =>
        rw [e] at h
        dsimp only at h
        split at h
        · split at h <;> cases h
        · cases h
    | _ => cases h
  | within r =>
    cases k with
    | own s =>
      have h : (match numbersOf s with | some _ => none | none => match parting (.own s) r same with | none => some Wd.within | some _ => none) = some Wd.within := h
      cases e : numbersOf s with
      | some _ => rw [e] at h; cases h
      | none =>
        rw [e] at h
        dsimp only at h
        cases e2 : parting (.own s) r same with
        | some _ => rw [e2] at h; cases h
        | none => exact ⟨s, r, rfl, rfl, e, e2⟩
    | _ => cases h
/-- alike and parted are never both let by -/
theorem not_both {k : Kd} {same : Bool} {t1 t2 : Th} (h1 : lets k same t1 = some .alike) (h2 : lets k same t2 = some .parted) (f2 : t2.Fits k) : False := by
  obtain ⟨m, p, q, rfl, hb, ne⟩ := lets_parted h2
  exact ne (alike_two h1 f2.1 f2.2.1 f2.2.2 hb)
/-- a sum without less that parts some joins parts them by numbers of the least reach -/
theorem parting_some {s : Sm} {n : N4} {same : Bool} (e : numbersOf s = some n) (h : isAlike n same = false) : ∃ p, parting (.own s) 1 same = some p := by
  have key : ∀ x ∈ allParts 1 same, partsAt (.own s) x = true → ∃ p, parting (.own s) 1 same = some p := fun x hx hp => by
    cases f : parting (.own s) 1 same with
    | some p => exact ⟨p, rfl⟩
    | none => exact absurd hp (by
        have := List.find?_eq_none.mp f x hx
        exact this)
  obtain ⟨a, b, c, d⟩ := n
  have v : ∀ x y z, s.val x y z = a * x + b * y + c * z + d := lin s _ e
  have h : (decide (b = 1) || (decide (c = 0) && (decide (a = 0) || same))) = false := h
  simp only [Bool.or_eq_false_iff, decide_eq_false_iff_not] at h
  obtain ⟨hb, h⟩ := h
  by_cases hc : c = 0
  · -- the bases part them
    subst hc
    simp only [decide_true, Bool.true_and, Bool.or_eq_false_iff, decide_eq_false_iff_not] at h
    obtain ⟨ha, rfl⟩ := h
    refine key (0, (0, 0), (1, 0)) (by decide +kernel) ?_
    refine decide_eq_true fun z => ?_
    have z : HV.int (s.val 1 (s.val 0 0 0) 0) = HV.int (s.val 0 (s.val 1 0 0) 0) := z
    have z := HV.int.inj z
    rw [v, v, v, v] at z
    have z : a * 1 + b * (a * 0 + b * 0 + 0 * 0 + d) + 0 * 0 + d = a * 0 + b * (a * 1 + b * 0 + 0 * 0 + d) + 0 * 0 + d := z
    simp only [Int.mul_one, Int.mul_zero, Int.zero_mul, Int.add_zero, Int.zero_add, Int.mul_add] at z
    have y : a * (b - 1) = 0 := by
      rw [Int.mul_sub, Int.mul_one, Int.mul_comm a b]
      omega
    rcases Int.mul_eq_zero.mp y with y | y
    · exact ha y
    · omega
  · -- theirs part them
    refine key (0, (0, 0), (0, 1)) (by cases same <;> decide +kernel) ?_
    refine decide_eq_true fun z => ?_
    have z : HV.int (s.val 0 (s.val 0 0 0) 1) = HV.int (s.val 0 (s.val 0 0 1) 0) := z
    have z := HV.int.inj z
    rw [v, v, v, v] at z
    simp only [Int.mul_one, Int.mul_zero, Int.zero_mul, Int.add_zero, Int.zero_add, Int.mul_add] at z
    have y : c * (b - 1) = 0 := by
      rw [Int.mul_sub, Int.mul_one, Int.mul_comm c b]
      omega
    rcases Int.mul_eq_zero.mp y with y | y
    · exact hc y
    · omega
theorem rng_mem {r : Nat} {same : Bool} {p : Part} (h : p ∈ allParts r same) : same = true → p.2.1.1 = p.2.2.1 := fun hs => by
  subst hs
  obtain ⟨m, _, h⟩ := List.mem_flatMap.mp h
  obtain ⟨j, hj, rfl⟩ := List.mem_map.mp h
  obtain ⟨lh, hl, hj⟩ := List.mem_flatMap.mp hj
  obtain ⟨x, _, hj⟩ := List.mem_flatMap.mp hj
  obtain ⟨y, _, rfl⟩ := List.mem_map.mp hj
  obtain ⟨u, _, hl⟩ := List.mem_flatMap.mp hl
  obtain ⟨v, hv, rfl⟩ := List.mem_map.mp hl
  have q := (List.mem_filter.mp hv).2
  simp only [Bool.not_true, Bool.or_false, decide_eq_true_eq] at q
  exact q
theorem lets_ofPart {s : Sm} {r : Nat} {same : Bool} {p : Part} (h : parting (.own s) r same = some p) : lets (.own s) same (ofPart p) = some .parted := by
  have h1 : partsAt (.own s) p = true := List.find?_some h
  have h2 : p ∈ allParts r same := List.mem_of_find?_eq_some h
  have h3 := rng_mem h2
  have h1 := of_decide_eq_true h1
  show (if ((decide ((jn p.2.1).base = (jn p.2.2).base) || !same) && decide (two (.own s) (.int p.1) (jn p.2.1) (jn p.2.2) ≠ two (.own s) (.int p.1) (jn p.2.2) (jn p.2.1))) = true then some Wd.parted else none) = some .parted
  rw [if_pos]
  rw [decide_eq_true h1, Bool.and_true]
  cases same with
  | false => simp
  | true =>
    rw [Bool.not_true, Bool.or_false]
    exact decide_eq_true (congrArg HV.int (h3 rfl))
/-- what order_paper tells is let by, by its own word -/
theorem lets_paper (k : Kd) (same : Bool) : lets k same (orderPaper k same 1) = some (orderPaper k same 1).wd := by
  cases k with
  | plain => cases same <;> decide +kernel
  | sum => rfl
  | most => rfl
  | list => cases same <;> decide +kernel
  | set => cases same <;> decide +kernel
  | own s =>
    show lets (.own s) same (ownPaper s same 1) = some (ownPaper s same 1).wd
    unfold ownPaper
    cases e : numbersOf s with
    | some n =>
      dsimp only
      by_cases c : isAlike n same = true
      · rw [if_pos c]
        show (match numbersOf s with | some due => if n = due then (if isAlike due same then some Wd.alike else none) else none | none => none) = some Wd.alike
        rw [e]
        dsimp only
        rw [if_pos rfl, if_pos c]
      · rw [if_neg c]
        obtain ⟨p, hp⟩ := parting_some e (by simpa using c)
        rw [hp]
        exact lets_ofPart hp
    | none =>
      dsimp only
      cases e2 : parting (.own s) 1 same with
      | some p => exact lets_ofPart e2
      | none =>
        show (match numbersOf s with | some _ => none | none => match parting (.own s) 1 same with | none => some Wd.within | some _ => none) = some Wd.within
        rw [e]
        dsimp only
        rw [e2]
/-- of every kind but own ones with less: alike or parted -/
theorem paper_sharp {k : Kd} (same : Bool) (h : ∀ s, k = .own s → ∃ n, numbersOf s = some n) : (orderPaper k same 1).wd ≠ .within := by
  cases k with
  | plain => exact fun z => by cases z
  | sum => exact fun z => by cases z
  | most => exact fun z => by cases z
  | list => exact fun z => by cases z
  | set => cases same <;> exact fun z => by cases z
  | own s =>
    obtain ⟨n, e⟩ := h s rfl
    show (ownPaper s same 1).wd ≠ .within
    unfold ownPaper
    rw [e]
    dsimp only
    by_cases c : isAlike n same = true
    · rw [if_pos c]
      exact fun z => by cases z
    · rw [if_neg c]
      obtain ⟨p, hp⟩ := parting_some e (by simpa using c)
      rw [hp]
      exact fun z => by cases z
theorem within_paper {k : Kd} {same : Bool} {r : Nat} (h : lets k same (.within r) = some .within) : (orderPaper k same r).wd = .within := by
  obtain ⟨s, r', rfl, e, h1, h2⟩ := lets_within h
  cases e
  show (ownPaper s same r).wd = .within
  unfold ownPaper
  rw [h1]
  dsimp only
  rw [h2]
  rfl
end FJ

/-! FJb: data in the heap, the defs by their places, short rules. -/
namespace FJ
open PySem PySem.Spec PyProof.Rows L2

/-! ### the text by places -/
def topS (i : Nat) : Stmt := PySem.Challenge.pw_forkjoins_k13_whole_any_order_paper.main.body.getD i (.Pass ⟨0, 0, 0, 0⟩)
/-- a def as it stands behind the top, under its own name -/
structure At (K : PySem.W.Frag) (mg : Str → Option Value) (x : Str) (st : Stmt) (kws : List (Str × V)) (f : Addr) (fd : FuncData) : Prop where
  F : FunD K x x (defArgs st) (defBody st) (defScope st) [] kws f fd
  g : mg x = some (.ref f)
abbrev IsAt (K : PySem.W.Frag) (mg : Str → Option Value) (x : Str) (st : Stmt) (kws : List (Str × V)) : Prop := ∃ f fd, At K mg x st kws f fd
/-- .. and it keeps a promise -/
def OkD (P : Program) (w : World) (K : PySem.W.Frag) (mg : Str → Option Value) (base : Heap) (CX : CXT) (k : Nat) (x : Str) (st : Stmt) (kws : List (Str × V)) (ps : List Str) (sp : Sp) : Prop :=
  ∃ f fd, At K mg x st kws f fd ∧ FnOk P w K mg base CX k f fd ps sp
section
variable {P : Program} {w : World} {K : PySem.W.Frag} {mg : Str → Option Value} {base : Heap} {x : Str} {st : Stmt} {kws : List (Str × V)} {N ps : List Str} {k : Nat} {sp : Sp}
theorem OkD.mono {CX : CXT} {j : Nat} (F : OkD P w K mg base CX j x st kws ps sp) (h : j ≤ k) : OkD P w K mg base CX k x st kws ps sp :=
  let ⟨f, fd, a, b⟩ := F
  ⟨f, fd, a, b.mono h⟩
/-- a def out of which nothing is raised -/
theorem okD (h : IsAt K mg x st kws) (S : FnScope N ps (defScope st)) (len : ∀ vs H Q E, sp vs H Q E → vs.length = ps.length)
    (body : ∀ (f : Addr) (cdv : Value) (A : Around) (outer : List Env) (s : Shared) (H : Hp) (vs : List V) (Q : VK) (E : XK), Room k (A.deeper (envOfC x (defScope st) s.heap.objs.size f cdv)) → sp vs H Q E →
      ∃ t, PSs (cxOf CX0 P w K mg base N x (defScope st) f cdv A outer s H E).nox (defBody st) t ∧ t { nx := fun _ H' => Q .non H', rt := Q } (start N vs) H) : OkD P w K mg base CX0 (k + 1) x st kws ps sp := by
  obtain ⟨f, fd, a⟩ := h
  refine ⟨f, fd, a, a.F.ok S len fun cdv A outer s H vs Q E hr hs => ?_⟩
  obtain ⟨t, h1, h2⟩ := body f cdv A outer s H vs Q E hr hs
  exact ⟨t, h1.nox, h2⟩
/-- a def that may raise -/
theorem okX {CX : CXT} (h : IsAt K mg x st kws) (S : FnScope N ps (defScope st)) (len : ∀ vs H Q E, sp vs H Q E → vs.length = ps.length)
    (body : ∀ (f : Addr) (cdv : Value) (A : Around) (outer : List Env) (s : Shared) (H : Hp) (vs : List V) (Q : VK) (E : XK), Room k (A.deeper (envOfC x (defScope st) s.heap.objs.size f cdv)) → sp vs H Q E →
      ∃ t, PSs (cxOf CX P w K mg base N x (defScope st) f cdv A outer s H E) (defBody st) t ∧ t { nx := fun _ H' => Q .non H', rt := Q } (start N vs) H) : OkD P w K mg base CX (k + 1) x st kws ps sp := by
  obtain ⟨f, fd, a⟩ := h
  exact ⟨f, fd, a, a.F.ok S len fun cdv A outer s H vs Q E hr hs => body f cdv A outer s H vs Q E hr hs⟩
end
theorem units64 {A : Around} {k : Nat} (hr : Room k A) : A.units + 64 < cLine := by
  have := hr.un
  omega
theorem units65 {A : Around} {k : Nat} (hr : Room k A) : A.units + 65 < cLine := by
  have := hr.un
  omega
/-- all keyword-only parameters are given, in their order -/
theorem kb_all {K : PySem.W.Frag} {x qual : Str} {params : Arguments} {body : List Stmt} {scope : Scope} {kws : List (Str × V)} {f : Addr} {fd : FuncData} {ps ks : List Str} {n : Nat} (F : FunD K x qual params body scope [] kws f fd)
    (h : ∀ (kV doc pm : Value) (an : Option Addr) (cdv ct : Value) (us ws : List Value), us.length = n → ws.length = ks.length → bindArgs (PySem.W.fnOf x qual params body scope .none kV doc pm an cdv ct) ⟨us, ks.zip ws⟩ = pure (ps.zip (us ++ ws))) :
    KBn K fd ps n ks (· ++ ·) (· ++ ·) := by
  obtain ⟨oc, od, dV, kV, doc, pm, an, cdv, ct, osl, rfl, _, _, hD, _⟩ := F.ex
  rcases hD with ⟨_, rfl⟩ | ⟨e, _⟩
  · exact ⟨fun s us ws _ h1 h2 => .of_eq (h kV doc pm an cdv ct us ws h1 h2), fun a b => a.append b⟩
  · exact absurd rfl e

/-! ### data -/
section
variable {K : PySem.W.Frag} {H H' : Hp} {v : V} {vs : List V} {d : PyData} {ds : List PyData}
theorem same_new {H : Hp} {p : Addr} {o : HO} (h : H p = none) : Same H (upd H p o) := fun b u q => by
  rw [upd_ne (ne_of_none q h)]
  exact q
theorem _root_.L2.Same.tupT (e : Same H H') {a : Addr} {xs : List V} (h : SqT K H a xs) : SqT K H' a xs := by
  rcases h with (h | ⟨o, h⟩) | h
  · exact .inl (.inl (e _ _ h))
  · exact .inl (.inr ⟨o, e _ _ h⟩)
  · exact .inr h
mutual
theorem dp_mono (e : Same H H') : ∀ (d : PyData) (v : V), Dp K H v d → Dp K H' v d
  | .none, _, h => by cases h; exact .non
  | .bool b, _, h => by cases h; exact .bl b
  | .int i, _, h => by cases h; exact .int i
  | .str x, _, h => by cases h; exact .str x
  | .list ds, _, h => by
    cases h with
    | lst hs ha => exact .lst (e.seq hs) (dpa_mono e ds _ ha)
  | .tuple ds, _, h => by
    cases h with
    | tup hs ha => exact .tup (Same.tupT e hs) (dpa_mono e ds _ ha)
  | .dict _, _, h => by cases h
theorem dpa_mono (e : Same H H') : ∀ (ds : List PyData) (vs : List V), DpAll K H vs ds → DpAll K H' vs ds
  | [], _, h => by cases h; exact .nil
  | d :: ds, _, h => by
    cases h with
    | cons h1 h2 => exact .cons (dp_mono e d _ h1) (dpa_mono e ds _ h2)
end
theorem _root_.L2.Dp.up (h : Dp K H v d) (e : Same H H') : Dp K H' v d := dp_mono e d v h
theorem _root_.L2.DpAll.up (h : DpAll K H vs ds) (e : Same H H') : DpAll K H' vs ds := dpa_mono e ds vs h
theorem dp_int {i : Int} (h : Dp K H v (.int i)) : v = .int i := by cases h; rfl
theorem dp_str {x : Str} (h : Dp K H v (.str x)) : v = .str x := by cases h; rfl
theorem dp_bl {b : Bool} (h : Dp K H v (.bool b)) : v = .bl b := by cases h; rfl
theorem dp_non (h : Dp K H v .none) : v = .non := by cases h; rfl
theorem dp_tup (h : Dp K H v (.tuple ds)) : ∃ a xs, v = .ref a ∧ SqT K H a xs ∧ DpAll K H xs ds := by
  cases h with
  | tup h1 h2 => exact ⟨_, _, rfl, h1, h2⟩
theorem dpa_nil (h : DpAll K H vs []) : vs = [] := by cases h; rfl
theorem dpa_cons (h : DpAll K H vs (d :: ds)) : ∃ v r, vs = v :: r ∧ Dp K H v d ∧ DpAll K H r ds := by
  cases h with
  | cons h1 h2 => exact ⟨_, _, rfl, h1, h2⟩
theorem dpa_1 (h : DpAll K H vs [d]) : ∃ v, vs = [v] ∧ Dp K H v d := by
  obtain ⟨v, r, rfl, h1, h2⟩ := dpa_cons h
  rw [dpa_nil h2]
  exact ⟨v, rfl, h1⟩
theorem dpa_2 {d1 d2 : PyData} (h : DpAll K H vs [d1, d2]) : ∃ v1 v2, vs = [v1, v2] ∧ Dp K H v1 d1 ∧ Dp K H v2 d2 := by
  obtain ⟨v, r, rfl, h1, h2⟩ := dpa_cons h
  obtain ⟨u, rfl, h3⟩ := dpa_1 h2
  exact ⟨v, u, rfl, h1, h3⟩
theorem dpa_3 {d1 d2 d3 : PyData} (h : DpAll K H vs [d1, d2, d3]) : ∃ v1 v2 v3, vs = [v1, v2, v3] ∧ Dp K H v1 d1 ∧ Dp K H v2 d2 ∧ Dp K H v3 d3 := by
  obtain ⟨v, r, rfl, h1, h2⟩ := dpa_cons h
  obtain ⟨u, t, rfl, h3, h4⟩ := dpa_2 h2
  exact ⟨v, u, t, rfl, h1, h3, h4⟩
theorem dpa_4 {d1 d2 d3 d4 : PyData} (h : DpAll K H vs [d1, d2, d3, d4]) : ∃ v1 v2 v3 v4, vs = [v1, v2, v3, v4] ∧ Dp K H v1 d1 ∧ Dp K H v2 d2 ∧ Dp K H v3 d3 ∧ Dp K H v4 d4 := by
  obtain ⟨v, r, rfl, h1, h2⟩ := dpa_cons h
  obtain ⟨u, t, z, rfl, h3, h4, h5⟩ := dpa_3 h2
  exact ⟨v, u, t, z, rfl, h1, h3, h4, h5⟩
theorem dpa_ints : ∀ {ns : List Int} {vs : List V}, DpAll K H vs (ns.map PyData.int) → vs = ns.map V.int
  | [], _, h => dpa_nil h
  | n :: r, vs, h => by
    obtain ⟨v, t, rfl, h1, h2⟩ := dpa_cons (ds := r.map PyData.int) h
    rw [dp_int h1, dpa_ints h2]
    rfl
theorem dpa_of_ints : ∀ ns : List Int, DpAll K H (ns.map V.int) (ns.map PyData.int)
  | [] => .nil
  | n :: r => .cons (.int n) (dpa_of_ints r)
theorem dpa_len : ∀ {ds : List PyData} {vs : List V}, DpAll K H vs ds → vs.length = ds.length
  | [], _, h => by rw [dpa_nil h]; rfl
  | d :: ds, _, h => by
    obtain ⟨v, r, rfl, _, h2⟩ := dpa_cons h
    rw [List.length_cons, List.length_cons, dpa_len h2]
theorem dpa_get : ∀ {ds : List PyData} {vs : List V} {i : Nat} {v : V}, DpAll K H vs ds → vs[i]? = some v → ∃ d, ds[i]? = some d ∧ Dp K H v d
  | [], _, i, v, h, e => by rw [dpa_nil h] at e; simp at e
  | d :: ds, _, 0, v, h, e => by
    obtain ⟨u, r, rfl, h1, _⟩ := dpa_cons h
    have e : u = v := Option.some.inj e
    subst e
    exact ⟨d, rfl, h1⟩
  | d :: ds, _, i + 1, v, h, e => by
    obtain ⟨u, r, rfl, _, h2⟩ := dpa_cons h
    exact dpa_get (i := i) h2 e
theorem dpa_snoc : ∀ {ds : List PyData} {vs : List V}, DpAll K H vs ds → Dp K H v d → DpAll K H (vs ++ [v]) (ds ++ [d])
  | [], _, h, q => by rw [dpa_nil h]; exact .cons q .nil
  | _ :: ds, _, h, q => by
    obtain ⟨u, r, rfl, h1, h2⟩ := dpa_cons h
    exact .cons h1 (dpa_snoc h2 q)
theorem dpa_app : ∀ {ds es : List PyData} {vs us : List V}, DpAll K H vs ds → DpAll K H us es → DpAll K H (vs ++ us) (ds ++ es)
  | [], _, _, _, h, q => by rw [dpa_nil h]; exact q
  | _ :: ds, _, _, _, h, q => by
    obtain ⟨u, r, rfl, h1, h2⟩ := dpa_cons h
    exact .cons h1 (dpa_app h2 q)
/-- a new tuple of data -/
theorem dp_new {p : Addr} (n : H p = none) (h : DpAll K H vs ds) : Dp K (upd H p (.tup vs)) (.ref p) (.tuple ds) := .tup (SqT.of upd_same) (h.up (same_new n))
theorem dp_newL {p : Addr} (n : H p = none) (h : DpAll K H vs ds) : Dp K (upd H p (.lst vs)) (.ref p) (.list ds) := .lst (SqL.of upd_same) (h.up (same_new n))
theorem dp_lst (h : Dp K H v (.list ds)) : ∃ a xs, v = .ref a ∧ SqL K H a xs ∧ DpAll K H xs ds := by
  cases h with
  | lst h1 h2 => exact ⟨_, _, rfl, h1, h2⟩
/-- what a cell has -/
theorem dp_hi {i : Int} (h : Dp K H v (HV.int i).dat) : v = .int i := dp_int h
theorem dp_ht {ns : List Int} (h : Dp K H v (HV.tup ns).dat) : ∃ a, v = .ref a ∧ SqT K H a (ns.map V.int) := by
  obtain ⟨a, xs, e, h1, h2⟩ := dp_tup (ds := ns.map PyData.int) h
  rw [dpa_ints h2] at h1
  exact ⟨a, e, h1⟩
theorem dp_of_ht {ns : List Int} {a : Addr} (h : SqT K H a (ns.map V.int)) : Dp K H (.ref a) (HV.tup ns).dat := .tup (ds := ns.map PyData.int) h (dpa_of_ints ns)
end

/-! ### == of data -/
theorem eqv_str (x y : Str) : PyData.eqv (.str x) (.str y) = decide (x = y) := by
  unfold PyData.eqv
  exact Bool.beq_eq_decide_eq x y
theorem eqv_int (x y : Int) : PyData.eqv (.int x) (.int y) = decide (x = y) := by
  unfold PyData.eqv
  exact Bool.beq_eq_decide_eq x y
theorem eqv_ints : ∀ a b : List Int, PyData.eqvAll (a.map PyData.int) (b.map PyData.int) = decide (a = b)
  | [], [] => by simp [PyData.eqvAll]
  | [], y :: b => by simp [PyData.eqvAll]
  | x :: a, [] => by simp [PyData.eqvAll]
  | x :: a, y :: b => by
    show (PyData.eqv (.int x) (.int y) && PyData.eqvAll (a.map PyData.int) (b.map PyData.int)) = _
    rw [eqv_int, eqv_ints a b]
    by_cases h1 : x = y <;> by_cases h2 : a = b <;> simp [h1, h2]
theorem eqv_hv (a b : HV) : PyData.eqv a.dat b.dat = decide (a = b) := by
  cases a with
  | int i =>
    cases b with
    | int j =>
      show PyData.eqv (.int i) (.int j) = _
      rw [eqv_int]
      by_cases h : i = j <;> simp [h]
    | tup ns =>
      have e : PyData.eqv (HV.int i).dat (HV.tup ns).dat = false := rfl
      rw [e]
      exact (decide_eq_false (fun z => by cases z)).symm
  | tup ms =>
    cases b with
    | int j =>
      have e : PyData.eqv (HV.tup ms).dat (HV.int j).dat = false := rfl
      rw [e]
      exact (decide_eq_false (fun z => by cases z)).symm
    | tup ns =>
      show PyData.eqvAll (ms.map PyData.int) (ns.map PyData.int) = _
      rw [eqv_ints]
      by_cases h : ms = ns <;> simp [h]
theorem canAll_ints : ∀ ns : List Int, PyData.canLayAll0 (ns.map PyData.int) = true
  | [] => by simp [PyData.canLayAll0]
  | n :: r => by
    show (PyData.canLay0 (.int n) && PyData.canLayAll0 (r.map PyData.int)) = true
    rw [canAll_ints r]
    simp [PyData.canLay0]
theorem depthAll_ints : ∀ ns : List Int, PyData.depthAll (ns.map PyData.int) = 0
  | [] => by simp [PyData.depthAll]
  | n :: r => by
    show max (PyData.depth (.int n)) (PyData.depthAll (r.map PyData.int)) = 0
    rw [depthAll_ints r]
    simp [PyData.depth]
theorem shaped_tupI (ns : List Int) : SeqAt.shaped (tupI ns) = true := by
  unfold SeqAt.shaped
  have h1 : PyData.canLay0 (tupI ns) = true := by
    show PyData.canLay0 (.tuple (ns.map PyData.int)) = true
    unfold PyData.canLay0
    exact canAll_ints ns
  have h2 : PyData.depth (tupI ns) = 1 := by
    show PyData.depth (.tuple (ns.map PyData.int)) = 1
    unfold PyData.depth
    rw [depthAll_ints]
  rw [h1, h2]
  rfl
theorem shaped_lstI (ns : List Int) : SeqAt.shaped (.list (ns.map PyData.int)) = true := by
  unfold SeqAt.shaped
  have h1 : PyData.canLay0 (.list (ns.map PyData.int)) = true := by
    unfold PyData.canLay0
    exact canAll_ints ns
  have h2 : PyData.depth (.list (ns.map PyData.int)) = 1 := by
    unfold PyData.depth
    rw [depthAll_ints]
  rw [h1, h2]
  rfl
theorem shaped_hv : ∀ h : HV, SeqAt.shaped h.dat = true
  | .int _ => by
    show SeqAt.shaped (.int _) = true
    unfold SeqAt.shaped PyData.canLay0 PyData.depth
    rfl
  | .tup ns => shaped_tupI ns
theorem can_sm : ∀ s : Sm, PyData.canLay0 s.dat = true
  | .num i => by
    show PyData.canLay0 (.tuple [.str "num", .int i]) = true
    simp only [PyData.canLay0, PyData.canLayAll0, Bool.and_true]
    decide +kernel
  | .slot x => by cases x <;> decide +kernel
  | .bin o p q => by
    show PyData.canLay0 (.tuple [.str o.word, p.dat, q.dat]) = true
    have h1 := can_sm p
    have h2 := can_sm q
    simp only [PyData.canLay0, PyData.canLayAll0, h1, h2, Bool.and_true]
    cases o <;> decide +kernel
theorem depth_sm : ∀ s : Sm, PyData.depth s.dat ≤ s.depth
  | .num i => by
    show PyData.depth (.tuple [.str "num", .int i]) ≤ 1
    simp [PyData.depth, PyData.depthAll]
  | .slot x => by
    show PyData.depth (.tuple [.str "slot", .str x.word]) ≤ 1
    simp [PyData.depth, PyData.depthAll]
  | .bin o p q => by
    have h1 := depth_sm p
    have h2 := depth_sm q
    show PyData.depth (.tuple [.str o.word, p.dat, q.dat]) ≤ max p.depth q.depth + 1
    simp only [PyData.depth, PyData.depthAll]
    omega
/-- how deep a kind's sum is -/
def Kd.depth : Kd → Nat
  | .own s => s.depth
  | _ => 0
theorem shaped_kd (k : Kd) (h : k.depth ≤ 20) : SeqAt.shaped k.dat = true := by
  cases k with
  | own s =>
    unfold SeqAt.shaped
    have h1 : PyData.canLay0 (Kd.own s).dat = true := by
      show PyData.canLay0 (.tuple [.str "own", s.dat]) = true
      have := can_sm s
      simp only [PyData.canLay0, PyData.canLayAll0, this, Bool.and_true]
      decide +kernel
    have h2 : PyData.depth (Kd.own s).dat ≤ 64 := by
      show PyData.depth (.tuple [.str "own", s.dat]) ≤ 64
      have := depth_sm s
      have h : s.depth ≤ 20 := h
      simp only [PyData.depth, PyData.depthAll]
      omega
    rw [h1, decide_eq_true h2]
    rfl
  | _ => decide +kernel
theorem shaped_str (x : Str) (h : PyData.strOk x = true) : SeqAt.shaped (.str x) = true := by
  unfold SeqAt.shaped PyData.canLay0 PyData.depth
  rw [h]
  rfl
theorem shaped_optN (o : Option N4) : SeqAt.shaped (optN o) = true := by
  cases o with
  | none => rfl
  | some n => exact shaped_tupI [n.1, n.2.1, n.2.2.1, n.2.2.2]
/-- kind == a word -/
theorem eqv_kd (k : Kd) (x : Str) : PyData.eqv k.dat (.str x) = match k with
    | .plain => decide (("plain" : Str) = x)
    | .sum => decide (("sum" : Str) = x)
    | .most => decide (("most" : Str) = x)
    | .set => decide (("set" : Str) = x)
    | .list => decide (("list" : Str) = x)
    | .own _ => false := by
  cases k with
  | own s => rfl
  | _ => exact eqv_str _ _

/-! ### isinstance of data -/
def dTy : PyData → String
  | .none => "NoneType"
  | .bool _ => "bool"
  | .int _ => "int"
  | .str _ => "str"
  | .list _ => "list"
  | .tuple _ => "tuple"
  | .dict _ => "dict"
theorem tyx_of {K : PySem.W.Frag} {H : Hp} {v : V} {d : PyData} (h : Dp K H v d) : TyX K H v (.type (dTy d)) := by
  cases h with
  | non => exact .base .non
  | bl b => exact .base (.bl b)
  | int i => exact .base (.int i)
  | str x => exact .base (.str x)
  | lst h _ =>
    rcases h with (h | ⟨o, h⟩) | ⟨o, its, n, h1, h2, _⟩
    · exact .base (.lst h)
    · exact .base (.frz h)
    · exact .kList h1 h2
  | tup h _ =>
    rcases h with (h | ⟨o, h⟩) | ⟨o, its, n, h1, h2, _⟩
    · exact .base (.tup h)
    · exact .fTuple h
    · exact .kTuple h1 h2
def rIsd (K : PySem.W.Frag) : List V → Hp → VK → Prop := fun xs H Q => ∃ (x : V) (T : String) (d : PyData) (b : Bool), xs = [x, .ty T] ∧ Dp K H x d ∧ kitB (dTy d) T = some b ∧ Q (.bl b) H
theorem call_isd {X : Cx} : CallR X (.builtin "isinstance") (rIsd X.K) := by
  intro pins s σ H xs us Q I r h
  obtain ⟨x, T, d, b, rfl, hd, hk, q⟩ := h
  exact call_isi pins s σ H _ us Q I r ⟨x, .ty T, _, _, b, rfl, .ty T, tyx_of hd, kit_ty hk, q⟩
/-- a built-in class's name -/
theorem pe_ty {X : Cx} {x : Str} {pos : Pos} (n : String) (hm : X.mg x = none) (hg : Gl X x := by rfl) (hv : bootBuiltins x = some (.type n) := by decide +kernel) (hd : (x == ("__debug__" : Str)) = false := by decide) (hn : x ≠ "__name__" := by decide) : PE X (.Name x pos) (tC (.ty n)) :=
  pe_bltn (v := .ty n) (u := .type n) hg hm hv rfl hn hd
/-- isinstance(e, n) -/
theorem pe_isd {X : Cx} {e : Expr} {x : Str} {te : TE} {p p2 pos : Pos} (n : String) (he : PE X e te) (hm0 : X.mg "isinstance" = none) (hm : X.mg x = none) (hg0 : Gl X "isinstance" := by rfl) (hg : Gl X x := by rfl) (hv : bootBuiltins x = some (.type n) := by decide +kernel)
    (hd : (x == ("__debug__" : Str)) = false := by decide) (hn : x ≠ "__name__" := by decide)
    (h1 : starEach [e, .Name x p2] X.env = (false, eval e X.env) :: starEach [.Name x p2] X.env := by rfl) : PE X (.Call (.Name "isinstance" p) [e, .Name x p2] [] pos) (tCB (rIsd X.K) (tCons te (tCons (tC (.ty n)) tNil))) :=
  pe_callB call_isd hg0 hm0 (by decide +kernel) (pa_cons he (pa_cons (pe_ty n hm hg hv hd hn) pa_nil) (hs := h1)) (he := h1)
end FJ

/-! FJr: rules that the layer lacks: a target with a star. -/
namespace FJ
open PySem PySem.Spec PyProof.Rows L2

section
variable {prog : Program} {w : World} {A : Around} {E : Value → Shared → Prop} {s : Shared}
/-- two targets, the second one with a star, from a tuple: its first item, and a new list of the others -/
theorem star_items {l : Addr} {its : Array Value} {Q : List Value → Shared → Prop} (ht : IsTup s.heap l its) (hh : A.handled = none) (h1 : 1 ≤ its.size) (h2 : its.size ≤ 16384)
    (hQ : ∀ (g : Heap) (tk : Nat), (∀ b o, s.heap.get? b = some o → g.get? b = some o) → Q (its.toList.take 1 ++ [.ref g.objs.size]) { s with heap := g.push { cls := .type "list", data := .seq (its.toList.drop 1).toArray }, toks := tk }) :
    wpAny (model prog w) A (unpackItems (.ref l) 2 (some 1)) Q E s := by
  have lne : l ≠ s.heap.objs.size := by
    obtain ⟨o, ho, _⟩ := ht
    exact Nat.ne_of_lt (Heap.lt_size ho)
  have hz : its.size ≤ sizeLine := by rw [sizeLine_eq]; omega
  unfold unpackItems notIterableAtAll
  refine wpAny_bind (wpAny_bind (wpAny_specialOf ht.typeIs slot_tuple_iter.lookup (wpAny_pure ?_)))
  rw [if_neg (by decide)]
  refine wpAny_bind (wpAny_holding (iter_tuple ht (wpAny_bind (wpAny_holding (draw_tuple lne 1 0 _ _ ⟨_, Heap.get?_push_size _ rfl, rfl, rfl⟩ (ht.push _) (by omega) fun g hit hs => ?_)))))
  have tg : IsTup g l its := (ht.push _).extBut hs.extBut lne
  have lf : (List.take 1 (List.drop 0 its.toList)).length = 1 := by
    rw [List.drop_zero, List.length_take, Array.length_toList]
    omega
  have sI : s.heap.objs.size < g.objs.size := by
    obtain ⟨o, ho, _⟩ := id hit
    exact Heap.lt_size ho
  have sL : l < g.objs.size := by
    obtain ⟨o, ho, _⟩ := id tg
    exact Heap.lt_size ho
  rw [if_neg (by rw [lf]; omega)]
  refine wpAny_bind (wpAny_holding (PySem.W.kun_collect (s := { s with heap := g }) (T := "tuple_iterator") (k := 1) (.inr (.inr (.inr rfl))) (Walks.tuple (A := A.in1) hh s.heap.objs.size l lne its) (fun j u st => st.1.typeIs) h1 ⟨hit, tg⟩ sI sL (fun g2 tk k2 => ?_) hz))
  rw [if_neg (by omega), List.drop_zero]
  have e1 : (List.drop 1 its.toList).length - (2 - 1 - 1) = (List.drop 1 its.toList).length := by omega
  have old : ∀ b o, s.heap.get? b = some o → g2.get? b = some o := fun b o e => by
    have hb : b ≠ s.heap.objs.size := Nat.ne_of_lt (Heap.lt_size e)
    exact k2 b o hb (hs.extBut b o hb (Heap.get?_push_of_some _ e))
  rw [e1]
  show wpAny _ _ (newList (List.take (List.drop 1 its.toList).length (List.drop 1 its.toList)) >>= fun d => pure (List.take 1 its.toList ++ [d] ++ List.drop (List.drop 1 its.toList).length (List.drop 1 its.toList))) _ _ _
  rw [List.take_length, List.drop_length]
  refine wpAny_bind (wpAny_newObj_type (wpAny_pure ?_) (by show (List.drop 1 its.toList).toArray.size ≤ sizeLine; rw [List.size_toArray, List.length_drop, Array.length_toList]; omega))
  rw [List.append_nil]
  exact hQ g2 tk old
end
section
variable {X : Cx}
/-- a, *b = a tuple that is not empty -/
def gStar (K : PySem.W.Frag) (t u : TG) : TG := fun v σ H Q => ∃ a x xs, v = .ref a ∧ SqT K H a (x :: xs) ∧ xs.length ≤ 1000 ∧ ∀ p, H p = none → t x σ (upd H p (.lst xs)) fun σ' H' => u (.ref p) σ' H' Q
theorem pg_star {e1 e2 : Expr} {k : Nat} {t u : TG} {pos p2 : Pos} (hc : X.calm = true) (h1 : PG X e1 t) (h2 : PG X e2 u)
    (hs : assignEach [e1, .Starred e2 p2] X.env = [(false, assign e1 X.env), (true, assign e2 X.env)] := by rfl) : PG X (.Tuple [e1, .Starred e2 p2] k pos) (gStar X.K t u) := by
  refine ⟨fun pins s σ H v u' Q I r hw => ?_⟩
  obtain ⟨a, x, xs, rfl, hq, hl, hw⟩ := hw
  cases r
  obtain ⟨its, rv, ht, hz⟩ := I.tuple hq
  cases rv with
  | @cons _ u0 _ us rx rr =>
    have e1 : us.length = xs.length := (Paired.length rr).symm
    rw [arm_assign_Tuple]
    refine wpAny_bind (wpAny_standAt ?_)
    unfold unpack
    rw [hs]
    refine wpAny_bind (wpAny_holding (star_items ht (I.ok.hd hc) (by simp) (by simp; omega) fun g tk old => ?_))
    have I1 : Inv X pins σ H { s with heap := g, toks := tk } := I.kept (t' := tk) old
    have nn : H g.objs.size = none := I1.hok.fresh (Nat.le_refl _)
    have I2 : Inv X pins σ (upd H g.objs.size (.lst xs)) { s with heap := g.push { cls := .type "list", data := .seq us.toArray }, toks := tk } :=
      I1.laid (t' := tk) (fun b o e => Heap.get?_push_of_some _ e) (Nat.le_refl _) ⟨by rw [sizeLine_eq]; omega, us, 0, rr, Heap.get?_push_size _ rfl⟩
    refine assignInOrder_cons (thn (h1.run pins _ σ _ x u0 _ I2 rx (hw g.objs.size nn)) fun _ s1 ⟨σ1, H1, I3, q1⟩ => ?_)
    exact assignInOrder_cons (thn (h2.run pins s1 σ1 H1 (.ref g.objs.size) _ _ I3 rfl q1) fun _ s2 q2 => assignInOrder_nil q2)
end
end FJ

/-! FJk: comprehensions of any number of clauses, clause by clause: what stands behind a clause is an action; lists and sets of ints. -/
namespace FJ
open PySem PySem.Spec PyProof.Rows L2

/-! ### the code -/
/-- one turn of the j-th clause's loop: act is what is done with an item that passes the tests -/
def turnF (C : Expr) (j : Nat) (tg iter : Expr) (ifs : List Expr) (act : Sem Fin → Sem Fin) (it acc : Value) (env : Env) : Sem Fin :=
  standAt iter.pos >>= fun _ => pyNext it >>= fun r => match r with
    | none => pure (.done .next)
    | some v => letOwnedTupleGo tg it v >>= fun _ => assign tg env v >>= fun _ =>
      (forIn ifs true fun c r => if r = true then do let ok ← isTrue c env (eval c env); pure (ForInStep.yield ok) else pure (ForInStep.yield r)) >>= fun ok =>
        if ok = true then act (again (.compLoop C j it acc env)) else again (.compLoop C j it acc env)
/-- the element goes into the list, the set; the next clause is entered -/
def actL (elt : Expr) (acc : Value) (env : Env) (k : Sem Fin) : Sem Fin := (eval elt env >>= fun x => call (.builtin "list.append") [acc, x] >>= fun _ => pure ()) >>= fun _ => k
def actS (elt : Expr) (acc : Value) (env : Env) (k : Sem Fin) : Sem Fin := (eval elt env >>= fun x => standAt elt.pos >>= fun _ => call (.builtin "set.add") [acc, x] >>= fun _ => pure ()) >>= fun _ => k
def actC (C : Expr) (j : Nat) (iter : Expr) (acc : Value) (env : Env) (k : Sem Fin) : Sem Fin :=
  eval iter env >>= fun x => standAt iter.pos >>= fun _ => foldedSetIterable iter env x >>= fun x => holding [x] (pyIter x) >>= fun it => runOwn (.compStart C j it acc env) env >>= fun _ => k
theorem turn_l1 (elt t i : Expr) (ifs : List Expr) (sc : Scope) (pos : Pos) (it acc : Value) (env : Env) :
    compTurn (.ListComp elt [⟨t, i, ifs, 0⟩] sc pos) 0 it acc env = turnF (.ListComp elt [⟨t, i, ifs, 0⟩] sc pos) 0 t i ifs (actL elt acc env) it acc env := by rfl
theorem turn_l2a (elt t i t1 i1 : Expr) (ifs ifs1 : List Expr) (sc : Scope) (pos : Pos) (it acc : Value) (env : Env) :
    compTurn (.ListComp elt [⟨t, i, ifs, 0⟩, ⟨t1, i1, ifs1, 0⟩] sc pos) 0 it acc env = turnF (.ListComp elt [⟨t, i, ifs, 0⟩, ⟨t1, i1, ifs1, 0⟩] sc pos) 0 t i ifs (actC (.ListComp elt [⟨t, i, ifs, 0⟩, ⟨t1, i1, ifs1, 0⟩] sc pos) 1 i1 acc env) it acc env := by rfl
theorem turn_l2b (elt t i t1 i1 : Expr) (ifs ifs1 : List Expr) (sc : Scope) (pos : Pos) (it acc : Value) (env : Env) :
    compTurn (.ListComp elt [⟨t, i, ifs, 0⟩, ⟨t1, i1, ifs1, 0⟩] sc pos) 1 it acc env = turnF (.ListComp elt [⟨t, i, ifs, 0⟩, ⟨t1, i1, ifs1, 0⟩] sc pos) 1 t1 i1 ifs1 (actL elt acc env) it acc env := by rfl
theorem turn_l3a (elt t i t1 i1 t2 i2 : Expr) (ifs ifs1 ifs2 : List Expr) (sc : Scope) (pos : Pos) (it acc : Value) (env : Env) :
    compTurn (.ListComp elt [⟨t, i, ifs, 0⟩, ⟨t1, i1, ifs1, 0⟩, ⟨t2, i2, ifs2, 0⟩] sc pos) 0 it acc env =
      turnF (.ListComp elt [⟨t, i, ifs, 0⟩, ⟨t1, i1, ifs1, 0⟩, ⟨t2, i2, ifs2, 0⟩] sc pos) 0 t i ifs (actC (.ListComp elt [⟨t, i, ifs, 0⟩, ⟨t1, i1, ifs1, 0⟩, ⟨t2, i2, ifs2, 0⟩] sc pos) 1 i1 acc env) it acc env := by rfl
theorem turn_l3b (elt t i t1 i1 t2 i2 : Expr) (ifs ifs1 ifs2 : List Expr) (sc : Scope) (pos : Pos) (it acc : Value) (env : Env) :
    compTurn (.ListComp elt [⟨t, i, ifs, 0⟩, ⟨t1, i1, ifs1, 0⟩, ⟨t2, i2, ifs2, 0⟩] sc pos) 1 it acc env =
      turnF (.ListComp elt [⟨t, i, ifs, 0⟩, ⟨t1, i1, ifs1, 0⟩, ⟨t2, i2, ifs2, 0⟩] sc pos) 1 t1 i1 ifs1 (actC (.ListComp elt [⟨t, i, ifs, 0⟩, ⟨t1, i1, ifs1, 0⟩, ⟨t2, i2, ifs2, 0⟩] sc pos) 2 i2 acc env) it acc env := by rfl
theorem turn_l3c (elt t i t1 i1 t2 i2 : Expr) (ifs ifs1 ifs2 : List Expr) (sc : Scope) (pos : Pos) (it acc : Value) (env : Env) :
    compTurn (.ListComp elt [⟨t, i, ifs, 0⟩, ⟨t1, i1, ifs1, 0⟩, ⟨t2, i2, ifs2, 0⟩] sc pos) 2 it acc env =
      turnF (.ListComp elt [⟨t, i, ifs, 0⟩, ⟨t1, i1, ifs1, 0⟩, ⟨t2, i2, ifs2, 0⟩] sc pos) 2 t2 i2 ifs2 (actL elt acc env) it acc env := by rfl
theorem turn_s2a (elt t i t1 i1 : Expr) (ifs ifs1 : List Expr) (sc : Scope) (pos : Pos) (it acc : Value) (env : Env) :
    compTurn (.SetComp elt [⟨t, i, ifs, 0⟩, ⟨t1, i1, ifs1, 0⟩] sc pos) 0 it acc env = turnF (.SetComp elt [⟨t, i, ifs, 0⟩, ⟨t1, i1, ifs1, 0⟩] sc pos) 0 t i ifs (actC (.SetComp elt [⟨t, i, ifs, 0⟩, ⟨t1, i1, ifs1, 0⟩] sc pos) 1 i1 acc env) it acc env := by rfl
theorem turn_s2b (elt t i t1 i1 : Expr) (ifs ifs1 : List Expr) (sc : Scope) (pos : Pos) (it acc : Value) (env : Env) :
    compTurn (.SetComp elt [⟨t, i, ifs, 0⟩, ⟨t1, i1, ifs1, 0⟩] sc pos) 1 it acc env = turnF (.SetComp elt [⟨t, i, ifs, 0⟩, ⟨t1, i1, ifs1, 0⟩] sc pos) 1 t1 i1 ifs1 (actS elt acc env) it acc env := by rfl

/-- C is no generator expression: its code is its own frame's -/
structure NoGen (C : Expr) (j : Nat) : Prop where
  loop : ∀ (P : Program) (w : World) (it acc : Value) (env : Env), (model P w).den (.compLoop C j it acc env) = (compTurn C j it acc env).onRaise (fun x => do noteFrame x env; theTreesLotGoes x)
  start : ∀ (P : Program) (w : World) (it acc : Value) (env : Env), (model P w).den (.compStart C j it acc env) = (compStart C j it acc env).onRaise (fun x => do noteFrame x env; standAt theWindowsPlace)
  ul : ∀ (A : Around) (it acc : Value) (env : Env), A.under (.compLoop C j it acc env) = A
  us : ∀ (A : Around) (it acc : Value) (env : Env), A.under (.compStart C j it acc env) = A
theorem noGen_l (elt : Expr) (gs : List Comprehension) (sc : Scope) (pos : Pos) (j : Nat) : NoGen (.ListComp elt gs sc pos) j := ⟨fun _ _ _ _ _ => rfl, fun _ _ _ _ _ => rfl, fun _ _ _ _ => rfl, fun _ _ _ _ => rfl⟩
theorem noGen_s (elt : Expr) (gs : List Comprehension) (sc : Scope) (pos : Pos) (j : Nat) : NoGen (.SetComp elt gs sc pos) j := ⟨fun _ _ _ _ _ => rfl, fun _ _ _ _ _ => rfl, fun _ _ _ _ => rfl, fun _ _ _ _ => rfl⟩

/-! ### readings -/
/-- what stands behind a clause: from slots and a heap, what is wanted of the heap behind it -/
abbrev TB := L2.St → Hp → (Hp → Prop) → Prop
def bL (D : Addr) (te : TE) : TB := fun σ H k => te σ H fun y H1 => ∃ acc, H1 D = some (.lst acc) ∧ acc.length < sizeLine ∧ k (upd H1 D (.lst (acc ++ [y])))
def bS (w : World) (D : Addr) (te : TE) : TB := fun σ H k => te σ H fun y H1 => ∃ (c : Int) (S : Int → Bool) (n : Nat), y = .int c ∧ H1 D = some (SetO w D S n) ∧ n + 1 < scanBound ∧
  k (upd H1 D (SetO w D (fun j => S j || decide (j = c)) (if S c = true then n else n + 1)))
/-- a walk over J: the target's store, the tests, then b; vs: the names that are set within -/
def Wk (J : It) (g : TG) (tt : TT) (b : TB) (vs : List Nat) (σ : L2.St) (H1 : Hp) (k : Hp → Prop) : Prop := ∃ W : Nat → Nat → Hp → Prop, (∃ m, W 0 m H1) ∧ ∀ i m H, W i m H →
  (J.stop i H ∧ k H) ∨ (J.go i H ∧ ∃ Nx : Hp → Prop, (∀ H', Nx H' → ∃ m', m' < m ∧ W (i + 1) m' H') ∧ ∀ x H', J.yld i H x H' → g x (wipe σ vs) H' fun σ2 H2 => wipe σ2 vs = wipe σ vs ∧ tt σ2 H2 fun c H3 => if c = true then b σ2 H3 Nx else Nx H3)
def bC (wi : TI) (g : TG) (tt : TT) (b : TB) (vs : List Nat) : TB := fun σ H k => wi σ H fun J H1 => Wk J g tt b vs σ H1 k
/-- the whole: a new object ini D at D, then the first clause's walk -/
def tComp (ini : Addr → HO) (wi : TI) (g : TG) (tt : TT) (b : Addr → TB) (vs : List Nat) : TE := fun σ H Q => wi σ H fun J H1 => ∀ D, H1 D = none → Wk J g tt (b D) vs σ (upd H1 D (ini D)) (fun H' => Q (.ref D) H')

/-! ### rules -/
section
variable {X : Cx}
def Act (X : Cx) (act : Sem Fin → Sem Fin) (b : TB) (vs : List Nat) : Prop := ∀ (pins : List (Addr × Obj)) (s : Shared) (σ : L2.St) (H : Hp) (k : Hp → Prop) (kk : Sem Fin) (Q : Fin → Shared → Prop) (E : Value → Shared → Prop), Inv X pins σ H s → b σ H k →
  (∀ s' H', Inv X pins (wipe σ vs) H' s' → k H' → wpAny (model X.prog X.w) X.A kk Q E s') → wpAny (model X.prog X.w) X.A (act kk) Q E s
theorem thn_no {α : Type} {t : Sem α} {Q Q' : α → Shared → Prop} {A : Around} {M : Model} {E E' : Value → Shared → Prop} {s : Shared} (hx : ∀ e s, ¬ E e s) (h : wpAny M A t Q E s) (hQ : ∀ a s, Q a s → Q' a s) : wpAny M A t Q' E' s := wpAny_mono h hQ fun e s z => absurd z (hx e s)
theorem act_l {elt : Expr} {te : TE} {D : Addr} (hx : ∀ e s, ¬ X.xe e s) (he : PE X elt te) : Act X (actL elt (.ref D) X.env) (bL D te) [] := by
  intro pins s σ H k kk Q E I h hk
  refine wpAny_bind (wpAny_bind (thn_no hx (he.run pins s σ H _ I h) fun v s1 ⟨y, H1, I1, r1, acc, hD, hz, q⟩ => ?_))
  exact wpAny_bind (app_ok I1 hD hz r1 fun s2 I2 => wpAny_pure (hk s2 _ I2 q))
theorem act_s {elt : Expr} {te : TE} {D : Addr} (hx : ∀ e s, ¬ X.xe e s) (he : PE X elt te) : Act X (actS elt (.ref D) X.env) (bS X.w D te) [] := by
  intro pins s σ H k kk Q E I h hk
  refine wpAny_bind (wpAny_bind (thn_no hx (he.run pins s σ H _ I h) fun v s1 ⟨y, H1, I1, r1, c, S, n, ey, hD, hz, q⟩ => ?_))
  subst ey
  obtain ⟨t, rfl⟩ := r1
  refine wpAny_bind (wpAny_standAt (wpAny_bind ?_))
  have R := setO_get I1 hD
  refine setR_add R hz fun h' sb new => ?_
  have he' : ∃ u, h'.get? D = some u := by
    obtain ⟨o, _, _, _, ho, _⟩ := id new
    exact ⟨o, ho⟩
  refine wpAny_pure (hk _ _ (I1.write (e := D) (t' := s1.toks + 1) (by rw [hD]; trivial) (.inl rfl) (fun b u hb hu => (sb.2 b hb).trans hu) he' (setO_new new)) q)
/-- the loop of one clause, from an iterator that stands -/
theorem clause_loop {C : Expr} {j : Nat} {tg iter : Expr} {ifs : List Expr} {act : Sem Fin → Sem Fin} {g : TG} {tt : TT} {b : TB} {vsIn vs : List Nat} {acc : Value} {pins : List (Addr × Obj)} {σ : L2.St} {H : Hp} {s : Shared} {J : It} {fp : List Addr} {it : Addr} {tn : Nat → Heap → Prop} {k : Hp → Prop}
    (nG : NoGen C j) (hx : ∀ e s, ¬ X.xe e s) (hc : X.calm = true) (ht : ∀ it, compTurn C j it acc X.env = turnF C j tg iter ifs act it acc X.env) (hg : PG X tg g) (hts : PTs X ifs tt) (ha : Act X act b vsIn) (hv : ∀ i ∈ vsIn, i ∈ vs) (T : Turn X.prog X.w X.K tg J fp it tn)
    (I : Inv X pins σ H s) (st : tn 0 s.heap) (f : ∀ c ∈ fp, FpOk X pins H c) (hw : Wk J g tt b vs σ H k) :
    codeAny (model X.prog X.w) X.A (.compLoop C j (.ref it) acc X.env) (fun r s' => r = .ok .next ∧ ∃ H', Inv X pins (wipe σ vs) H' s' ∧ k H') s := by
  obtain ⟨W, ⟨m0, w0⟩, turn⟩ := hw
  have fpk : ∀ {H' : Hp}, (∀ c ∈ fp, H' c = none) → ∀ c ∈ fp, FpOk X pins H' c := fun hn c hm => ⟨hn c hm, (f c hm).2⟩
  refine codeAny_loop rfl (fun n s' => ∃ i H', Inv X pins (wipe σ vs) H' s' ∧ tn i s'.heap ∧ (∀ c ∈ fp, H' c = none) ∧ W i n H') ?_ m0 ⟨0, H, I.weak (wipe_length _ _) (fun q v e => (wipe_some e).1), st, fun c hm => (f c hm).1, w0⟩
  rintro n s1 ⟨i, H1, I1, st1, n1, w1⟩
  rw [nG.loop, nG.ul]
  refine wpAny_noted ?_
  rw [ht]
  refine wpAny_bind (wpAny_standAt (wpAny_bind ?_))
  rcases turn i n H1 w1 with ⟨stop, kk⟩ | ⟨go, Nx, hNx, step⟩
  · refine thnF (T.done X rfl rfl rfl hc i pins s1 _ H1 (fun _ _ => False) I1 (fpk n1) st1 stop) fun r s2 ⟨hr, I2⟩ => ?_
    subst hr
    exact wpAny_pure ⟨rfl, H1, I2, kk⟩
  · refine thnF (T.item X rfl rfl rfl hc i pins s1 _ H1 (fun _ _ => False) I1 (fpk n1) st1 go) fun r s2 ⟨u, hr, h2⟩ => ?_
    subst hr
    refine wpAny_bind (thnF h2 fun _ s3 ⟨x, H3, I3, r3, y3, st3, n3⟩ => wpAny_bind ?_)
    have I3' := I3.pinned (fpk n3) (T.obj _ _ st3)
    refine thn_no hx (hg.run _ s3 _ H3 x u _ I3' r3 (step x H3 y3)) fun _ s4 ⟨σ4, H4, I4, e4, q4⟩ => wpAny_bind ?_
    refine thn_no hx (hts.run _ s4 σ4 H4 _ I4 q4) fun c s5 ⟨H5, I5, q5⟩ => ?_
    have back : ∀ {σ' : L2.St} {s' : Shared} {H' : Hp}, Inv X (pins ++ pinsAt fp s3.heap) σ' H' s' → σ'.length = σ.length → (∀ (q : Nat) v, (wipe σ vs)[q]? = some (some v) → σ'[q]? = some (some v)) → Nx H' →
        ∃ m, m < n ∧ ∃ i H', Inv X pins (wipe σ vs) H' s' ∧ tn i s'.heap ∧ (∀ c ∈ fp, H' c = none) ∧ W i m H' := fun {σ' s' H'} I' hl hk nx => by
      obtain ⟨m', hm, w'⟩ := hNx H' nx
      have pin' : ∀ c ∈ fp, ∀ o, s3.heap.get? c = some o → s'.heap.get? c = some o ∧ H' c = none := fun c hm o e =>
        let z := I'.pin (c, o) (List.mem_append_right _ (List.mem_append_right _ (mem_pinsAt hm e)))
        ⟨z.1, z.2.1⟩
      refine ⟨m', hm, i + 1, H', I'.unpinned.weak (by rw [wipe_length, hl]) hk, T.keep _ _ _ st3 fun c hm o e => (pin' c hm o e).1, fun c hm => ?_, w'⟩
      obtain ⟨o, e, _⟩ := T.obj _ _ st3 c hm
      exact (pin' c hm o e).2
    have l4 : σ4.length = σ.length := by
      have := congrArg List.length e4
      simpa only [wipe_length] using this
    have k4 : ∀ (q : Nat) v, (wipe σ vs)[q]? = some (some v) → σ4[q]? = some (some v) ∧ q ∉ vs := fun q v e => by
      rw [← e4] at e
      exact wipe_some e
    cases c with
    | false =>
      rw [if_neg Bool.false_ne_true] at q5 ⊢
      exact wpAny_pure ⟨rfl, back I5 l4 (fun q v e => (k4 q v e).1) q5⟩
    | true =>
      rw [if_pos rfl] at q5 ⊢
      refine ha _ s5 σ4 H5 Nx _ _ _ I5 q5 fun s6 H6 I6 nx => wpAny_pure ⟨rfl, back I6 (by rw [wipe_length, l4]) (fun q v e => ?_) nx⟩
      rw [wipe_out fun z => (k4 q v e).2 (hv q z)]
      exact (k4 q v e).1
/-- .. its start -/
theorem clause_start {C : Expr} {j : Nat} {tg iter : Expr} {ifs : List Expr} {A : Around} {P : Program} {w : World} {it acc : Value} {env : Env} {R : Result → Shared → Prop} {s : Shared} (nG : NoGen C j) (hcl : (clausesOf C)[j]? = some ⟨tg, iter, ifs, 0⟩)
    (h0 : codeAny (model P w) A (.compLoop C j it acc env) R s) (h1 : ∀ E, wpAny (model P w) A (pyIter it) (fun it' s' => codeAny (model P w) A (.compLoop C j it' acc env) R s') E s) : codeAny (model P w) A (.compStart C j it acc env) R s := by
  refine codeAny_of_tree ?_
  rw [nG.start, nG.us]
  refine wpAny_notedAt ?_
  unfold compStart
  rw [hcl]
  show wpAny _ _ (ask >>= _) _ _ s
  refine wpAny_bind (wpAny_askSetting (wpAny_ite ?_))
  split
  · first
      | exact wpAny_bind (wpAny_pure (wpAny_pure (And.intro rfl h0)))
      | exact wpAny_pure (And.intro rfl h0)
  · refine wpAny_bind (wpAny_rule ?_)
    show wpAny _ _ (standAt iter.pos >>= _) _ _ s
    exact wpAny_bind (wpAny_standAt (wpAny_bind (wpAny_mono (h1 _) (fun it' s' h' => wpAny_pure (And.intro rfl h')) fun _ _ x => x)))
/-- a further clause -/
theorem act_c {C : Expr} {j : Nat} {tg iter : Expr} {ifs : List Expr} {act : Sem Fin → Sem Fin} {wi : TI} {g : TG} {tt : TT} {b : TB} {vsIn vs : List Nat} {acc : Value} (nG : NoGen C j) (hx : ∀ e s, ¬ X.xe e s) (hc : X.calm = true) (hcl : (clausesOf C)[j]? = some ⟨tg, iter, ifs, 0⟩)
    (ht : ∀ it, compTurn C j it acc X.env = turnF C j tg iter ifs act it acc X.env) (hi : PI X tg iter wi) (hg : PG X tg g) (hts : PTs X ifs tt) (ha : Act X act b vsIn) (hv : ∀ i ∈ vsIn, i ∈ vs) (hs : ∀ x, foldedSetIterable iter X.env x = pure x) :
    Act X (actC C j iter acc X.env) (bC wi g tt b vs) vs := by
  intro pins s σ H k kk Q E I h hk
  refine wpAny_bind (thn_no hx (hi.run pins s σ H _ I h) fun v s1 h1 => ?_)
  refine wpAny_bind (wpAny_standAt (wpAny_bind (wpAny_of_eq (hs v) (wpAny_bind (wpAny_holding (thn_no hx h1 fun itv s2 h2 => wpAny_bind ?_))))))
  obtain ⟨it, fp, tn, J, H2, rfl, I2, T, st2, f2, hw⟩ := h2
  have loop := clause_loop nG hx hc ht hg hts ha hv T I2 st2 f2 hw
  refine wpAny_runOwn ?_
  rw [Around.mark_none]
  refine codeAny_mono (clause_start nG hcl loop fun E => T.self X.A 0 _ _ _ st2 loop) fun r s' ⟨hr, H', I', q⟩ => ?_
  subst hr
  exact hk s' H' I' q
theorem wipe_get (σ : L2.St) (q : Nat) : ∀ vs : List Nat, (wipe σ vs)[q]? = if q ∈ vs then (if q < σ.length then some none else none) else σ[q]?
  | [] => by simp [wipe]
  | v :: vs => by
    show ((wipe σ vs).set v none)[q]? = _
    rw [List.getElem?_set, wipe_length, wipe_get σ q vs]
    by_cases h1 : v = q
    · subst h1
      simp
    · by_cases h2 : q ∈ vs
      · simp [h1, h2, Ne.symm h1]
      · simp [h1, h2, Ne.symm h1]
theorem wipe_twice (σ : L2.St) (vs : List Nat) : wipe (wipe σ vs) vs = wipe σ vs := by
  refine List.ext_getElem? fun q => ?_
  rw [wipe_get (wipe σ vs), wipe_get σ, wipe_length]
  by_cases h : q ∈ vs <;> simp [h]
/-- what is shown of the parts in every block of this comprehension -/
abbrev InBlk (X : Cx) (scope : Scope) (R : Cx → Prop) : Prop := ∀ (s : Shared) (H : Hp) (C : Addr) (cl : List (Str × Addr)) (fp : List Addr), R (X.blk s H scope (compEnvC scope cl C X.env) fp)
/-- the whole comprehension, from the new object on -/
theorem comp_core {C : Expr} {tg iter : Expr} {ifs : List Expr} {gs : List Comprehension} {scope : Scope} {own : List (Str × Nat)} {vsIn : List Nat} {pos' : Pos} {wi : TI} {g : TG} {tt : TT} {b : Addr → TB} {act : Value → Env → Sem Fin → Sem Fin} {ini : Addr → HO} {newAcc : Sem Value} {o0 : Obj}
    {use : Option (Value → Sem Unit)} {Qf : Value → Shared → Prop} {pins : List (Addr × Obj)} {s : Shared} {σ : L2.St} {H : Hp} {Q : VK}
    (nG : NoGen C 0) (hcl : clausesOf C = ⟨tg, iter, ifs, 0⟩ :: gs) (hc : X.calm = true) (hN : X.N.Nodup)
    (hnew : ∀ (s : Shared) (Q : Value → Shared → Prop), Q (.ref s.heap.objs.size) { s with heap := s.heap.push o0 } → wpAny (model X.prog X.w) X.A newAcc Q X.xe s) (hini : ∀ (h : Heap) (H : Hp), ObjOk X.prog X.w H (h.push o0) h.objs.size (ini h.objs.size)) (hal : o0.alive = true)
    (ht : ∀ it acc env, compTurn C 0 it acc env = turnF C 0 tg iter ifs (act acc env) it acc env) (I : Inv X pins σ H s) (hi : PI X tg iter wi) (ok : BlkOk X.N X.env.scope scope own) (hv : ∀ i ∈ vsIn, i ∈ own.map (·.2))
    (hg : InBlk X scope fun Y => PG Y tg g) (hts : InBlk X scope fun Y => PTs Y ifs tt) (ha : ∀ D, InBlk X scope fun Y => Act Y (act (.ref D) Y.env) (b D) vsIn) (hs : ∀ x, foldedSetIterable iter X.env x = pure x)
    (h : tComp ini wi g tt b (own.map (·.2)) σ H Q)
    (hRR : ∀ D B s' m H', Inv X pins σ H' s' → Q (.ref D) H' → s'.heap.Ns B m → FpOk X pins H' B → compPost (model X.prog X.w) X.A X.xe use Qf (.ref D) B (.ok .next) s') :
    wpAny (model X.prog X.w) X.A (comprehension C scope X.env pos' newAcc false (eval iter X.env) use) Qf X.xe s := by
  have cap : ∀ y ∈ scope.names, y.2 = .free → ∃ c, X.env.cells.lookup y.1 = some c := fun y hy e => I.ok.has _ (ok.free y hy e)
  refine wpAny_comprehension_free (use := use) hcl hs (closure_ok cap) ok.kind (fun y hy e => by rw [ok.uniq y hy, e]) (thn (hi.run pins s σ H _ I h) fun xv s1 hx => thn hx fun itv s2 h2 => ?_)
  obtain ⟨it, fp, tn, J, H2, e, I2, T, st2, f2, q⟩ := h2
  subst e
  refine hnew s2 _ (newEnv_comp ?_)
  have hq := q s2.heap.objs.size (I2.hok.fresh (Nat.le_refl _))
  have I3 : Inv X pins σ (upd H2 s2.heap.objs.size (ini s2.heap.objs.size)) { s2 with heap := s2.heap.push o0 } := I2.laid (t' := s2.toks) (fun c o z => Heap.get?_push_of_some _ z) (Nat.le_refl _) (hini _ _)
  have lt2 : ∀ c ∈ fp, c < s2.heap.objs.size := fun c hm => by
    obtain ⟨o, z, _⟩ := T.obj _ _ st2 c hm
    exact Heap.lt_size z
  have f3 : ∀ c ∈ fp, FpOk X pins (upd H2 s2.heap.objs.size (ini s2.heap.objs.size)) c ∧ c < ({ s2 with heap := s2.heap.push o0 } : Shared).heap.objs.size := fun c hm => by
    refine ⟨⟨?_, (f2 c hm).2⟩, ?_⟩
    · rw [upd_ne (Nat.ne_of_lt (lt2 c hm))]
      exact (f2 c hm).1
    · show c < (s2.heap.push o0).objs.size
      rw [Heap.size_push]
      exact Nat.lt_succ_of_lt (lt2 c hm)
  have st3 : tn 0 ({ s2 with heap := s2.heap.push o0 } : Shared).heap := T.keep _ _ _ st2 fun c _ o z => Heap.get?_push_of_some _ z
  generalize hs3 : ({ s2 with heap := s2.heap.push o0 } : Shared) = s3 at I3 f3 st3
  generalize hH3 : upd H2 s2.heap.objs.size (ini s2.heap.objs.size) = H3 at I3 f3 hq
  generalize s2.heap.objs.size = D at hq
  have e3 : (s2.heap.push o0) = s3.heap := by rw [← hs3]
  have I4 := block_start I3 ok hN f3
  have pg := hg s3 H3 s3.heap.objs.size (cellsFrom (s3.heap.objs.size + 1) scope.names (cloFrom X.env.cells scope.names [])) fp
  have pt := hts s3 H3 s3.heap.objs.size (cellsFrom (s3.heap.objs.size + 1) scope.names (cloFrom X.env.cells scope.names [])) fp
  have pa := ha D s3 H3 s3.heap.objs.size (cellsFrom (s3.heap.objs.size + 1) scope.names (cloFrom X.env.cells scope.names [])) fp
  show codeAny _ _ (.compStart C 0 (.ref it) (.ref D) (compEnvC scope (cellsFrom (s3.heap.objs.size + 1) scope.names (cloFrom X.env.cells scope.names [])) s3.heap.objs.size X.env)) (compPost (model X.prog X.w) X.A X.xe use Qf (.ref D) s3.heap.objs.size) { s3 with heap := pushCells (s3.heap.push { cls := .type "dict", data := .dict #[] }) scope.names }
  have st4 : tn 0 (pushCells (s3.heap.push { cls := .type "dict", data := .dict #[] }) scope.names) := T.keep _ _ _ st3 fun c _ o z => pushCells_keeps _ _ _ _ (Heap.get?_push_of_some _ z)
  generalize hce : compEnvC scope (cellsFrom (s3.heap.objs.size + 1) scope.names (cloFrom X.env.cells scope.names [])) s3.heap.objs.size X.env = ce at I4 pg pt pa ⊢
  have cL : ce.locals = s3.heap.objs.size := by subst hce; rfl
  have fB : ∀ c ∈ fp, FpOk (X.blk s3 H3 scope ce fp) [] H3 c := fun c hm => ⟨(f3 c hm).1.1, (I4.ok.exf c hm).1, I4.ok.exfs c hm, .inl hm, fun x z e => (I4.ok.exf c hm).2 x z e, fun p hp => absurd (show p ∈ ([] : List (Addr × Obj)) ++ [] from hp) (by simp)⟩
  -- the walk begins with the block's names forgotten
  have hq' : Wk J g tt (b D) (own.map (·.2)) (wipe σ (own.map (·.2))) H3 (fun H' => Q (.ref D) H') := by
    have ww : wipe (wipe σ (own.map (·.2))) (own.map (·.2)) = wipe σ (own.map (·.2)) := wipe_twice σ _
    obtain ⟨W, w0, turn⟩ := hq
    refine ⟨W, w0, fun i m H w => ?_⟩
    rw [ww]
    exact turn i m H w
  have loop := clause_loop (X := X.blk s3 H3 scope ce fp) (acc := .ref D) nG (fun _ _ z => z) hc (fun it => ht it _ ce) pg pt pa hv T I4 st4 fB hq'
  refine codeAny_mono (clause_start (tg := tg) (iter := iter) (ifs := ifs) nG (by rw [hcl] <;> rfl) loop fun E => T.self X.A 0 _ _ _ st4 loop) fun r s5 ⟨hr, H5, I5, qq⟩ => ?_
  subst hr
  -- back in the def's context
  have I6 : Inv X pins σ H5 s5 := I3.call' (ch := fp) I5.os I5.base I5.hok I5.bare fun c hm => ⟨(f3 c hm).1.2.2.2.1, (f3 c hm).1.2.1, (f3 c hm).1.2.2.2.2.1, (f3 c hm).1.2.2.2.2.2⟩
  have nB : H5 s3.heap.objs.size = none := by
    have z : H5 ce.locals = none := I5.free
    rw [cL] at z
    exact z
  obtain ⟨m, hn, _⟩ := I5.loc
  have hn : s5.heap.Ns ce.locals m := hn
  rw [cL] at hn
  exact hRR D s3.heap.objs.size s5 m H5 I6 qq hn (I3.fpOk (Nat.le_refl _) nB)
/-- .. as a value -/
theorem pe_comp {C : Expr} {tg iter : Expr} {ifs : List Expr} {gs : List Comprehension} {scope : Scope} {own : List (Str × Nat)} {vsIn : List Nat} {pos' : Pos} {wi : TI} {g : TG} {tt : TT} {b : Addr → TB} {act : Value → Env → Sem Fin → Sem Fin} {ini : Addr → HO} {newAcc : Sem Value} {o0 : Obj}
    (hev : eval C X.env = comprehension C scope X.env pos' newAcc false (eval iter X.env) none)
    (nG : NoGen C 0) (hcl : clausesOf C = ⟨tg, iter, ifs, 0⟩ :: gs) (hc : X.calm = true) (hN : X.N.Nodup)
    (hnew : ∀ (s : Shared) (Q : Value → Shared → Prop), Q (.ref s.heap.objs.size) { s with heap := s.heap.push o0 } → wpAny (model X.prog X.w) X.A newAcc Q X.xe s) (hini : ∀ (h : Heap) (H : Hp), ObjOk X.prog X.w H (h.push o0) h.objs.size (ini h.objs.size)) (hal : o0.alive = true)
    (ht : ∀ it acc env, compTurn C 0 it acc env = turnF C 0 tg iter ifs (act acc env) it acc env) (hi : PI X tg iter wi) (ok : BlkOk X.N X.env.scope scope own) (hv : ∀ i ∈ vsIn, i ∈ own.map (·.2))
    (hg : InBlk X scope fun Y => PG Y tg g) (hts : InBlk X scope fun Y => PTs Y ifs tt) (ha : ∀ D, InBlk X scope fun Y => Act Y (act (.ref D) Y.env) (b D) vsIn) (hs : ∀ x, foldedSetIterable iter X.env x = pure x) :
    PE X C (tComp ini wi g tt b (own.map (·.2))) := by
  refine ⟨fun pins s σ H Q I h => ?_⟩
  rw [hev]
  refine comp_core nG hcl hc hN hnew hini hal ht I hi ok hv hg hts ha hs h fun D B s' m H' I' q hn f => ⟨m, hn, fun h'' sb => ?_⟩
  obtain ⟨f0, f1, f2, f3, f4, f5⟩ := f
  exact ⟨.ref D, H', I'.turned (t' := s'.toks) (fun c o hb e => (sb.2 c hb).trans e) f0 f1 f3 f4 f5, rfl, q⟩
/-- .. stored to a name at once -/
theorem ps_comp {i : Nat} {y : Str} {py spos : Pos} {C : Expr} {tg iter : Expr} {ifs : List Expr} {gs : List Comprehension} {scope : Scope} {own : List (Str × Nat)} {vsIn : List Nat} {pos' : Pos} {wi : TI} {g : TG} {tt : TT} {b : Addr → TB} {act : Value → Env → Sem Fin → Sem Fin} {ini : Addr → HO} {newAcc : Sem Value} {o0 : Obj}
    (hsw : swapsWith C (some (.Name y py)) spos.line X.env = pure true) (hev : ∀ u, evalThenUse C X.env u = (comprehension C scope X.env pos' newAcc false (eval iter X.env) (some u) >>= fun _ => pure ()))
    (hy : X.N[i]? = some y) (hyl : X.env.scope.names.lookup y = some .local)
    (nG : NoGen C 0) (hcl : clausesOf C = ⟨tg, iter, ifs, 0⟩ :: gs) (hc : X.calm = true) (hN : X.N.Nodup)
    (hnew : ∀ (s : Shared) (Q : Value → Shared → Prop), Q (.ref s.heap.objs.size) { s with heap := s.heap.push o0 } → wpAny (model X.prog X.w) X.A newAcc Q X.xe s) (hini : ∀ (h : Heap) (H : Hp), ObjOk X.prog X.w H (h.push o0) h.objs.size (ini h.objs.size)) (hal : o0.alive = true)
    (ht : ∀ it acc env, compTurn C 0 it acc env = turnF C 0 tg iter ifs (act acc env) it acc env) (hi : PI X tg iter wi) (ok : BlkOk X.N X.env.scope scope own) (hv : ∀ i ∈ vsIn, i ∈ own.map (·.2))
    (hg : InBlk X scope fun Y => PG Y tg g) (hts : InBlk X scope fun Y => PTs Y ifs tt) (ha : ∀ D, InBlk X scope fun Y => Act Y (act (.ref D) Y.env) (b D) vsIn) (hs : ∀ x, foldedSetIterable iter X.env x = pure x) :
    PS X (.Assign [.Name y py] C spos) (tAsg (tComp ini wi g tt b (own.map (·.2))) (gName i)) := by
  refine ⟨fun pins s σ H D I h => ?_⟩
  rw [exec_Assign_Name_used _ _ _ _ hsw, hev]
  refine wpAny_bind (wpAny_standAt (wpAny_bind (wpAny_bind ?_)))
  have h : tComp ini wi g tt b (own.map (·.2)) σ H (fun x H1 => gName i x σ H1 D.nx) := h
  refine thn (comp_core (use := some (assign (.Name y py) X.env)) (Qf := fun _ s' => SP X pins D .next s') nG hcl hc hN hnew hini hal ht I hi ok hv hg hts ha hs h fun L B s' m H' I' q hn f => ?_) fun _ s' hq => wpAny_pure (wpAny_pure hq)
  show wpAny _ _ (assign (.Name y py) X.env (.ref L)) _ _ _
  refine wpAny_assign_Name (store_ok2 (v := V.ref L) I' hN hy (.inl hyl) rfl (fun s2 I2 ⟨a, sb, ha⟩ => ?_) (.inr hyl))
  obtain ⟨f0, f1, f2, f3, f4, f5⟩ := f
  have hBa : B ≠ a := by
    rcases ha with z | z
    · rw [z]; exact f1
    · exact fun e => f4 y a z e.symm
  refine ⟨m, hn.sameBut sb hBa, fun h3 sb3 => ?_⟩
  exact ⟨_, H', I2.turned (t' := s2.toks) (fun c o hb e => (sb3.2 c hb).trans e) f0 f1 f3 f4 f5, q⟩
/-! ### the forms that stand in the text -/
theorem new_l {P : Program} {w : World} {A : Around} {E : Value → Shared → Prop} (s : Shared) (Q : Value → Shared → Prop) (h : Q (.ref s.heap.objs.size) { s with heap := s.heap.push { cls := .type "list", data := .seq ([] : List Value).toArray } }) : wpAny (model P w) A (newList []) Q E s :=
  wpAny_newObj_type h (by show 0 ≤ sizeLine; decide)
theorem ini_l {P : Program} {w : World} (h : Heap) (H : Hp) : ObjOk P w H (h.push { cls := .type "list", data := .seq ([] : List Value).toArray }) h.objs.size (.lst []) := ⟨Nat.zero_le _, [], 0, .nil, Heap.get?_push_size _ rfl⟩
theorem new_s {P : Program} {w : World} {A : Around} {E : Value → Shared → Prop} (s : Shared) (Q : Value → Shared → Prop) (h : Q (.ref s.heap.objs.size) { s with heap := s.heap.push { cls := .type "set", dict := none, data := .set #[] 0 (.fresh 0 0 (!w.params.followText "set-order")) } }) : wpAny (model P w) A (newSet (.type "set")) Q E s :=
  PpSet.newSet_ok h
theorem ini_s {P : Program} {w : World} (h : Heap) (H : Hp) : ObjOk P w H (h.push { cls := .type "set", dict := none, data := .set #[] 0 (.fresh 0 0 (!w.params.followText "set-order")) }) h.objs.size (SetO w h.objs.size (fun _ => false) 0) := setO_new (setR_fresh w)
abbrev ini0 : Addr → HO := fun _ => .lst []
abbrev iniS (w : World) : Addr → HO := fun D => SetO w D (fun _ => false) 0
variable {elt t1 i1 t2 i2 t3 i3 : Expr} {f1 f2 f3 : List Expr} {scope : Scope} {pos py spos : Pos} {own : List (Str × Nat)} {w1 w2 w3 : TI} {g1 g2 g3 : TG} {tt1 tt2 tt3 : TT} {te : TE} {v2 v3 : List Nat} {i : Nat} {y : Str}
theorem pe_l1 (hc : X.calm = true) (hN : X.N.Nodup) (p1 : PI X t1 i1 w1) (ok : BlkOk X.N X.env.scope scope own) (q1 : InBlk X scope fun Y => PG Y t1 g1) (r1 : InBlk X scope fun Y => PTs Y f1 tt1) (he : InBlk X scope fun Y => PE Y elt te) (hs : ∀ x, foldedSetIterable i1 X.env x = pure x := by intro _; rfl) :
    PE X (.ListComp elt [⟨t1, i1, f1, 0⟩] scope pos) (tComp ini0 w1 g1 tt1 (fun D => bL D te) (own.map (·.2))) :=
  pe_comp (act := actL elt) (vsIn := []) (eval_ListComp _ _ _ _) (noGen_l _ _ _ _ _) rfl hc hN new_l ini_l rfl (fun it acc env => turn_l1 _ _ _ _ _ _ it acc env) p1 ok (fun _ z => by cases z) q1 r1 (fun D s H C cl fp => act_l (fun _ _ z => z) (he s H C cl fp)) hs
theorem ps_l1 (hy : X.N[i]? = some y) (hyl : X.env.scope.names.lookup y = some .local) (hsw : swapsWith (.ListComp elt [⟨t1, i1, f1, 0⟩] scope pos) (some (.Name y py)) spos.line X.env = pure true) (hc : X.calm = true) (hN : X.N.Nodup) (p1 : PI X t1 i1 w1) (ok : BlkOk X.N X.env.scope scope own) (q1 : InBlk X scope fun Y => PG Y t1 g1) (r1 : InBlk X scope fun Y => PTs Y f1 tt1)
    (he : InBlk X scope fun Y => PE Y elt te) (hs : ∀ x, foldedSetIterable i1 X.env x = pure x := by intro _; rfl) :
    PS X (.Assign [.Name y py] (.ListComp elt [⟨t1, i1, f1, 0⟩] scope pos) spos) (tAsg (tComp ini0 w1 g1 tt1 (fun D => bL D te) (own.map (·.2))) (gName i)) :=
  ps_comp (act := actL elt) (vsIn := []) (pos' := firstIterPos [⟨t1, i1, f1, 0⟩] pos) hsw (fun u => by rfl) hy hyl (noGen_l _ _ _ _ _) rfl hc hN new_l ini_l rfl (fun it acc env => turn_l1 _ _ _ _ _ _ it acc env) p1 ok (fun _ z => by cases z) q1 r1 (fun D s H C cl fp => act_l (fun _ _ z => z) (he s H C cl fp)) hs
theorem pe_l2 (hc : X.calm = true) (hN : X.N.Nodup) (p1 : PI X t1 i1 w1) (ok : BlkOk X.N X.env.scope scope own) (hv2 : ∀ i ∈ v2, i ∈ own.map (·.2)) (q1 : InBlk X scope fun Y => PG Y t1 g1) (r1 : InBlk X scope fun Y => PTs Y f1 tt1) (p2 : InBlk X scope fun Y => PI Y t2 i2 w2) (q2 : InBlk X scope fun Y => PG Y t2 g2) (r2 : InBlk X scope fun Y => PTs Y f2 tt2)
    (he : InBlk X scope fun Y => PE Y elt te) (hs : ∀ x, foldedSetIterable i1 X.env x = pure x := by intro _; rfl) (hs2 : ∀ env x, foldedSetIterable i2 env x = pure x := by intro _ _; rfl) :
    PE X (.ListComp elt [⟨t1, i1, f1, 0⟩, ⟨t2, i2, f2, 0⟩] scope pos) (tComp ini0 w1 g1 tt1 (fun D => bC w2 g2 tt2 (bL D te) v2) (own.map (·.2))) :=
  pe_comp (act := fun acc env => actC (.ListComp elt [⟨t1, i1, f1, 0⟩, ⟨t2, i2, f2, 0⟩] scope pos) 1 i2 acc env) (vsIn := v2) (eval_ListComp _ _ _ _) (noGen_l _ _ _ _ _) rfl hc hN new_l ini_l rfl (fun it acc env => turn_l2a _ _ _ _ _ _ _ _ _ it acc env) p1 ok hv2 q1 r1
    (fun D s H C cl fp => act_c (act := actL elt (.ref D) (compEnvC scope cl C X.env)) (noGen_l _ _ _ _ _) (fun _ _ z => z) hc rfl (fun it => turn_l2b _ _ _ _ _ _ _ _ _ it _ _) (p2 s H C cl fp) (q2 s H C cl fp) (r2 s H C cl fp) (act_l (fun _ _ z => z) (he s H C cl fp)) (fun _ z => by cases z) (hs2 _)) hs
theorem ps_l2 (hy : X.N[i]? = some y) (hyl : X.env.scope.names.lookup y = some .local) (hsw : swapsWith (.ListComp elt [⟨t1, i1, f1, 0⟩, ⟨t2, i2, f2, 0⟩] scope pos) (some (.Name y py)) spos.line X.env = pure true) (hc : X.calm = true) (hN : X.N.Nodup) (p1 : PI X t1 i1 w1) (ok : BlkOk X.N X.env.scope scope own) (hv2 : ∀ i ∈ v2, i ∈ own.map (·.2))
    (q1 : InBlk X scope fun Y => PG Y t1 g1) (r1 : InBlk X scope fun Y => PTs Y f1 tt1) (p2 : InBlk X scope fun Y => PI Y t2 i2 w2) (q2 : InBlk X scope fun Y => PG Y t2 g2) (r2 : InBlk X scope fun Y => PTs Y f2 tt2)
    (he : InBlk X scope fun Y => PE Y elt te) (hs : ∀ x, foldedSetIterable i1 X.env x = pure x := by intro _; rfl) (hs2 : ∀ env x, foldedSetIterable i2 env x = pure x := by intro _ _; rfl) :
    PS X (.Assign [.Name y py] (.ListComp elt [⟨t1, i1, f1, 0⟩, ⟨t2, i2, f2, 0⟩] scope pos) spos) (tAsg (tComp ini0 w1 g1 tt1 (fun D => bC w2 g2 tt2 (bL D te) v2) (own.map (·.2))) (gName i)) :=
  ps_comp (act := fun acc env => actC (.ListComp elt [⟨t1, i1, f1, 0⟩, ⟨t2, i2, f2, 0⟩] scope pos) 1 i2 acc env) (vsIn := v2) (pos' := firstIterPos [⟨t1, i1, f1, 0⟩, ⟨t2, i2, f2, 0⟩] pos) hsw (fun u => by rfl) hy hyl (noGen_l _ _ _ _ _) rfl hc hN new_l ini_l rfl (fun it acc env => turn_l2a _ _ _ _ _ _ _ _ _ it acc env) p1 ok hv2 q1 r1
    (fun D s H C cl fp => act_c (act := actL elt (.ref D) (compEnvC scope cl C X.env)) (noGen_l _ _ _ _ _) (fun _ _ z => z) hc rfl (fun it => turn_l2b _ _ _ _ _ _ _ _ _ it _ _) (p2 s H C cl fp) (q2 s H C cl fp) (r2 s H C cl fp) (act_l (fun _ _ z => z) (he s H C cl fp)) (fun _ z => by cases z) (hs2 _)) hs
theorem pe_l3 (hc : X.calm = true) (hN : X.N.Nodup) (p1 : PI X t1 i1 w1) (ok : BlkOk X.N X.env.scope scope own) (hv2 : ∀ i ∈ v2, i ∈ own.map (·.2)) (hv3 : ∀ i ∈ v3, i ∈ v2) (q1 : InBlk X scope fun Y => PG Y t1 g1) (r1 : InBlk X scope fun Y => PTs Y f1 tt1) (p2 : InBlk X scope fun Y => PI Y t2 i2 w2) (q2 : InBlk X scope fun Y => PG Y t2 g2) (r2 : InBlk X scope fun Y => PTs Y f2 tt2)
    (p3 : InBlk X scope fun Y => PI Y t3 i3 w3) (q3 : InBlk X scope fun Y => PG Y t3 g3) (r3 : InBlk X scope fun Y => PTs Y f3 tt3)
    (he : InBlk X scope fun Y => PE Y elt te) (hs : ∀ x, foldedSetIterable i1 X.env x = pure x := by intro _; rfl) (hs2 : ∀ env x, foldedSetIterable i2 env x = pure x := by intro _ _; rfl) (hs3 : ∀ env x, foldedSetIterable i3 env x = pure x := by intro _ _; rfl) :
    PE X (.ListComp elt [⟨t1, i1, f1, 0⟩, ⟨t2, i2, f2, 0⟩, ⟨t3, i3, f3, 0⟩] scope pos) (tComp ini0 w1 g1 tt1 (fun D => bC w2 g2 tt2 (bC w3 g3 tt3 (bL D te) v3) v2) (own.map (·.2))) :=
  pe_comp (act := fun acc env => actC (.ListComp elt [⟨t1, i1, f1, 0⟩, ⟨t2, i2, f2, 0⟩, ⟨t3, i3, f3, 0⟩] scope pos) 1 i2 acc env) (vsIn := v2) (eval_ListComp _ _ _ _) (noGen_l _ _ _ _ _) rfl hc hN new_l ini_l rfl (fun it acc env => turn_l3a _ _ _ _ _ _ _ _ _ _ _ _ it acc env) p1 ok hv2 q1 r1
    (fun D s H C cl fp => act_c (act := actC (.ListComp elt [⟨t1, i1, f1, 0⟩, ⟨t2, i2, f2, 0⟩, ⟨t3, i3, f3, 0⟩] scope pos) 2 i3 (.ref D) (compEnvC scope cl C X.env)) (noGen_l _ _ _ _ _) (fun _ _ z => z) hc rfl (fun it => turn_l3b _ _ _ _ _ _ _ _ _ _ _ _ it _ _) (p2 s H C cl fp) (q2 s H C cl fp) (r2 s H C cl fp)
      (act_c (act := actL elt (.ref D) (compEnvC scope cl C X.env)) (noGen_l _ _ _ _ _) (fun _ _ z => z) hc rfl (fun it => turn_l3c _ _ _ _ _ _ _ _ _ _ _ _ it _ _) (p3 s H C cl fp) (q3 s H C cl fp) (r3 s H C cl fp) (act_l (fun _ _ z => z) (he s H C cl fp)) (fun _ z => by cases z) (hs3 _)) hv3 (hs2 _)) hs
theorem pe_s2 (hc : X.calm = true) (hN : X.N.Nodup) (p1 : PI X t1 i1 w1) (ok : BlkOk X.N X.env.scope scope own) (hv2 : ∀ i ∈ v2, i ∈ own.map (·.2)) (q1 : InBlk X scope fun Y => PG Y t1 g1) (r1 : InBlk X scope fun Y => PTs Y f1 tt1) (p2 : InBlk X scope fun Y => PI Y t2 i2 w2) (q2 : InBlk X scope fun Y => PG Y t2 g2) (r2 : InBlk X scope fun Y => PTs Y f2 tt2)
    (he : InBlk X scope fun Y => PE Y elt te) (hs : ∀ x, foldedSetIterable i1 X.env x = pure x := by intro _; rfl) (hs2 : ∀ env x, foldedSetIterable i2 env x = pure x := by intro _ _; rfl) :
    PE X (.SetComp elt [⟨t1, i1, f1, 0⟩, ⟨t2, i2, f2, 0⟩] scope pos) (tComp (iniS X.w) w1 g1 tt1 (fun D => bC w2 g2 tt2 (bS X.w D te) v2) (own.map (·.2))) :=
  pe_comp (act := fun acc env => actC (.SetComp elt [⟨t1, i1, f1, 0⟩, ⟨t2, i2, f2, 0⟩] scope pos) 1 i2 acc env) (vsIn := v2) (PpSet.eval_SetComp _ _ _ _) (noGen_s _ _ _ _ _) rfl hc hN new_s ini_s rfl (fun it acc env => turn_s2a _ _ _ _ _ _ _ _ _ it acc env) p1 ok hv2 q1 r1
    (fun D s H C cl fp => act_c (act := actS elt (.ref D) (compEnvC scope cl C X.env)) (noGen_s _ _ _ _ _) (fun _ _ z => z) hc rfl (fun it => turn_s2b _ _ _ _ _ _ _ _ _ it _ _) (p2 s H C cl fp) (q2 s H C cl fp) (r2 s H C cl fp) (act_s (fun _ _ z => z) (he s H C cl fp)) (fun _ z => by cases z) (hs2 _)) hs
/-- a walk of n turns, whatever is walked: Pv by the turn -/
theorem wk_by {J : It} {g : TG} {tt : TT} {b : TB} {vs : List Nat} {σ : L2.St} {H1 : Hp} {k : Hp → Prop} (n : Nat) (Pv : Nat → Hp → Prop) (h0 : Pv 0 H1) (hgo : ∀ i H, i < n → Pv i H → J.go i H) (hstop : ∀ H, Pv n H → J.stop n H ∧ k H)
    (hs : ∀ i H x H', i < n → Pv i H → J.yld i H x H' → g x (wipe σ vs) H' fun σ2 H2 => wipe σ2 vs = wipe σ vs ∧ tt σ2 H2 fun c H3 => if c = true then b σ2 H3 (Pv (i + 1)) else Pv (i + 1) H3) : Wk J g tt b vs σ H1 k := by
  refine ⟨fun i m H => m = n - i ∧ i ≤ n ∧ Pv i H, ⟨n, by omega, Nat.zero_le _, h0⟩, ?_⟩
  rintro i m H ⟨rfl, hi, p⟩
  by_cases hlt : i < n
  · exact .inr ⟨hgo i H hlt p, Pv (i + 1), fun H' p' => ⟨n - (i + 1), by omega, rfl, hlt, p'⟩, fun x H' y => hs i H x H' hlt p y⟩
  · have e : i = n := by omega
    subst e
    exact .inl (hstop H p)
/-- .. without tests -/
theorem wk_y {J : It} {g : TG} {b : TB} {vs : List Nat} {σ : L2.St} {H1 : Hp} {k : Hp → Prop} (n : Nat) (Pv : Nat → Hp → Prop) (h0 : Pv 0 H1) (hgo : ∀ i H, i < n → Pv i H → J.go i H) (hstop : ∀ H, Pv n H → J.stop n H ∧ k H)
    (hs : ∀ i H x H', i < n → Pv i H → J.yld i H x H' → g x (wipe σ vs) H' fun σ2 H2 => wipe σ2 vs = wipe σ vs ∧ b σ2 H2 (Pv (i + 1))) : Wk J g tYes b vs σ H1 k := wk_by n Pv h0 hgo hstop hs
/-- over a list, a tuple that stands -/
theorem wk_lst {K : PySem.W.Frag} {a : Addr} {xs : List V} {g : TG} {tt : TT} {b : TB} {vs : List Nat} {σ : L2.St} {H1 : Hp} {k : Hp → Prop} (Pv : Nat → Hp → Prop) (h0 : Pv 0 H1) (hL : ∀ i H, Pv i H → SqL K H a xs) (hk : ∀ H, Pv xs.length H → k H)
    (hs : ∀ i H (hi : i < xs.length), Pv i H → g xs[i] (wipe σ vs) H fun σ2 H2 => wipe σ2 vs = wipe σ vs ∧ tt σ2 H2 fun c H3 => if c = true then b σ2 H3 (Pv (i + 1)) else Pv (i + 1) H3) : Wk (Itl K a) g tt b vs σ H1 k := by
  refine wk_by xs.length Pv h0 (fun i H hi p => ⟨xs, xs[i], hL i H p, List.getElem?_eq_getElem hi⟩) (fun H p => ⟨⟨xs, hL _ H p, Nat.le_refl _⟩, hk H p⟩) fun i H x H' hi p hy => ?_
  obtain ⟨rfl, hy⟩ := hy
  have e : x = xs[i] := Option.some.inj ((hy xs (hL i H' p)).symm.trans (List.getElem?_eq_getElem hi))
  rw [e]
  exact hs i H' hi p
theorem wk_tup {K : PySem.W.Frag} {a : Addr} {xs : List V} {g : TG} {tt : TT} {b : TB} {vs : List Nat} {σ : L2.St} {H1 : Hp} {k : Hp → Prop} (Pv : Nat → Hp → Prop) (h0 : Pv 0 H1) (hL : ∀ i H, Pv i H → SqT K H a xs) (hk : ∀ H, Pv xs.length H → k H)
    (hs : ∀ i H (hi : i < xs.length), Pv i H → g xs[i] (wipe σ vs) H fun σ2 H2 => wipe σ2 vs = wipe σ vs ∧ tt σ2 H2 fun c H3 => if c = true then b σ2 H3 (Pv (i + 1)) else Pv (i + 1) H3) : Wk (Itt K a) g tt b vs σ H1 k := by
  refine wk_by xs.length Pv h0 (fun i H hi p => ⟨xs, xs[i], hL i H p, List.getElem?_eq_getElem hi⟩) (fun H p => ⟨⟨xs, hL _ H p, Nat.le_refl _⟩, hk H p⟩) fun i H x H' hi p hy => ?_
  obtain ⟨rfl, hy⟩ := hy
  have e : x = xs[i] := Option.some.inj ((hy xs (hL i H' p)).symm.trans (List.getElem?_eq_getElem hi))
  rw [e]
  exact hs i H' hi p
theorem wk_lsty {K : PySem.W.Frag} {a : Addr} {xs : List V} {g : TG} {b : TB} {vs : List Nat} {σ : L2.St} {H1 : Hp} {k : Hp → Prop} (Pv : Nat → Hp → Prop) (h0 : Pv 0 H1) (hL : ∀ i H, Pv i H → SqL K H a xs) (hk : ∀ H, Pv xs.length H → k H)
    (hs : ∀ i H (hi : i < xs.length), Pv i H → g xs[i] (wipe σ vs) H fun σ2 H2 => wipe σ2 vs = wipe σ vs ∧ b σ2 H2 (Pv (i + 1))) : Wk (Itl K a) g tYes b vs σ H1 k := wk_lst Pv h0 hL hk hs
theorem wk_tupy {K : PySem.W.Frag} {a : Addr} {xs : List V} {g : TG} {b : TB} {vs : List Nat} {σ : L2.St} {H1 : Hp} {k : Hp → Prop} (Pv : Nat → Hp → Prop) (h0 : Pv 0 H1) (hL : ∀ i H, Pv i H → SqT K H a xs) (hk : ∀ H, Pv xs.length H → k H)
    (hs : ∀ i H (hi : i < xs.length), Pv i H → g xs[i] (wipe σ vs) H fun σ2 H2 => wipe σ2 vs = wipe σ vs ∧ b σ2 H2 (Pv (i + 1))) : Wk (Itt K a) g tYes b vs σ H1 k := wk_tup Pv h0 hL hk hs
/-- over a list of ints to a name; σ2 the slots within -/
theorem wk_ints {K : PySem.W.Frag} {a : Addr} {ns : List Int} {i0 : Nat} {tt : TT} {b : TB} {vs : List Nat} {σ : L2.St} {H1 : Hp} {k : Hp → Prop} (σ2 : Int → L2.St) (Pv : Nat → Hp → Prop) (h0 : Pv 0 H1) (hL : ∀ i H, Pv i H → SqL K H a (ns.map V.int)) (hk : ∀ H, Pv ns.length H → k H)
    (hs : ∀ i H (hi : i < ns.length), Pv i H → tt (σ2 ns[i]) H fun c H3 => if c = true then b (σ2 ns[i]) H3 (Pv (i + 1)) else Pv (i + 1) H3) (h2 : ∀ x, (wipe σ vs).set i0 (some (.int x)) = σ2 x := by intro _; rfl) (h3 : ∀ x, wipe (σ2 x) vs = wipe σ vs := by intro _; rfl) : Wk (Itl K a) (gName i0) tt b vs σ H1 k := by
  refine wk_lst (xs := ns.map V.int) Pv h0 hL (fun H p => hk H (by rw [List.length_map] at p; exact p)) fun i H hi p => ?_
  have hi' : i < ns.length := by rw [List.length_map] at hi; exact hi
  have e : (ns.map V.int)[i] = .int ns[i] := List.getElem_map ..
  rw [e]
  show wipe ((wipe σ vs).set i0 (some (.int ns[i]))) vs = _ ∧ tt ((wipe σ vs).set i0 (some (.int ns[i]))) H _
  rw [h2]
  exact ⟨h3 _, hs i H hi' p⟩
theorem wk_intsy {K : PySem.W.Frag} {a : Addr} {ns : List Int} {i0 : Nat} {b : TB} {vs : List Nat} {σ : L2.St} {H1 : Hp} {k : Hp → Prop} (σ2 : Int → L2.St) (Pv : Nat → Hp → Prop) (h0 : Pv 0 H1) (hL : ∀ i H, Pv i H → SqL K H a (ns.map V.int)) (hk : ∀ H, Pv ns.length H → k H)
    (hs : ∀ i H (hi : i < ns.length), Pv i H → b (σ2 ns[i]) H (Pv (i + 1))) (h2 : ∀ x, (wipe σ vs).set i0 (some (.int x)) = σ2 x := by intro _; rfl) (h3 : ∀ x, wipe (σ2 x) vs = wipe σ vs := by intro _; rfl) : Wk (Itl K a) (gName i0) tYes b vs σ H1 k := wk_ints σ2 Pv h0 hL hk hs h2 h3
/-- over a list of pairs to two names -/
theorem wk_prs {K : PySem.W.Frag} {a : Addr} {xs : List V} {i0 i1 : Nat} {b : TB} {vs : List Nat} {σ : L2.St} {H1 : Hp} {k : Hp → Prop} (σ2 : V → V → L2.St) (Pv : Nat → Hp → Prop) (h0 : Pv 0 H1) (hL : ∀ i H, Pv i H → SqL K H a xs) (hk : ∀ H, Pv xs.length H → k H)
    (hs : ∀ i H (hi : i < xs.length), Pv i H → ∃ p v w, xs[i] = .ref p ∧ SqT K H p [v, w] ∧ b (σ2 v w) H (Pv (i + 1))) (h2 : ∀ v w, ((wipe σ vs).set i0 (some v)).set i1 (some w) = σ2 v w := by intro _ _; rfl) (h3 : ∀ v w, wipe (σ2 v w) vs = wipe σ vs := by intro _ _; rfl) :
    Wk (Itl K a) (gTup K 2 (gCons (gName i0) (gCons (gName i1) gNil))) tYes b vs σ H1 k := by
  refine wk_lsty Pv h0 hL hk fun i H hi p => ?_
  obtain ⟨q, v, w, e, t, h⟩ := hs i H hi p
  refine ⟨q, [v, w], e, t, rfl, v, [w], rfl, w, [], rfl, rfl, ?_⟩
  show wipe (((wipe σ vs).set i0 (some v)).set i1 (some w)) vs = _ ∧ b (((wipe σ vs).set i0 (some v)).set i1 (some w)) H _
  rw [h2]
  exact ⟨h3 _ _, h⟩
end
end FJ

/-! FJc: what the top has written; the small defs. -/
namespace FJ
open PySem PySem.Spec PyProof.Rows L2

/-- the defs and the names that the program's bodies use -/
structure Txt (K : PySem.W.Frag) (mg : Str → Option Value) : Prop where
  is_number : IsAt K mg "is_number" (topS 5) []
  reckoned : IsAt K mg "reckoned" (topS 7) []
  merged_set : IsAt K mg "merged_set" (topS 9) []
  merged : IsAt K mg "merged" (topS 10) []
  numbers_of : IsAt K mg "numbers_of" (topS 14) []
  in_order : IsAt K mg "in_order" (topS 15) []
  both_orders : IsAt K mg "both_orders" (topS 16) []
  is_alike : IsAt K mg "is_alike" (topS 17) []
  all_parts : IsAt K mg "all_parts" (topS 18) []
  parting : IsAt K mg "parting" (topS 19) []
  own_paper : IsAt K mg "own_paper" (topS 20) []
  order_paper : IsAt K mg "order_paper" (topS 22) [("reach", .int 1)]
  are_numbers : IsAt K mg "are_numbers" (topS 24) []
  can_have : IsAt K mg "can_have" (topS 25) []
  need : IsAt K mg "need" (topS 28) []
  is_join : IsAt K mg "is_join" (topS 29) []
  is_parting : IsAt K mg "is_parting" (topS 30) []
  is_shaped : IsAt K mg "is_shaped" (topS 31) []
  need_alike : IsAt K mg "need_alike" (topS 32) []
  need_parted : IsAt K mg "need_parted" (topS 33) []
  lets_order : IsAt K mg "lets_order" (topS 34) []
  law_feed : IsAt K mg "_law_feed" (topS 36) []
  law_draw : IsAt K mg "_law_draw" (topS 37) []
  law_number : IsAt K mg "_law_number" (topS 38) []
  law_sum : IsAt K mg "_law_sum" (topS 39) []
  law_has : IsAt K mg "_law_has" (topS 40) []
  law_kind : IsAt K mg "_law_kind" (topS 41) []
  law_joins : IsAt K mg "_law_joins" (topS 42) []
  law_let : IsAt K mg "_law_let" (topS 43) []
  law_papers : IsAt K mg "_law_papers" (topS 44) []
  law_right : IsAt K mg "_law_right" (topS 45) []
  law : IsAt K mg "law" (topS 46) []
  SLOTS : ∃ a : Addr, mg "SLOTS" = some (.ref a) ∧ ∀ H, SqT K H a [.str "base", .str "mine", .str "theirs"]
  MOST_REACH : ∃ t, mg "MOST_REACH" = some (.int 2 t)
  z_isinstance : mg "isinstance" = none
  z_int : mg "int" = none
  z_bool : mg "bool" = none
  z_str : mg "str" = none
  z_tuple : mg "tuple" = none
  z_list : mg "list" = none
  z_set : mg "set" = none
  z_sorted : mg "sorted" = none
  z_len : mg "len" = none
  z_all : mg "all" = none
  z_zip : mg "zip" = none
  z_max : mg "max" = none
  z_range : mg "range" = none
  z_enumerate : mg "enumerate" = none

theorem dT {p : Prop} [Decidable p] {A B : Prop} (h : p) (a : A) : if decide p = true then A else B := by
  rw [if_pos (decide_eq_true h)]
  exact a
theorem dF {p : Prop} [Decidable p] {A B : Prop} (h : ¬ p) (b : B) : if decide p = true then A else B := by
  rw [if_neg (by rw [decide_eq_false h]; exact Bool.false_ne_true)]
  exact b
theorem bT {c : Bool} {A B : Prop} (h : c = true) (a : A) : if c = true then A else B := by
  rw [if_pos h]
  exact a
theorem bF {c : Bool} {A B : Prop} (h : c = false) (b : B) : if c = true then A else B := by
  rw [h, if_neg Bool.false_ne_true]
  exact b
theorem kit_int_int : kitB "int" "int" = some true := by decide +kernel
theorem kit_int_bool : kitB "int" "bool" = some false := by decide +kernel
theorem kit_tup_tup : kitB "tuple" "tuple" = some true := by decide +kernel
theorem kit_str_tup : kitB "str" "tuple" = some false := by decide +kernel
theorem kit_str_str : kitB "str" "str" = some true := by decide +kernel
theorem kit_tup_str : kitB "tuple" "str" = some false := by decide +kernel
section
variable {P : Program} {w : World} {K : PySem.W.Frag} {mg : Str → Option Value} {base : Heap}

/-! ### is_number -/
def spIsNum : Sp := fun vs H Q _ => ∃ i : Int, vs = [.int i] ∧ Q (.bl true) H
theorem sc_isNum : FnScope ["thing"] ["thing"] (defScope (topS 5)) := ⟨rfl, rfl, rfl, by decide +kernel, rfl, by decide +kernel, by decide +kernel⟩
theorem ok_isNum (T : Txt K mg) : OkD P w K mg base CX0 1 "is_number" (topS 5) [] ["thing"] spIsNum := by
  refine okD T.is_number sc_isNum (fun vs H Q E h => ?_) fun f cdv A outer s H vs Q E hr h => ?_
  · obtain ⟨i, rfl, _⟩ := h
    rfl
  obtain ⟨i, rfl, q⟩ := h
  refine ⟨_, pss_one (ps_ret (pe_and (pe_isd "int" (pv 0) T.z_isinstance T.z_int) (pe_one (pe_not (pe_isd "bool" (pv 0) T.z_isinstance T.z_bool))))), ?_⟩
  refine ⟨.int i, rfl, .int i, "int", .int i, true, rfl, .int i, kit_int_int, true, rfl, iteT ?_⟩
  exact ⟨.int i, rfl, .int i, "bool", .int i, false, rfl, .int i, kit_int_bool, false, rfl, q⟩

/-! ### numbers_of -/
def spNum (K : PySem.W.Frag) (n : Nat) : Sp := fun vs H Q _ => ∃ (v : V) (s : Sm), vs = [v] ∧ Dp K H v s.dat ∧ s.depth ≤ n ∧ ∀ H' r, Same H H' → Dp K H' r (optN (numbersOf s)) → Q r H'
abbrev nNum : List Str := ["amount", "word", "rest", "one", "other", "sign", "slot", "here", "there"]
theorem sc_num : FnScope nNum ["amount"] (defScope (topS 14)) := ⟨rfl, rfl, rfl, by decide +kernel, rfl, by decide +kernel, by decide +kernel⟩
theorem depth_pos : ∀ s : Sm, 1 ≤ s.depth
  | .num _ => Nat.le_refl _
  | .slot _ => Nat.le_refl _
  | .bin _ _ _ => Nat.le_add_left _ _
theorem slot_turn (x : Sl) {i : Nat} {y : V} (hi : i < 3) (hy : [V.str "base", V.str "mine", V.str "theirs"][i]? = some y) :
    ∃ z : Sl, y = .str z.word ∧ (([x.nums.1, x.nums.2.1, x.nums.2.2.1] : List Int).take (i + 1)).map V.int = (([x.nums.1, x.nums.2.1, x.nums.2.2.1] : List Int).take i).map V.int ++ [.int (if decide (V.str x.word = V.str z.word) = true then 1 else 0)] := by
  match i, hi, hy with
  | 0, _, hy => exact ⟨.base, (Option.some.inj hy).symm, by cases x <;> decide +kernel⟩
  | 1, _, hy => exact ⟨.mine, (Option.some.inj hy).symm, by cases x <;> decide +kernel⟩
  | 2, _, hy => exact ⟨.theirs, (Option.some.inj hy).symm, by cases x <;> decide +kernel⟩
theorem mix_turn {n1 n2 : N4} {s : Int} {i : Nat} {x z : V} (hi : i < 4) (hx : (([n1.1, n1.2.1, n1.2.2.1, n1.2.2.2] : List Int).map V.int)[i]? = some x) (hz : (([n2.1, n2.2.1, n2.2.2.1, n2.2.2.2] : List Int).map V.int)[i]? = some z) :
    ∃ i1 i2 : Int, x = .int i1 ∧ z = .int i2 ∧ (([n1.1 + s * n2.1, n1.2.1 + s * n2.2.1, n1.2.2.1 + s * n2.2.2.1, n1.2.2.2 + s * n2.2.2.2] : List Int).take (i + 1)).map V.int = (([n1.1 + s * n2.1, n1.2.1 + s * n2.2.1, n1.2.2.1 + s * n2.2.2.1, n1.2.2.2 + s * n2.2.2.2] : List Int).take i).map V.int ++ [.int (i1 + s * i2)] := by
  match i, hi, hx, hz with
  | 0, _, hx, hz => exact ⟨_, _, (Option.some.inj hx).symm, (Option.some.inj hz).symm, rfl⟩
  | 1, _, hx, hz => exact ⟨_, _, (Option.some.inj hx).symm, (Option.some.inj hz).symm, rfl⟩
  | 2, _, hx, hz => exact ⟨_, _, (Option.some.inj hx).symm, (Option.some.inj hz).symm, rfl⟩
  | 3, _, hx, hz => exact ⟨_, _, (Option.some.inj hx).symm, (Option.some.inj hz).symm, rfl⟩
theorem num_step {n : Nat} (T : Txt K mg) (G : OkD P w K mg base CX0 n "numbers_of" (topS 14) [] ["amount"] (spNum K n)) : OkD P w K mg base CX0 (n + 1) "numbers_of" (topS 14) [] ["amount"] (spNum K (n + 1)) := by
  obtain ⟨fN, dN, aN, GN⟩ := G
  obtain ⟨aS, gS, hS⟩ := T.SLOTS
  have bN : Binds K dN ["amount"] [] := aN.F.bindsN fun _ _ _ _ _ _ us hl => match us, hl with | [_], _ => rfl
  refine okD T.numbers_of sc_num (fun vs H Q E h => ?_) fun f cdv A outer s H vs Q E hr h => ?_
  · obtain ⟨v, s, rfl, _⟩ := h
    rfl
  obtain ⟨v, sm, rfl, hv, hd, q⟩ := h
  refine ⟨_, pss_cons (ps_asg (pv 0) (pg_star rfl (pg_name (i := 1) sc_num.nd rfl (.inl rfl)) (pg_name (i := 2) sc_num.nd rfl (.inr rfl))))
    (pss_cons (ps_if (pt_cmpR op_eq (pv 1) pe_str (nomark _)) (pss_one (ps_ret (pe_tup (pa_cons pe_int (pa_cons pe_int (pa_cons pe_int (pa_cons (pe_ix ix_list (pv 2) pe_int (fun _ _ => rfl)) pa_nil))))))) pss_nil)
    (pss_cons (ps_if (pt_cmpR op_eq (pv 1) pe_str (nomark _)) (pss_one (ps_ret (pe_op op_catT
        (pe_callTy call_tuple_of (by rfl) T.z_tuple (by decide +kernel) (pa_cons (pe_l1 (own := [("slot", 6)]) rfl sc_num.nd (pi_tup (pe_glob (v := .ref aS) rfl gS rfl)) (blkOk_by (N := nNum) (sc := defScope (topS 14)) (by decide +kernel)) (fun _ _ _ _ _ => pg_name (i := 6) sc_num.nd rfl (Or.inl rfl)) (fun _ _ _ _ _ => pts_nil)
          (fun _ _ _ _ _ => pe_callTy call_int1 (by rfl) T.z_int (by decide +kernel) (pa_cons (pe_cmpR op_eq (pe_ix (r := rIxL K) ix_list (pv 2) pe_int (fun _ _ => rfl)) (pv 6) (nomark _)) pa_nil))) pa_nil))
        (pe_tup (pa_cons pe_int pa_nil))))) pss_nil)
    (pss_cons (ps_par (i := 3) (j := 4) (by rfl) sc_num.nd rfl rfl (by decide) rfl rfl (pa_cons (pe_call GN hr (by rfl) aN.g aN.F.kp bN .nil pass0 (pa_cons (pe_ix ix_list (pv 2) pe_int (fun _ _ => rfl)) pa_nil)) (pa_cons (pe_call GN hr (by rfl) aN.g aN.F.kp bN .nil pass0 (pa_cons (pe_ix ix_list (pv 2) pe_int (fun _ _ => rfl)) pa_nil)) pa_nil)) (by rfl))
    (pss_cons (ps_if (PW.pt (pw_or (pt_cmpR op_eq (pv 1) pe_str (nomark _)) (pw_or (pt_cmpR op_isN (pv 3) pe_non (nomark _)) (pw_or1 (pt_cmpR op_isN (pv 4) pe_non (nomark _)))))) (pss_one (ps_ret pe_non)) pss_nil)
    (pss_cons (ps_set (i := 5) sc_num.nd rfl (.inr rfl) (pe_ifExp (pt_cmpR op_eq (pv 1) pe_str (nomark _)) pe_int (pe_un un_neg pe_int)))
    (pss_one (ps_ret (pe_callTy call_tuple_of (by rfl) T.z_tuple (by decide +kernel) (pa_cons (pe_l1 (own := [("here", 7), ("there", 8)]) (g1 := gTup K 2 (gCons (gName 7) (gCons (gName 8) gNil))) rfl sc_num.nd (RZ.pi_zipA (by rfl) T.z_zip (pa_cons (pv 3) (pa_cons (pv 4) pa_nil))) (blkOk_by (N := nNum) (sc := defScope (topS 14)) (by decide +kernel))
      (fun _ _ _ _ _ => pg_tup rfl (pgs_cons (pg_name (i := 7) sc_num.nd rfl (Or.inl rfl)) (pgs_cons (pg_name (i := 8) sc_num.nd rfl (Or.inl rfl)) pgs_nil))) (fun _ _ _ _ _ => pts_nil)
      (fun _ _ _ _ _ => pe_op op_add (pv 7) (pe_op op_mul (pv 5) (pv 8)))) pa_nil))))))))), ?_⟩
  cases sm with
  | num i =>
    obtain ⟨a, xs, rfl, ht, hx⟩ := dp_tup (ds := [.str "num", .int i]) hv
    obtain ⟨u1, u2, rfl, d1, d2⟩ := dpa_2 hx
    have e1 := dp_str d1
    have e2 := dp_int d2
    subst e1 e2
    refine ⟨.ref a, rfl, a, .str "num", [.int i], rfl, ht, (by show 1 ≤ 1000; decide), fun p np => ?_⟩
    refine ⟨.str "num", rfl, rfl, _, rfl, dT rfl ?_⟩
    refine ⟨.ref p, rfl, p, [.int i], 0, .int i, rfl, rfl, SqL.of upd_same, rfl, (by show 4 ≤ sizeLine; decide), fun t nt => ?_⟩
    exact q _ _ ((same_new np).trans (same_new nt)) (dp_new nt (.cons (.int 0) (.cons (.int 0) (.cons (.int 0) (.cons (.int i) .nil)))))
  | slot x =>
    obtain ⟨a, xs, rfl, ht, hx⟩ := dp_tup (ds := [.str "slot", .str x.word]) hv
    obtain ⟨u1, u2, rfl, d1, d2⟩ := dpa_2 hx
    have e1 := dp_str d1
    have e2 := dp_str d2
    subst e1 e2
    refine ⟨.ref a, rfl, a, .str "slot", [.str x.word], rfl, ht, (by show 1 ≤ 1000; decide), fun p np => ?_⟩
    refine ⟨.str "slot", rfl, rfl, _, rfl, dF (by decide +kernel) ?_⟩
    refine ⟨.str "slot", rfl, rfl, _, rfl, dT rfl ?_⟩
    -- the comprehension over the three slots
    refine ⟨aS, rfl, ⟨_, hS _⟩, fun D nD => ?_⟩
    have neD : p ≠ D := fun z => by
      rw [← z, upd_same] at nD
      cases nD
    let l3 : List Int := [x.nums.1, x.nums.2.1, x.nums.2.2.1]
    refine wk_y 3 (fun i H' => Same (upd H p (.lst [.str x.word])) H' ∧ H' D = some (.lst ((l3.take i).map V.int))) ⟨same_new nD, upd_same⟩ (fun i H' hi _ => ?_) (fun H' hP => ⟨⟨_, hS _, Nat.le_refl _⟩, ?_⟩) (fun i H' y H2 hi hP hy => ?_)
    · refine ⟨_, [V.str "base", V.str "mine", V.str "theirs"][i], hS _, ?_⟩
      exact List.getElem?_eq_getElem hi
    · -- tuple(..) + (0,)
      obtain ⟨hs, hD⟩ := hP
      refine ⟨D, _, rfl, .inl ⟨SqL.of hD, fun t nt => ⟨by decide, fun z nz => ?_⟩⟩⟩
      have e3 : (List.take 3 l3).map V.int = [.int x.nums.1, .int x.nums.2.1, .int x.nums.2.2.1] := rfl
      have hz : Same (upd H p (.lst [.str x.word])) (upd (upd H' t (.tup ((List.take 3 l3).map V.int))) z (.tup [.int 0])) := hs.trans ((same_new nt).trans (same_new nz))
      refine ⟨t, z, [.int x.nums.1, .int x.nums.2.1, .int x.nums.2.2.1], [.int 0], rfl, rfl, SqT.of (same_new nz _ _ upd_same), SqT.of upd_same, (by simp), (by show 3 + 1 ≤ sizeLine; decide), (fun z => by cases z), fun _ r nr => ?_⟩
      refine q _ _ ((same_new np).trans (hz.trans (same_new nr))) ?_
      have e4 : x.nums.2.2.2 = 0 := by cases x <;> rfl
      show Dp K _ (.ref r) (.tuple [.int x.nums.1, .int x.nums.2.1, .int x.nums.2.2.1, .int x.nums.2.2.2])
      rw [e4]
      exact dp_new nr (.cons (.int _) (.cons (.int _) (.cons (.int _) (.cons (.int _) .nil))))
    · obtain ⟨hs, hD⟩ := hP
      obtain ⟨rfl, hy⟩ := hy
      have hy := hy _ (hS _)
      refine ⟨rfl, ?_⟩
      have hp : H2 p = some (.lst [.str x.word]) := hs _ _ upd_same
      refine ⟨.ref p, rfl, p, [.str x.word], 0, .str x.word, rfl, rfl, SqL.of hp, rfl, y, rfl, ?_⟩
      obtain ⟨z, rfl, h2⟩ := slot_turn x hi hy
      refine ⟨rfl, .inr ⟨_, rfl, _, hD, ?_, ?_, ?_⟩⟩
      · rw [List.length_map, List.length_take]
        exact Nat.lt_of_le_of_lt (Nat.min_le_left _ _) (small1000 (by omega))
      · intro b o e
        by_cases hb : b = D
        · subst hb
          rw [nD] at e
          cases e
        · rw [upd_ne hb]
          exact hs _ _ e
      · rw [upd_same, h2]
  | bin o l r =>
    obtain ⟨a, xs, rfl, ht, hx⟩ := dp_tup (ds := [.str o.word, l.dat, r.dat]) hv
    obtain ⟨u1, u2, u3, rfl, d1, d2, d3⟩ := dpa_3 hx
    have e1 := dp_str d1
    subst e1
    have hd' : max l.depth r.depth + 1 ≤ n + 1 := hd
    refine ⟨.ref a, rfl, a, .str o.word, [u2, u3], rfl, ht, (by show 2 ≤ 1000; decide), fun p np => ?_⟩
    have s0 : Same H (upd H p (.lst [u2, u3])) := same_new np
    refine ⟨_, rfl, rfl, _, rfl, dF (by cases o <;> decide +kernel) ?_⟩
    refine ⟨_, rfl, rfl, _, rfl, dF (by cases o <;> decide +kernel) ?_⟩
    refine ⟨.ref p, rfl, p, [u2, u3], 0, u2, rfl, rfl, SqL.of upd_same, rfl, u2, l, rfl, d2.up s0, by omega, fun H1 r1 s1 q1 => ?_⟩
    refine ⟨.ref p, rfl, p, [u2, u3], 1, u3, rfl, rfl, SqL.of (s1 _ _ upd_same), rfl, u3, r, rfl, d3.up (s0.trans s1), by omega, fun H2 r2 s2 q2 => ?_⟩
    refine ⟨r1, r2, rfl, ?_⟩
    have s02 : Same H H2 := s0.trans (s1.trans s2)
    have q1 := q1.up s2
    have eN : numbersOf (.bin o l r) = comb o (numbersOf l) (numbersOf r) := rfl
    rw [eN] at q
    by_cases ho : o = .less
    · subst ho
      refine ⟨_, rfl, rfl, _, rfl, dT rfl ?_⟩
      refine q H2 .non s02 ?_
      cases numbersOf l <;> cases numbersOf r <;> exact .non
    refine ⟨_, rfl, rfl, _, rfl, dF (by cases o <;> first | exact absurd rfl ho | decide +kernel) ?_⟩
    cases el : numbersOf l with
    | none =>
      rw [el] at q1 q
      have := dp_non q1
      subst this
      refine ⟨_, rfl, rfl, _, rfl, dT rfl ?_⟩
      exact q H2 .non s02 .non
    | some n1 =>
      rw [el] at q1 q
      obtain ⟨a1, rfl, t1⟩ := dp_ht (ns := [n1.1, n1.2.1, n1.2.2.1, n1.2.2.2]) q1
      refine ⟨_, rfl, rfl, _, rfl, dF (fun z => by cases z) ?_⟩
      cases er : numbersOf r with
      | none =>
        rw [er] at q2 q
        have := dp_non q2
        subst this
        refine ⟨_, rfl, rfl, _, rfl, dT rfl ?_⟩
        exact q H2 .non s02 .non
      | some n2 =>
        rw [er] at q2 q
        obtain ⟨a2, rfl, t2⟩ := dp_ht (ns := [n2.1, n2.2.1, n2.2.2.1, n2.2.2.2]) q2
        refine ⟨_, rfl, rfl, _, rfl, dF (fun z => by cases z) ?_⟩
        have eQ : comb o (some n1) (some n2) = some (mix o.sign n1 n2) := if_neg ho
        rw [eQ] at q
        have after : ∀ sg : Int, sg = o.sign → tRet (tCB (fun xs H Q => ∃ p ys, xs = [.ref p] ∧ ((SqL K H p ys ∧ ∀ l, H l = none → Q (.ref l) (upd H l (.tup ys))) ∨ (SqT K H p ys ∧ Q (.ref p) H))) (tCons (tComp ini0 (RZ.iZipA K (tCons (tVar 3) (tCons (tVar 4) tNil))) (gTup K 2 (gCons (gName 7) (gCons (gName 8) gNil))) tYes
            (fun D => bL D (tOp (rI0 fun i j => .int (i + j)) (tVar 7) (tOp (rI CMul fun i j => .int (i * j)) (tVar 5) (tVar 8)))) [7, 8]) tNil)) { nx := fun _ H' => Q .non H', rt := Q }
            [some (.ref a), some (.str o.word), some (.ref p), some (.ref a1), some (.ref a2), some (.int sg), none, none, none] H2 := fun sg esg => by
          rw [← esg] at q
          have hsg : -(2 ^ 64) < sg ∧ sg < 2 ^ 64 := by rw [esg]; cases o <;> decide
          refine ⟨.ref a1, rfl, .ref a2, rfl, a1, a2, _, _, rfl, .inr ⟨t1, t2, fun D nD => ?_⟩⟩
          let m4 : List Int := [n1.1 + sg * n2.1, n1.2.1 + sg * n2.2.1, n1.2.2.1 + sg * n2.2.2.1, n1.2.2.2 + sg * n2.2.2.2]
          refine wk_y 4 (fun i H' => Same H2 H' ∧ H' D = some (.lst ((m4.take i).map V.int))) ⟨same_new nD, upd_same⟩ (fun i H' hi hP => ?_) (fun H' hP => ⟨⟨_, _, hP.1.tupT t1, hP.1.tupT t2, .inl (Nat.le_refl _)⟩, ?_⟩) (fun i H' y H3 hi hP hy => ?_)
          · exact ⟨_, _, _, _, hP.1.tupT t1, hP.1.tupT t2, List.getElem?_eq_getElem hi, List.getElem?_eq_getElem hi⟩
          · obtain ⟨hs, hD⟩ := hP
            refine ⟨D, _, rfl, .inl ⟨SqL.of hD, fun t nt => ?_⟩⟩
            refine q _ _ (s02.trans (hs.trans (same_new nt))) ?_
            exact dp_new nt (.cons (.int _) (.cons (.int _) (.cons (.int _) (.cons (.int _) .nil))))
          · obtain ⟨hs, hD⟩ := hP
            obtain ⟨U, x, z, rfl, nU, rfl, fx, fz⟩ := hy
            have gx := fx _ (hs.tupT t1)
            have gz := fz _ (hs.tupT t2)
            obtain ⟨i1, i2, rfl, rfl, hm⟩ := mix_turn (s := sg) hi gx gz
            refine ⟨U, [.int i1, .int i2], rfl, SqT.of upd_same, rfl, .int i1, [.int i2], rfl, .int i2, [], rfl, rfl, rfl, ?_⟩
            have hD' : (upd H' U (.tup [.int i1, .int i2])) D = some (.lst ((m4.take i).map V.int)) := by
              rw [upd_ne (ne_of_none hD nU)]
              exact hD
            refine ⟨.int i1, rfl, .int sg, rfl, .int i2, rfl, sg, i2, rfl, rfl, .inl hsg, i1, sg * i2, rfl, rfl, _, hD', ?_, ?_, ?_⟩
            · rw [List.length_map, List.length_take]
              exact Nat.lt_of_le_of_lt (Nat.min_le_left _ _) (small1000 (by omega))
            · intro b o' e
              have hb : b ≠ D := ne_of_none e nD
              rw [upd_ne hb]
              exact same_new nU _ _ (hs _ _ e)
            · rw [upd_same]
              exact congrArg some (congrArg HO.lst hm.symm)
        refine ⟨_, rfl, rfl, _, rfl, ?_⟩
        cases o with
        | less => exact absurd rfl ho
        | plus => exact dT (by decide +kernel) (after 1 rfl)
        | minus => exact dF (by decide +kernel) ⟨1, rfl, after (-1) rfl⟩
theorem num_none (T : Txt K mg) : OkD P w K mg base CX0 0 "numbers_of" (topS 14) [] ["amount"] (spNum K 0) := by
  obtain ⟨f, fd, a⟩ := T.numbers_of
  have no : ∀ vs H Q E, ¬ spNum K 0 vs H Q E := fun vs H Q E h => by
    obtain ⟨v, s, _, _, h1, _⟩ := h
    have := depth_pos s
    omega
  exact ⟨f, fd, a, fun vs H Q E h => absurd h (no vs H Q E), fun A outer s H args us vs Q E _ _ _ _ h => absurd h (no vs H Q E)⟩
theorem ok_num (T : Txt K mg) : ∀ n : Nat, OkD P w K mg base CX0 n "numbers_of" (topS 14) [] ["amount"] (spNum K n)
  | 0 => num_none T
  | n + 1 => num_step T (ok_num T n)
end
end FJ

/-! FJd: reckoned, merged_set, merged. -/
namespace FJ
open PySem PySem.Spec PyProof.Rows L2
section
variable {P : Program} {w : World} {K : PySem.W.Frag} {mg : Str → Option Value} {base : Heap}

/-! ### reckoned -/
def given (b m t : Int) : List (L2.Key × V) := [(.inr "base", .int b), (.inr "mine", .int m), (.inr "theirs", .int t)]
theorem given_get (b m t : Int) (x : Sl) : ((valV (given b m t) (.inr x.word)).getD (.int 0)) = .int (x.val b m t) := by
  cases x <;> rfl
def spRec (K : PySem.W.Frag) (n : Nat) : Sp := fun vs H Q _ => ∃ (v : V) (g : Addr) (s : Sm) (b m t : Int), vs = [v, .ref g] ∧ Dp K H v s.dat ∧ s.depth ≤ n ∧ H g = some (.dK (given b m t)) ∧ ∀ H', Same H H' → Q (.int (s.val b m t)) H'
abbrev nRec : List Str := ["amount", "given", "word", "rest", "one", "other"]
theorem sc_rec : FnScope nRec ["amount", "given"] (defScope (topS 7)) := ⟨rfl, rfl, rfl, by decide +kernel, rfl, by decide +kernel, by decide +kernel⟩
theorem rec_step {n : Nat} (T : Txt K mg) (G : OkD P w K mg base CX0 n "reckoned" (topS 7) [] ["amount", "given"] (spRec K n)) : OkD P w K mg base CX0 (n + 1) "reckoned" (topS 7) [] ["amount", "given"] (spRec K (n + 1)) := by
  obtain ⟨fN, dN, aN, GN⟩ := G
  have bN : Binds K dN ["amount", "given"] [] := aN.F.bindsN fun _ _ _ _ _ _ us hl => match us, hl with | [_, _], _ => rfl
  refine okD T.reckoned sc_rec (fun vs H Q E h => ?_) fun f cdv A outer s H vs Q E hr h => ?_
  · obtain ⟨v, g, s, b, m, t, rfl, _⟩ := h
    rfl
  obtain ⟨v, g, sm, b, m, t, rfl, hv, hd, hg, q⟩ := h
  refine ⟨_, pss_cons (ps_asg (pv 0) (pg_star rfl (pg_name (i := 2) sc_rec.nd rfl (.inl rfl)) (pg_name (i := 3) sc_rec.nd rfl (.inl rfl))))
    (pss_cons (ps_if (pt_cmpR op_eq (pv 2) pe_str (nomark _)) (pss_one (ps_ret (pe_ix ix_list (pv 3) pe_int (fun _ _ => rfl)))) pss_nil)
    (pss_cons (ps_if (pt_cmpR op_eq (pv 2) pe_str (nomark _)) (pss_one (ps_ret (pe_dget2 (hu_of hr) (pv 1) (pe_ix ix_list (pv 3) pe_int (fun _ _ => rfl)) pe_int ⟨rfl, rfl, rfl, rfl⟩))) pss_nil)
    (pss_cons (ps_par (i := 4) (j := 5) (by rfl) sc_rec.nd rfl rfl (by decide) rfl rfl
      (pa_cons (pe_call GN hr (by rfl) aN.g aN.F.kp bN .nil pass0 (pa_cons (pe_ix ix_list (pv 3) pe_int (fun _ _ => rfl)) (pa_cons (pv 1) pa_nil)))
      (pa_cons (pe_call GN hr (by rfl) aN.g aN.F.kp bN .nil pass0 (pa_cons (pe_ix ix_list (pv 3) pe_int (fun _ _ => rfl)) (pa_cons (pv 1) pa_nil))) pa_nil)) (by rfl))
    (pss_cons (ps_if (pt_cmpR op_eq (pv 2) pe_str (nomark _)) (pss_one (ps_ret (pe_ifExp (pt_cmpR op_lt (pv 4) (pv 5) (nomark _)) pe_int pe_int))) pss_nil)
    (pss_one (ps_ret (pe_ifExp (pt_cmpR op_eq (pv 2) pe_str (nomark _)) (pe_op op_add (pv 4) (pv 5)) (pe_op op_sub (pv 4) (pv 5))))))))), ?_⟩
  cases sm with
  | num i =>
    obtain ⟨a, xs, rfl, ht, hx⟩ := dp_tup (ds := [.str "num", .int i]) hv
    obtain ⟨u1, u2, rfl, d1, d2⟩ := dpa_2 hx
    have e1 := dp_str d1
    have e2 := dp_int d2
    subst e1 e2
    refine ⟨.ref a, rfl, a, .str "num", [.int i], rfl, ht, (by show 1 ≤ 1000; decide), fun p np => ?_⟩
    refine ⟨.str "num", rfl, rfl, _, rfl, dT rfl ?_⟩
    exact ⟨.ref p, rfl, p, [.int i], 0, .int i, rfl, rfl, SqL.of upd_same, rfl, q _ (same_new np)⟩
  | slot x =>
    obtain ⟨a, xs, rfl, ht, hx⟩ := dp_tup (ds := [.str "slot", .str x.word]) hv
    obtain ⟨u1, u2, rfl, d1, d2⟩ := dpa_2 hx
    have e1 := dp_str d1
    have e2 := dp_str d2
    subst e1 e2
    refine ⟨.ref a, rfl, a, .str "slot", [.str x.word], rfl, ht, (by show 1 ≤ 1000; decide), fun p np => ?_⟩
    have hg1 : (upd H p (.lst [.str x.word])) g = some (.dK (given b m t)) := same_new np _ _ hg
    refine ⟨.str "slot", rfl, rfl, _, rfl, dF (by decide +kernel) ?_⟩
    refine ⟨.str "slot", rfl, rfl, _, rfl, dT rfl ?_⟩
    refine ⟨.ref g, rfl, g, rfl, .inl ⟨_, .inl hg1⟩, .ref p, rfl, p, [.str x.word], 0, .str x.word, rfl, rfl, SqL.of upd_same, rfl, _, DGet.k (k := Sum.inr x.word) hg1, ?_⟩
    rw [given_get]
    exact q _ (same_new np)
  | bin o l r =>
    obtain ⟨a, xs, rfl, ht, hx⟩ := dp_tup (ds := [.str o.word, l.dat, r.dat]) hv
    obtain ⟨u1, u2, u3, rfl, d1, d2, d3⟩ := dpa_3 hx
    have e1 := dp_str d1
    subst e1
    have hd' : max l.depth r.depth + 1 ≤ n + 1 := hd
    refine ⟨.ref a, rfl, a, .str o.word, [u2, u3], rfl, ht, (by show 2 ≤ 1000; decide), fun p np => ?_⟩
    have s0 : Same H (upd H p (.lst [u2, u3])) := same_new np
    refine ⟨_, rfl, rfl, _, rfl, dF (by cases o <;> decide +kernel) ?_⟩
    refine ⟨_, rfl, rfl, _, rfl, dF (by cases o <;> decide +kernel) ?_⟩
    refine ⟨.ref p, rfl, p, [u2, u3], 0, u2, rfl, rfl, SqL.of upd_same, rfl, .ref g, rfl, u2, g, l, b, m, t, rfl, d2.up s0, by omega, s0 _ _ hg, fun H1 s1 => ?_⟩
    refine ⟨.ref p, rfl, p, [u2, u3], 1, u3, rfl, rfl, SqL.of (s1 _ _ upd_same), rfl, .ref g, rfl, u3, g, r, b, m, t, rfl, d3.up (s0.trans s1), by omega, s1 _ _ (s0 _ _ hg), fun H2 s2 => ?_⟩
    have s3 := s0.trans (s1.trans s2)
    refine ⟨_, _, rfl, ?_⟩
    refine ⟨_, rfl, rfl, _, rfl, ?_⟩
    cases o with
    | less =>
      refine dT (by decide +kernel) ?_
      refine ⟨_, rfl, _, rfl, _, _, rfl, rfl, _, rfl, ?_⟩
      have := q H2 s3
      have e : (Sm.bin .less l r).val b m t = if l.val b m t < r.val b m t then 1 else 0 := rfl
      rw [e] at this
      by_cases c : l.val b m t < r.val b m t
      · rw [if_pos c] at this
        exact dT c this
      · rw [if_neg c] at this
        exact dF c this
    | plus =>
      refine dF (by decide +kernel) ?_
      refine ⟨_, rfl, rfl, _, rfl, dT (by decide +kernel) ?_⟩
      exact ⟨_, rfl, _, rfl, _, _, rfl, rfl, q H2 s3⟩
    | minus =>
      refine dF (by decide +kernel) ?_
      refine ⟨_, rfl, rfl, _, rfl, dF (by decide +kernel) ?_⟩
      exact ⟨_, rfl, _, rfl, _, _, rfl, rfl, q H2 s3⟩
theorem rec_none (T : Txt K mg) : OkD P w K mg base CX0 0 "reckoned" (topS 7) [] ["amount", "given"] (spRec K 0) := by
  obtain ⟨f, fd, a⟩ := T.reckoned
  have no : ∀ vs H Q E, ¬ spRec K 0 vs H Q E := fun vs H Q E h => by
    obtain ⟨v, g, s, b, m, t, _, _, h1, _⟩ := h
    have := depth_pos s
    omega
  exact ⟨f, fd, a, fun vs H Q E h => absurd h (no vs H Q E), fun A outer s H args us vs Q E _ _ _ _ h => absurd h (no vs H Q E)⟩
theorem ok_rec (T : Txt K mg) : ∀ n : Nat, OkD P w K mg base CX0 n "reckoned" (topS 7) [] ["amount", "given"] (spRec K n)
  | 0 => rec_none T
  | n + 1 => rec_step T (ok_rec T n)
end
end FJ

/-! FJe: merged_set, merged. -/
namespace FJ
open PySem PySem.Spec PyProof.Rows L2

/-! ### in, of ints -/
theorem flat_ints : ∀ ns : List Int, (ns.map V.int).all flatV = true
  | [] => rfl
  | n :: r => by
    show (flatV (.int n) && (r.map V.int).all flatV) = true
    rw [flat_ints r]
    rfl
theorem eqV_int (x y : Int) : eqV (.int x) (.int y) = decide (x = y) := by
  show (x == y) = decide (x = y)
  exact Bool.beq_eq_decide_eq x y
theorem inV_ints (x : Int) : ∀ ns : List Int, inV (.int x) (ns.map V.int) = decide (x ∈ ns)
  | [] => by simp [inV]
  | n :: r => by
    have ih := inV_ints x r
    unfold inV at ih ⊢
    rw [List.map_cons, List.any_cons, ih, eqV_int]
    by_cases h1 : n = x <;> by_cases h2 : x ∈ r <;> simp [h1, h2, eq_comm]
    · exact fun e => h1 e.symm
theorem map_at {ns : List Int} {i : Nat} (h : i < ns.length) : (ns.map V.int)[i]? = some (.int ns[i]) := by
  rw [List.getElem?_map, List.getElem?_eq_getElem h]
  rfl
theorem take_snoc {α : Type} {l : List α} {i : Nat} (h : i < l.length) : l.take (i + 1) = l.take i ++ [l[i]] := by
  rw [List.take_add_one, List.getElem?_eq_getElem h]
  rfl
theorem filt_snoc {l : List Int} {i : Nat} (p : Int → Bool) (h : i < l.length) : (l.take (i + 1)).filter p = (l.take i).filter p ++ (if p l[i] = true then [l[i]] else []) := by
  rw [take_snoc h, List.filter_append]
  by_cases c : p l[i] = true
  · simp [c]
  · simp [c]
section
variable {P : Program} {w : World} {K : PySem.W.Frag} {mg : Str → Option Value} {base : Heap}
/-- [x for x in t if ..] of a tuple of ints -/
theorem wk_filt {a D : Addr} {ns : List Int} {i0 : Nat} {tt : TT} {vs : List Nat} {σ : L2.St} {H : Hp} {k : Hp → Prop} (p : Int → Bool) (ht : SqT K H a (ns.map V.int)) (hl : ns.length ≤ 1000) (nD : H D = none)
    (hw : ∀ x, wipe ((wipe σ vs).set i0 (some x)) vs = wipe σ vs) (hg : ∀ x, ((wipe σ vs).set i0 (some x))[i0]? = some (some x))
    (htt : ∀ (x : Int) (H' : Hp) (Q : Bool → Hp → Prop), Same H H' → Q (p x) H' → tt ((wipe σ vs).set i0 (some (.int x))) H' Q)
    (hk : ∀ H', Same H H' → H' D = some (.lst ((ns.filter p).map V.int)) → k H') : Wk (Itt K a) (gName i0) tt (bL D (tVar i0)) vs σ (upd H D (.lst [])) k := by
  refine wk_by ns.length (fun i H' => Same H H' ∧ H' D = some (.lst (((ns.take i).filter p).map V.int))) ⟨same_new nD, upd_same⟩ (fun i H' hi hP => ?_) (fun H' hP => ⟨⟨_, hP.1.tupT ht, by rw [List.length_map]; exact Nat.le_refl _⟩, ?_⟩) (fun i H' y H2 hi hP hy => ?_)
  · exact ⟨_, _, hP.1.tupT ht, map_at hi⟩
  · have h2 := hP.2
    rw [List.take_length] at h2
    exact hk H' hP.1 h2
  · obtain ⟨hs, hD⟩ := hP
    obtain ⟨rfl, hy⟩ := hy
    have ey : y = .int ns[i] := Option.some.inj ((hy _ (hs.tupT ht)).symm.trans (map_at hi))
    subst ey
    refine ⟨hw _, ?_⟩
    refine htt ns[i] H2 _ hs ?_
    have e := filt_snoc p hi
    by_cases c : p ns[i] = true
    · rw [if_pos c] at e ⊢
      refine ⟨_, hg _, _, hD, ?_, ?_, ?_⟩
      · have h1 : ((ns.take i).filter p).length ≤ (ns.take i).length := List.length_filter_le _ _
        rw [List.length_take] at h1
        rw [List.length_map]
        exact small1000 (by omega)
      · intro b o q
        rw [upd_ne (ne_of_none q nD)]
        exact hs _ _ q
      · rw [upd_same, e, List.map_append]
        rfl
    · rw [if_neg c] at e ⊢
      rw [List.append_nil] at e
      refine ⟨hs, ?_⟩
      rw [e]
      exact hD

/-! ### merged_set -/
def spMS (K : PySem.W.Frag) : Sp := fun vs H Q _ => ∃ (vb vm vt : V) (bs ms ts : List Int), vs = [vb, vm, vt] ∧ Dp K H vb (HV.tup bs).dat ∧ Dp K H vm (HV.tup ms).dat ∧ Dp K H vt (HV.tup ts).dat ∧ ms.length ≤ 400 ∧ ts.length ≤ 400 ∧
  (∀ x ∈ ms, -1 ≤ x ∧ x ≤ 40) ∧ (∀ x ∈ ts, -1 ≤ x ∧ x ≤ 40) ∧ ∀ H' r, Same H H' → Dp K H' r (HV.tup (mset bs ms ts)).dat → Q r H'
abbrev nMS : List Str := ["base", "mine", "theirs", "some", "one", "row"]
theorem sc_ms : FnScope nMS ["base", "mine", "theirs"] (defScope (topS 9)) := ⟨rfl, rfl, rfl, by decide +kernel, rfl, by decide +kernel, by decide +kernel⟩
theorem ok_ms (T : Txt K mg) : OkD P w K mg base CX0 1 "merged_set" (topS 9) [] ["base", "mine", "theirs"] (spMS K) := by
  refine okD T.merged_set sc_ms (fun vs H Q E h => ?_) fun f cdv A outer s H vs Q E hr h => ?_
  · obtain ⟨vb, vm, vt, bs, ms, ts, rfl, _⟩ := h
    rfl
  obtain ⟨vb, vm, vt, bs, ms, ts, rfl, hb, hm, ht, lm, lt, bm, bt, q⟩ := h
  refine ⟨_, pss_cons (ps_l1 (i := 3) (own := [("one", 4)]) (tt1 := tOr (tTest (tOp (rIn K false) (tVar 4) (tVar 2))) (tTest (tOp (rIn K true) (tVar 4) (tVar 0)))) rfl rfl (sw_true rfl rfl rfl (by decide +kernel)) rfl sc_ms.nd (pi_tup (pv 1)) (blkOk_by (N := nMS) (sc := defScope (topS 9)) (by decide +kernel))
      (fun _ _ _ _ _ => pg_name (i := 4) sc_ms.nd rfl (Or.inl rfl)) (fun _ _ _ _ _ => pts_one (PW.pt (pw_or (pt_cmpR op_in_seq (pv 4) (pv 2) (by rfl)) (pw_or1 (pt_cmpR op_notIn_seq (pv 4) (pv 0) (by rfl)))))) (fun _ _ _ _ _ => pv 4))
    (pss_one (ps_ret (pe_callTy call_tuple_of (by rfl) T.z_tuple (by decide +kernel) (pa_cons (pe_callB (cr_sortedSet rfl) (by rfl) T.z_sorted (by decide +kernel) (pa_cons
      (pe_s2 (own := [("row", 5), ("one", 4)]) (v2 := [4]) (w2 := iList K (tVar 5)) rfl sc_ms.nd (pi_tup (pe_tup (pa_cons (pv 3) (pa_cons (pe_l1 (own := [("one", 4)]) (tt1 := tTest (tOp (rIn K true) (tVar 4) (tVar 0))) rfl sc_ms.nd (pi_tup (pv 2)) (blkOk_by (N := nMS) (sc := defScope (topS 9)) (by decide +kernel))
        (fun _ _ _ _ _ => pg_name (i := 4) sc_ms.nd rfl (Or.inl rfl)) (fun _ _ _ _ _ => pts_one (pt_cmpR op_notIn_seq (pv 4) (pv 0) (by rfl))) (fun _ _ _ _ _ => pv 4)) pa_nil)))) (blkOk_by (N := nMS) (sc := defScope (topS 9)) (by decide +kernel)) (by simp)
        (fun _ _ _ _ _ => pg_name (i := 5) sc_ms.nd rfl (Or.inl rfl)) (fun _ _ _ _ _ => pts_nil) (fun _ _ _ _ _ => pi_list (pv 5)) (fun _ _ _ _ _ => pg_name (i := 4) sc_ms.nd rfl (Or.inl rfl)) (fun _ _ _ _ _ => pts_nil) (fun _ _ _ _ _ => pv 4)) pa_nil)) pa_nil)))), ?_⟩
  obtain ⟨ab, rfl, tb⟩ := dp_ht hb
  obtain ⟨am, rfl, tm⟩ := dp_ht hm
  obtain ⟨aT, rfl, tt⟩ := dp_ht ht
  -- some = [..]
  refine ⟨.ref am, rfl, am, rfl, ⟨_, tm⟩, fun D nD => ?_⟩
  refine wk_filt (fun x => decide (x ∈ ts) || !decide (x ∈ bs)) tm (by omega) nD (fun _ => rfl) (fun _ => rfl) (fun x H' R hs hR => ?_) fun H1 s1 h1 => ?_
  · refine ⟨_, rfl, .ref aT, rfl, aT, ts.map V.int, rfl, .inr (hs.tupT tt), rfl, flat_ints ts, _, rfl, ?_⟩
    show (if inV (.int x) (ts.map V.int) = true then R true H' else _)
    rw [inV_ints]
    by_cases c : x ∈ ts
    · refine dT c ?_
      have e : (decide (x ∈ ts) || !decide (x ∈ bs)) = true := by simp [c]
      rw [← e]
      exact hR
    · refine dF c ⟨_, rfl, .ref ab, rfl, ab, bs.map V.int, rfl, .inr (hs.tupT tb), rfl, flat_ints bs, _, rfl, ?_⟩
      show R (!inV (.int x) (bs.map V.int)) H'
      rw [inV_ints]
      have e : (decide (x ∈ ts) || !decide (x ∈ bs)) = !decide (x ∈ bs) := by simp [c]
      rw [← e]
      exact hR
  -- [one for one in theirs if one not in base]
  refine ⟨.ref D, rfl, .ref aT, rfl, aT, rfl, ⟨_, s1.tupT tt⟩, fun D2 nD2 => ?_⟩
  refine wk_filt (fun x => !decide (x ∈ bs)) (s1.tupT tt) (by omega) nD2 (fun _ => rfl) (fun _ => rfl) (fun x H' R hs hR => ?_) fun H2 s2 h2 => ?_
  · refine ⟨_, rfl, .ref ab, rfl, ab, bs.map V.int, rfl, .inr (hs.tupT (s1.tupT tb)), rfl, flat_ints bs, _, rfl, ?_⟩
    show R (!inV (.int x) (bs.map V.int)) H'
    rw [inV_ints]
    exact hR
  have h1 : H2 D = some (.lst ((some1 bs ms ts).map V.int)) := s2 _ _ h1
  have h2 : H2 D2 = some (.lst ((some2 bs ts).map V.int)) := h2
  have l1 : (some1 bs ms ts).length ≤ ms.length := List.length_filter_le _ _
  have l2 : (some2 bs ts).length ≤ ts.length := List.length_filter_le _ _
  have b1 : ∀ x ∈ some1 bs ms ts, -1 ≤ x ∧ x ≤ 40 := fun x hx => bm x (List.mem_filter.mp hx).1
  have b2 : ∀ x ∈ some2 bs ts, -1 ≤ x ∧ x ≤ 40 := fun x hx => bt x (List.mem_filter.mp hx).1
  have em : mset bs ms ts = sortU (some1 bs ms ts ++ some2 bs ts) := rfl
  rw [em] at q
  generalize some1 bs ms ts = r1 at h1 l1 b1 q
  generalize some2 bs ts = r2 at h2 l2 b2 q
  have s12 : Same H H2 := s1.trans s2
  -- the tuple of both, the set
  refine ⟨by show 2 ≤ sizeLine; decide, fun U nU => ⟨U, rfl, ⟨_, SqT.of upd_same⟩, fun S nS => ?_⟩⟩
  have sU : Same H2 (upd H2 U (.tup [.ref D, .ref D2])) := same_new nU
  have row : ∀ (i : Nat) (x : V), [V.ref D, V.ref D2][i]? = some x → ∃ (a : Addr) (ns pre : List Int), x = .ref a ∧ H2 a = some (.lst (ns.map V.int)) ∧ ns.length ≤ 400 ∧ (∀ y ∈ ns, -1 ≤ y ∧ y ≤ 40) ∧ (∀ y ∈ pre, -1 ≤ y ∧ y ≤ 40) ∧
      ([r1, r2].take i).flatten = pre ∧ ([r1, r2].take (i + 1)).flatten = pre ++ ns := fun i x hx => by
    match i, hx with
    | 0, hx => exact ⟨D, r1, [], (Option.some.inj hx).symm, h1, by omega, b1, (fun _ z => by cases z), rfl, by simp⟩
    | 1, hx => exact ⟨D2, r2, r1, (Option.some.inj hx).symm, h2, by omega, b2, b1, by simp, by simp⟩
    | i + 2, hx => simp at hx
  let inSet : List Int → HO := fun acc => SetO w S (fun j => decide (j ∈ acc)) (sortU acc).length
  have more : ∀ (acc : List Int) (c : Int), SetO w S (fun j => decide (j ∈ acc) || decide (j = c)) (if decide (c ∈ acc) = true then (sortU acc).length else (sortU acc).length + 1) = inSet (acc ++ [c]) := fun acc c => by
    have e1 : (fun j => decide (j ∈ acc) || decide (j = c)) = fun j => decide (j ∈ acc ++ [c]) := by
      funext j
      simp [List.mem_append]
    have e2 : (if decide (c ∈ acc) = true then (sortU acc).length else (sortU acc).length + 1) = (sortU (acc ++ [c])).length := by
      rw [len_snoc]
      simp
    show _ = SetO w S (fun j => decide (j ∈ acc ++ [c])) (sortU (acc ++ [c])).length
    rw [e1, e2]
  have few : ∀ acc : List Int, (∀ y ∈ acc, -1 ≤ y ∧ y ≤ 40) → (sortU acc).length ≤ 42 := fun acc h => rising_few (rising_sortU acc) fun x hx => h x ((mem_sortU x acc).mp hx)
  refine wk_y 2 (fun i H' => Same (upd H2 U (.tup [.ref D, .ref D2])) H' ∧ H' S = some (inSet ([r1, r2].take i).flatten)) ⟨same_new nS, upd_same⟩ (fun i H' hi hP => ?_) (fun H' hP => ⟨⟨_, SqT.of (hP.1 _ _ upd_same), Nat.le_refl _⟩, ?_⟩) (fun i H' y H3 hi hP hy => ?_)
  · exact ⟨_, _, SqT.of (hP.1 _ _ upd_same), List.getElem?_eq_getElem hi⟩
  · -- sorted(..), tuple(..)
    obtain ⟨hs, hS⟩ := hP
    have eA : ([r1, r2].take 2).flatten = r1 ++ r2 := by simp
    rw [eA] at hS
    have fw := few (r1 ++ r2) fun y hy => (List.mem_append.mp hy).elim (b1 y) (b2 y)
    refine ⟨S, _, _, rfl, hS, by omega, fun ns p rs mem _ np => ?_⟩
    have en : ns = sortU (r1 ++ r2) := sortU_of rs fun z => by
      rw [mem z]
      exact decide_eq_true_iff
    subst en
    refine ⟨p, _, rfl, .inl ⟨SqL.of upd_same, fun l nl => ?_⟩⟩
    refine q _ _ (s12.trans (sU.trans (hs.trans ((same_new np).trans (same_new nl))))) ?_
    exact dp_of_ht (SqT.of upd_same)
  · obtain ⟨hs, hS⟩ := hP
    obtain ⟨rfl, hy⟩ := hy
    have hy := hy _ (SqT.of (hs _ _ upd_same))
    obtain ⟨a, ns, pre, rfl, ha, ln, bn, bp, e0, e1⟩ := row i y hy
    rw [e0] at hS
    rw [e1]
    have ha3 : H3 a = some (.lst (ns.map V.int)) := hs _ _ (sU _ _ ha)
    refine ⟨rfl, .ref a, rfl, a, rfl, ⟨_, SqL.of ha3⟩, ?_⟩
    refine wk_y ns.length (fun j H' => Same (upd H2 U (.tup [.ref D, .ref D2])) H' ∧ H' S = some (inSet (pre ++ ns.take j))) ⟨hs, by rw [List.take_zero, List.append_nil]; exact hS⟩ (fun j H' hj hP => ?_) (fun H' hP => ⟨⟨_, SqL.of (hP.1 _ _ (sU _ _ ha)), by rw [List.length_map]; exact Nat.le_refl _⟩, ?_⟩) (fun j H' z H4 hj hP hz => ?_)
    · exact ⟨_, _, SqL.of (hP.1 _ _ (sU _ _ ha)), map_at hj⟩
    · have h2 := hP.2
      rw [List.take_length] at h2
      exact ⟨hP.1, h2⟩
    · obtain ⟨hs4, hS4⟩ := hP
      obtain ⟨rfl, hz⟩ := hz
      have ez : z = .int ns[j] := Option.some.inj ((hz _ (SqL.of (hs4 _ _ (sU _ _ ha)))).symm.trans (map_at hj))
      subst ez
      have fw := few (pre ++ ns.take j) fun y hy => (List.mem_append.mp hy).elim (bp y) fun h => bn y (List.mem_of_mem_take h)
      refine ⟨rfl, _, rfl, ns[j], _, _, rfl, hS4, ?_, ?_, ?_⟩
      · show (sortU (pre ++ ns.take j)).length + 1 < scanBound
        have : 100 ≤ scanBound := by decide
        omega
      · intro b o e
        rw [upd_ne (ne_of_none e nS)]
        exact hs4 _ _ e
      · rw [upd_same]
        refine congrArg some ((more (pre ++ ns.take j) ns[j]).trans ?_)
        rw [List.append_assoc, take_snoc hj]
end
end FJ

/-! FJf: merged, in_order, both_orders, is_alike. -/
namespace FJ
open PySem PySem.Spec PyProof.Rows L2
theorem cutV_from (xs : List V) (n : Nat) : cutV xs (some (n : Int)) none = xs.drop n := by
  unfold cutV
  rw [HT.sIx_nat, HT.sIx_none]
  rcases Nat.le_total n xs.length with h | h
  · rw [Nat.min_eq_left h, List.take_of_length_le (by rw [List.length_drop]; exact Nat.le_refl _)]
  · rw [Nat.min_eq_right h, List.drop_eq_nil_of_le h, List.drop_length]
    simp
section
variable {P : Program} {w : World} {K : PySem.W.Frag} {mg : Str → Option Value} {base : Heap}

/-! ### merged -/
def spMg (K : PySem.W.Frag) : Sp := fun vs H Q _ => ∃ (vk vb vm vt : V) (k : Kd) (b m t : HV), vs = [vk, vb, vm, vt] ∧ Dp K H vk k.dat ∧ Dp K H vb b.dat ∧ Dp K H vm m.dat ∧ Dp K H vt t.dat ∧ k.depth ≤ 6 ∧ Fits k b ∧ Fits k m ∧ Fits k t ∧
  m.len ≤ 200 ∧ t.len ≤ 100 ∧ ∀ H' r, Same H H' → Dp K H' r (merged k b m t).dat → Q r H'
abbrev nMg : List Str := ["kind", "base", "mine", "theirs"]
theorem sc_mg : FnScope nMg nMg (defScope (topS 10)) := ⟨rfl, rfl, rfl, by decide +kernel, rfl, by decide +kernel, by decide +kernel⟩
theorem ok_mg (T : Txt K mg) : OkD P w K mg base CX0 7 "merged" (topS 10) [] nMg (spMg K) := by
  obtain ⟨fS, dS, aS, GS⟩ := (ok_ms (P := P) (w := w) (base := base) T).mono (k := 6) (by decide)
  have bS : Binds K dS ["base", "mine", "theirs"] [] := aS.F.bindsN fun _ _ _ _ _ _ us hl => match us, hl with | [_, _, _], _ => rfl
  obtain ⟨fR, dR, aR, GR⟩ := ok_rec (P := P) (w := w) (base := base) T 6
  have bR : Binds K dR ["amount", "given"] [] := aR.F.bindsN fun _ _ _ _ _ _ us hl => match us, hl with | [_, _], _ => rfl
  refine okD T.merged sc_mg (fun vs H Q E h => ?_) fun f cdv A outer s H vs Q E hr h => ?_
  · obtain ⟨vk, vb, vm, vt, k, b, m, t, rfl, _⟩ := h
    rfl
  obtain ⟨vk, vb, vm, vt, k, b, m, t, rfl, hk, hb, hm, ht, kd, fb, fm, ft, lm, lt, q⟩ := h
  have hu := units64 hr
  refine ⟨_, pss_cons (ps_if (pt_cmpR (op_eqD hu) (pv 0) pe_str (nomark _)) (pss_one (ps_ret (pv 3))) pss_nil)
    (pss_cons (ps_if (pt_cmpR (op_eqD hu) (pv 0) pe_str (nomark _)) (pss_one (ps_ret (pe_op op_sub (pe_op op_add (pv 2) (pv 3)) (pv 1)))) pss_nil)
    (pss_cons (ps_if (pt_cmpR (op_eqD hu) (pv 0) pe_str (nomark _)) (pss_one (ps_ret (pe_callB (call_max2 rfl) (by rfl) T.z_max (by decide +kernel) (pa_cons (pv 2) (pa_cons (pv 3) pa_nil))))) pss_nil)
    (pss_cons (ps_if (pt_cmpR (op_eqD hu) (pv 0) pe_str (nomark _)) (pss_one (ps_ret (pe_call GS hr (by rfl) aS.g aS.F.kp bS .nil pass0 (pa_cons (pv 1) (pa_cons (pv 2) (pa_cons (pv 3) pa_nil)))))) pss_nil)
    (pss_cons (ps_if (pt_cmpR (op_eqD hu) (pv 0) pe_str (nomark _)) (pss_one (ps_ret (pe_op op_catA (pv 2) (pe_slice sl_tupA (pv 3) (po_some (pe_callB call_len_seq (by rfl) T.z_len (by decide +kernel) (pa_cons (pv 1) pa_nil))) po_none)))) pss_nil)
    (pss_one (ps_ret (pe_call GR hr (by rfl) aR.g aR.F.kp bR .nil pass0 (pa_cons (pe_ix ix_tup (pv 0) pe_int (fun _ _ => rfl)) (pa_cons (pe_disp (pps_cons pe_str (pv 1) (pps_cons pe_str (pv 2) (pps_cons pe_str (pv 3) pps_nil))) (by rfl) (by rfl) (fun z => by cases z) (by decide)) pa_nil))))))))), ?_⟩
  have sk := shaped_kd k (by omega)
  have test : ∀ (x : Str) (A B : Prop), PyData.strOk x = true → (if PyData.eqv k.dat (.str x) = true then A else B) → ∃ d e, Dp K H vk d ∧ Dp K H (.str x) e ∧ SeqAt.shaped d = true ∧ SeqAt.shaped e = true ∧ ∃ c, V.bl (PyData.eqv d e) = .bl c ∧ if c = true then A else B :=
    fun x A B hx h => ⟨_, _, hk, .str x, sk, shaped_str x hx, _, rfl, h⟩
  cases k with
  | plain =>
    refine ⟨_, rfl, test "plain" _ _ (by decide +kernel) (bT ((eqv_kd _ _).trans (by decide +kernel)) ?_)⟩
    exact ⟨vt, rfl, q H vt (Same.refl H) ht⟩
  | sum =>
    refine ⟨_, rfl, test "plain" _ _ (by decide +kernel) (bF ((eqv_kd _ _).trans (by decide +kernel)) ?_)⟩
    refine ⟨_, rfl, test "sum" _ _ (by decide +kernel) (bT ((eqv_kd _ _).trans (by decide +kernel)) ?_)⟩
    cases b with
    | tup _ => exact fb.elim
    | int b =>
    cases m with
    | tup _ => exact fm.elim
    | int m =>
    cases t with
    | tup _ => exact ft.elim
    | int t =>
    rw [dp_hi hb, dp_hi hm, dp_hi ht]
    exact ⟨_, rfl, _, rfl, m, t, rfl, rfl, _, rfl, _, b, rfl, rfl, q H _ (Same.refl H) (.int _)⟩
  | most =>
    refine ⟨_, rfl, test "plain" _ _ (by decide +kernel) (bF ((eqv_kd _ _).trans (by decide +kernel)) ?_)⟩
    refine ⟨_, rfl, test "sum" _ _ (by decide +kernel) (bF ((eqv_kd _ _).trans (by decide +kernel)) ?_)⟩
    refine ⟨_, rfl, test "most" _ _ (by decide +kernel) (bT ((eqv_kd _ _).trans (by decide +kernel)) ?_)⟩
    cases m with
    | tup _ => exact fm.elim
    | int m =>
    cases t with
    | tup _ => exact ft.elim
    | int t =>
    rw [dp_hi hm, dp_hi ht]
    exact ⟨_, rfl, _, rfl, m, t, rfl, q H _ (Same.refl H) (.int _)⟩
  | set =>
    refine ⟨_, rfl, test "plain" _ _ (by decide +kernel) (bF ((eqv_kd _ _).trans (by decide +kernel)) ?_)⟩
    refine ⟨_, rfl, test "sum" _ _ (by decide +kernel) (bF ((eqv_kd _ _).trans (by decide +kernel)) ?_)⟩
    refine ⟨_, rfl, test "most" _ _ (by decide +kernel) (bF ((eqv_kd _ _).trans (by decide +kernel)) ?_)⟩
    refine ⟨_, rfl, test "set" _ _ (by decide +kernel) (bT ((eqv_kd _ _).trans (by decide +kernel)) ?_)⟩
    cases b with
    | int _ => exact fb.elim
    | tup bs =>
    cases m with
    | int _ => exact fm.elim
    | tup ms =>
    cases t with
    | int _ => exact ft.elim
    | tup ts =>
    have lm : ms.length ≤ 200 := lm
    have lt : ts.length ≤ 100 := lt
    exact ⟨_, rfl, _, rfl, _, rfl, vb, vm, vt, bs, ms, ts, rfl, hb, hm, ht, by omega, by omega, fm.2, ft.2, q⟩
  | list =>
    refine ⟨_, rfl, test "plain" _ _ (by decide +kernel) (bF ((eqv_kd _ _).trans (by decide +kernel)) ?_)⟩
    refine ⟨_, rfl, test "sum" _ _ (by decide +kernel) (bF ((eqv_kd _ _).trans (by decide +kernel)) ?_)⟩
    refine ⟨_, rfl, test "most" _ _ (by decide +kernel) (bF ((eqv_kd _ _).trans (by decide +kernel)) ?_)⟩
    refine ⟨_, rfl, test "set" _ _ (by decide +kernel) (bF ((eqv_kd _ _).trans (by decide +kernel)) ?_)⟩
    refine ⟨_, rfl, test "list" _ _ (by decide +kernel) (bT ((eqv_kd _ _).trans (by decide +kernel)) ?_)⟩
    cases b with
    | int _ => exact fb.elim
    | tup bs =>
    cases m with
    | int _ => exact fm.elim
    | tup ms =>
    cases t with
    | int _ => exact ft.elim
    | tup ts =>
    have lm : ms.length ≤ 200 := lm
    have lt : ts.length ≤ 100 := lt
    obtain ⟨ab, rfl, tb⟩ := dp_ht hb
    obtain ⟨am, rfl, tm⟩ := dp_ht hm
    obtain ⟨aT, rfl, tt⟩ := dp_ht ht
    have q : ∀ H' r, Same H H' → Dp K H' r (HV.tup (ms ++ ts.drop bs.length)).dat → Q r H' := q
    -- the sum of both, however its right part came
    have cat : ∀ (H' : Hp) (a2 : Addr), Same H H' → SqT K H' a2 ((ts.drop bs.length).map V.int) → rCatA K (.ref am) (.ref a2) H' Q := fun H' a2 s2 t2 => by
      refine ⟨am, a2, _, _, rfl, rfl, s2.tupT tm, t2, ?_, fun e => ?_, fun _ e => ?_, fun _ _ p np => ?_⟩
      · rw [List.length_map, List.length_map, List.length_drop]
        exact Nat.le_of_lt (small1000 (by omega))
      · have e : ms = [] := List.map_eq_nil_iff.mp e
        subst e
        exact q _ _ s2 (dp_of_ht t2)
      · have e : ts.drop bs.length = [] := List.map_eq_nil_iff.mp e
        refine q _ _ s2 ?_
        rw [e, List.append_nil]
        exact hm.up s2
      · refine q _ _ (s2.trans (same_new np)) (dp_of_ht ?_)
        rw [List.map_append]
        exact SqT.of upd_same
    have len : (((bs.map V.int).length : Nat) : Int) = (bs.length : Int) := by rw [List.length_map]
    have ec : cutV (ts.map V.int) (some (((bs.map V.int).length : Nat) : Int)) none = (ts.drop bs.length).map V.int := by
      rw [cutV_from, List.length_map, List.map_drop]
    refine ⟨_, rfl, .ref aT, rfl, .ref ab, rfl, ab, _, rfl, .inr tb, _, rfl, aT, _, rfl, tt, fun e => ?_, fun _ p np => ?_⟩
    · have e0 : bs.length = 0 ∨ ts = [] := by
        have e1 := e.1
        rw [HT.sIx_nat, List.length_map, List.length_map] at e1
        cases ts with
        | nil => exact .inr rfl
        | cons x r =>
          rw [List.length_cons] at e1
          omega
      have ed : ts.drop bs.length = ts := by
        rcases e0 with z | z
        · rw [z, List.drop_zero]
        · rw [z, List.drop_nil]
      exact cat H aT (Same.refl H) (by rw [ed]; exact tt)
    · exact cat _ p (same_new np) (by rw [← ec]; exact SqT.of upd_same)
  | own sm =>
    refine ⟨_, rfl, test "plain" _ _ (by decide +kernel) (bF rfl ?_)⟩
    refine ⟨_, rfl, test "sum" _ _ (by decide +kernel) (bF rfl ?_)⟩
    refine ⟨_, rfl, test "most" _ _ (by decide +kernel) (bF rfl ?_)⟩
    refine ⟨_, rfl, test "set" _ _ (by decide +kernel) (bF rfl ?_)⟩
    refine ⟨_, rfl, test "list" _ _ (by decide +kernel) (bF rfl ?_)⟩
    cases b with
    | tup _ => exact fb.elim
    | int b =>
    cases m with
    | tup _ => exact fm.elim
    | int m =>
    cases t with
    | tup _ => exact ft.elim
    | int t =>
    rw [dp_hi hb, dp_hi hm, dp_hi ht]
    obtain ⟨a, xs, rfl, tk, hx⟩ := dp_tup (ds := [.str "own", sm.dat]) hk
    obtain ⟨u1, u2, rfl, d1, d2⟩ := dpa_2 hx
    refine ⟨.ref a, rfl, a, _, 1, u2, rfl, rfl, tk, rfl, fun p np => ?_⟩
    refine ⟨_, rfl, _, rfl, _, rfl, upd_same, given b m t, rfl, (by show 3 ≤ 15; decide), ?_⟩
    have s1 : Same H (upd (upd H p (.dK [])) p (.dK (mergeK [] (given b m t)))) := fun x o e => by
      have n : x ≠ p := ne_of_none e np
      rw [upd_ne n, upd_ne n]
      exact e
    have eg : mergeK [] (given b m t) = given b m t := by rfl
    exact ⟨u2, p, sm, b, m, t, rfl, d2.up s1, kd, by rw [upd_same, eg], fun H' s2 => q H' _ (s1.trans s2) (.int _)⟩

/-! ### in_order, both_orders -/
abbrev nIO : List Str := ["kind", "mine", "joins", "has", "base", "theirs"]
def spIO (K : PySem.W.Frag) : Sp := fun vs H Q _ => ∃ (vk vm vj : V) (k : Kd) (m : HV) (p r : Jn), vs = [vk, vm, vj] ∧ Dp K H vk k.dat ∧ Dp K H vm m.dat ∧ Dp K H vj (.tuple [p.dat, r.dat]) ∧ k.depth ≤ 6 ∧ Fits k m ∧ p.Fits k ∧ r.Fits k ∧
  m.len ≤ 100 ∧ p.theirs.len ≤ 80 ∧ r.theirs.len ≤ 80 ∧ ∀ H' x, Same H H' → Dp K H' x (two k m p r).dat → Q x H'
theorem sc_io : FnScope nIO ["kind", "mine", "joins"] (defScope (topS 15)) := ⟨rfl, rfl, rfl, by decide +kernel, rfl, by decide +kernel, by decide +kernel⟩
theorem ok_io (T : Txt K mg) : OkD P w K mg base CX0 8 "in_order" (topS 15) [] ["kind", "mine", "joins"] (spIO K) := by
  obtain ⟨fM, dM, aM, GM⟩ := ok_mg (P := P) (w := w) (base := base) T
  have bM : KBn K dM nMg 1 ["base", "mine", "theirs"] (· ++ ·) (· ++ ·) := kb_all aM.F fun _ _ _ _ _ _ us ws h1 h2 => match us, ws, h1, h2 with | [_], [_, _, _], _, _ => rfl
  refine okD T.in_order sc_io (fun vs H Q E h => ?_) fun f cdv A outer s H vs Q E hr h => ?_
  · obtain ⟨vk, vm, vj, k, m, p, r, rfl, _⟩ := h
    rfl
  obtain ⟨vk, vm, vj, k, m, p, r, rfl, hk, hm, hj, kd, fm, fp, fr, lm, lp, lr, q⟩ := h
  refine ⟨_, pss_cons (ps_set (i := 3) sc_io.nd rfl (.inl rfl) (pv 1))
    (pss_cons (ps_for PassesOwn.never rfl (pi_tup (pv 2)) (pg_tup rfl (pgs_cons (pg_name (i := 4) sc_io.nd rfl (.inl rfl)) (pgs_cons (pg_name (i := 5) sc_io.nd rfl (.inl rfl)) pgs_nil)))
      (pss_one (ps_set (i := 3) sc_io.nd rfl (.inl rfl) (pe_callN GM hr (by rfl) aM.g aM.F.kp bM pass0 (pa_cons (pv 0) pa_nil) (pk_cons (pv 4) (pk_cons (pv 3) (pk_cons (pv 5) pk_nil)))))))
    (pss_one (ps_ret (pv 3)))), ?_⟩
  obtain ⟨aj, xs, rfl, tj, hx⟩ := dp_tup hj
  obtain ⟨v1, v2, rfl, d1, d2⟩ := dpa_2 hx
  refine ⟨vm, rfl, .ref aj, rfl, aj, rfl, ⟨_, tj⟩, ?_⟩
  let res : Nat → HV := fun i => match i with
    | 0 => m
    | 1 => merged k p.base m p.theirs
    | _ => two k m p r
  refine for_tup (K := K) (a := aj) (xs := [v1, v2]) (fun i σ H' => ∃ vh y4 y5, σ = [some vk, some vm, some (.ref aj), some vh, y4, y5] ∧ Same H H' ∧ Dp K H' vh (res i).dat) ⟨vm, none, none, rfl, Same.refl H, hm⟩ (fun i σ H' hi hP => ?_) (fun i x σ H' hx hP => ?_) (fun σ H' hP => ?_)
  · obtain ⟨vh, y4, y5, _, s1, _⟩ := hP
    exact s1.tupT tj
  · obtain ⟨vh, y4, y5, rfl, s1, dh⟩ := hP
    -- one turn, by the join and what was had
    have turn : ∀ (jn' : Jn) (h0 : HV), Dp K H x jn'.dat → res i = h0 → Fits k h0 → jn'.Fits k → h0.len ≤ 180 → jn'.theirs.len ≤ 80 → res (i + 1) = merged k jn'.base h0 jn'.theirs →
        gTup K 2 (gCons (gName 4) (gCons (gName 5) gNil)) x [some vk, some vm, some (.ref aj), some vh, y4, y5] H' fun σ2 H2 => tAsg (tCallN 1 3 (spMg K) (· ++ ·) E0 (tCons (tVar 0) tNil) (tCons (tVar 4) (tCons (tVar 3) (tCons (tVar 5) tNil)))) (gName 3)
          { nx := fun σ H' => ∃ vh y4 y5, σ = [some vk, some vm, some (.ref aj), some vh, y4, y5] ∧ Same H H' ∧ Dp K H' vh (res (i + 1)).dat, rt := Q, ct := fun σ H' => ∃ vh y4 y5, σ = [some vk, some vm, some (.ref aj), some vh, y4, y5] ∧ Same H H' ∧ Dp K H' vh (res (i + 1)).dat, bk := fun σ H' => tRet (tVar 3) { nx := fun _ H' => Q .non H', rt := Q } σ H' } σ2 H2 := fun jn' h0 dx e0 f0 fj l0 lj e1 => by
      obtain ⟨a2, ys, rfl, t2, hy⟩ := dp_tup (ds := [jn'.base.dat, jn'.theirs.dat]) dx
      obtain ⟨w1, w2, rfl, g1, g2⟩ := dpa_2 hy
      refine ⟨a2, [w1, w2], rfl, s1.tupT t2, rfl, w1, [w2], rfl, w2, [], rfl, rfl, ?_⟩
      rw [e0] at dh
      refine ⟨_, rfl, _, rfl, _, rfl, _, rfl, rfl, rfl, vk, w1, vh, w2, k, jn'.base, h0, jn'.theirs, rfl, hk.up s1, g1.up s1, dh, g2.up s1, kd, fj.1, f0, fj.2, by omega, by omega, fun H2 x2 s2 dx2 => ?_⟩
      refine ⟨x2, _, _, rfl, s1.trans s2, ?_⟩
      rw [e1]
      exact dx2
    match i, hx with
    | 0, hx =>
      have e : v1 = x := Option.some.inj hx
      subst e
      exact turn p m d1 rfl fm fp (by omega) lp rfl
    | 1, hx =>
      have e : v2 = x := Option.some.inj hx
      subst e
      have := len_merged k p.base m p.theirs
      exact turn r (merged k p.base m p.theirs) d2 rfl (fits_merged fp.1 fm fp.2) fr (by omega) lr rfl
    | i + 2, hx => simp at hx
  · obtain ⟨vh, y4, y5, rfl, s1, dh⟩ := hP
    exact ⟨vh, rfl, q H' vh s1 dh⟩

abbrev nBO : List Str := ["kind", "mine", "one", "other"]
def spBO (K : PySem.W.Frag) : Sp := fun vs H Q _ => ∃ (vk vm v1 v2 : V) (k : Kd) (m : HV) (p r : Jn), vs = [vk, vm, v1, v2] ∧ Dp K H vk k.dat ∧ Dp K H vm m.dat ∧ Dp K H v1 p.dat ∧ Dp K H v2 r.dat ∧ k.depth ≤ 6 ∧ Fits k m ∧ p.Fits k ∧ r.Fits k ∧
  m.len ≤ 100 ∧ p.theirs.len ≤ 80 ∧ r.theirs.len ≤ 80 ∧ ∀ H' x, Same H H' → Dp K H' x (.tuple [(two k m p r).dat, (two k m r p).dat]) → Q x H'
theorem sc_bo : FnScope nBO nBO (defScope (topS 16)) := ⟨rfl, rfl, rfl, by decide +kernel, rfl, by decide +kernel, by decide +kernel⟩
theorem ok_bo (T : Txt K mg) : OkD P w K mg base CX0 9 "both_orders" (topS 16) [] nBO (spBO K) := by
  obtain ⟨fM, dM, aM, GM⟩ := ok_io (P := P) (w := w) (base := base) T
  have bM : KBn K dM ["kind", "mine", "joins"] 1 ["mine", "joins"] (· ++ ·) (· ++ ·) := kb_all aM.F fun _ _ _ _ _ _ us ws h1 h2 => match us, ws, h1, h2 with | [_], [_, _], _, _ => rfl
  refine okD T.both_orders sc_bo (fun vs H Q E h => ?_) fun f cdv A outer s H vs Q E hr h => ?_
  · obtain ⟨vk, vm, v1, v2, k, m, p, r, rfl, _⟩ := h
    rfl
  obtain ⟨vk, vm, v1, v2, k, m, p, r, rfl, hk, hm, h1, h2, kd, fm, fp, fr, lm, lp, lr, q⟩ := h
  refine ⟨_, pss_one (ps_ret (pe_tup (pa_cons (pe_callN GM hr (by rfl) aM.g aM.F.kp bM pass0 (pa_cons (pv 0) pa_nil) (pk_cons (pv 1) (pk_cons (pe_tup (pa_cons (pv 2) (pa_cons (pv 3) pa_nil))) pk_nil)))
    (pa_cons (pe_callN GM hr (by rfl) aM.g aM.F.kp bM pass0 (pa_cons (pv 0) pa_nil) (pk_cons (pv 1) (pk_cons (pe_tup (pa_cons (pv 3) (pa_cons (pv 2) pa_nil))) pk_nil))) pa_nil)))), ?_⟩
  refine ⟨_, rfl, _, rfl, _, rfl, _, rfl, (by show 2 ≤ sizeLine; decide), fun t nt => ?_⟩
  have s1 : Same H (upd H t (.tup [v1, v2])) := same_new nt
  refine ⟨rfl, rfl, vk, vm, .ref t, k, m, p, r, rfl, hk.up s1, hm.up s1, dp_new nt (.cons h1 (.cons h2 .nil)), kd, fm, fp, fr, lm, lp, lr, fun H2 x2 s2 d2 => ?_⟩
  have s12 := s1.trans s2
  refine ⟨_, rfl, _, rfl, _, rfl, _, rfl, (by show 2 ≤ sizeLine; decide), fun u nu => ?_⟩
  have s3 : Same H2 (upd H2 u (.tup [v2, v1])) := same_new nu
  refine ⟨rfl, rfl, vk, vm, .ref u, k, m, r, p, rfl, hk.up (s12.trans s3), hm.up (s12.trans s3), dp_new nu (.cons (h2.up s12) (.cons (h1.up s12) .nil)), kd, fm, fr, fp, lm, lr, lp, fun H4 x4 s4 d4 => ?_⟩
  refine ⟨(by show 2 ≤ sizeLine; decide), fun z nz => ?_⟩
  exact q _ _ (s12.trans (s3.trans (s4.trans (same_new nz)))) (dp_new nz (.cons (d2.up (s3.trans s4)) (.cons d4 .nil)))

/-! ### is_alike -/
abbrev nAl : List Str := ["numbers", "same_base", "a", "b", "c", "d"]
def spAl (K : PySem.W.Frag) : Sp := fun vs H Q _ => ∃ (vn : V) (n : N4) (same : Bool), vs = [vn, .bl same] ∧ Dp K H vn n.dat ∧ Q (.bl (isAlike n same)) H
theorem sc_al : FnScope nAl ["numbers", "same_base"] (defScope (topS 17)) := ⟨rfl, rfl, rfl, by decide +kernel, rfl, by decide +kernel, by decide +kernel⟩
theorem ok_al (T : Txt K mg) : OkD P w K mg base CX0 1 "is_alike" (topS 17) [] ["numbers", "same_base"] (spAl K) := by
  refine okD T.is_alike sc_al (fun vs H Q E h => ?_) fun f cdv A outer s H vs Q E hr h => ?_
  · obtain ⟨vn, n, same, rfl, _⟩ := h
    rfl
  obtain ⟨vn, n, same, rfl, hn, q⟩ := h
  refine ⟨_, pss_cons (ps_asg (pv 0) (pg_tup rfl (pgs_cons (pg_name (i := 2) sc_al.nd rfl (.inl rfl)) (pgs_cons (pg_name (i := 3) sc_al.nd rfl (.inl rfl)) (pgs_cons (pg_name (i := 4) sc_al.nd rfl (.inl rfl)) (pgs_cons (pg_name (i := 5) sc_al.nd rfl (.inl rfl)) pgs_nil))))))
    (pss_one (ps_ret (pe_or (pe_cmpR op_eq (pv 3) pe_int (nomark _)) (pe_one (pe_and (pe_cmpR op_eq (pv 4) pe_int (nomark _)) (pe_one (pe_or (pe_cmpR op_eq (pv 2) pe_int (nomark _)) (pe_one (pv 1))))))))), ?_⟩
  obtain ⟨a, rfl, ta⟩ := dp_ht (ns := [n.1, n.2.1, n.2.2.1, n.2.2.2]) hn
  refine ⟨.ref a, rfl, a, _, rfl, ta, rfl, _, _, rfl, _, _, rfl, _, _, rfl, _, _, rfl, rfl, ?_⟩
  have e : ∀ x y : Int, decide (V.int x = V.int y) = decide (x = y) := fun x y => by
    by_cases h : x = y <;> simp [h]
  have eq : isAlike n same = (decide (n.2.1 = 1) || (decide (n.2.2.1 = 0) && (decide (n.1 = 0) || same))) := rfl
  rw [eq] at q
  refine ⟨_, rfl, rfl, _, rfl, ?_⟩
  rw [e]
  by_cases h1 : n.2.1 = 1
  · refine dT h1 ?_
    rw [decide_eq_true h1, Bool.true_or] at q
    exact q
  refine dF h1 ⟨_, rfl, rfl, _, rfl, ?_⟩
  rw [decide_eq_false h1, Bool.false_or] at q
  rw [e]
  by_cases h2 : n.2.2.1 = 0
  · rw [decide_eq_true h2, Bool.true_and] at q
    refine dT h2 ⟨_, rfl, rfl, _, rfl, ?_⟩
    rw [e]
    by_cases h3 : n.1 = 0
    · rw [decide_eq_true h3, Bool.true_or] at q
      exact dT h3 q
    · rw [decide_eq_false h3, Bool.false_or] at q
      exact dF h3 ⟨_, rfl, q⟩
  · rw [decide_eq_false h2, Bool.false_and] at q
    exact dF h2 q
end
end FJ

/-! FJg: lists of data that a comprehension fills; all_parts. -/
namespace FJ
open PySem PySem.Spec PyProof.Rows L2

/-! ### a list that is being filled with data -/
def cut (D : Addr) (H : Hp) : Hp := fun b => if b = D then none else H b
theorem cut_ne {D b : Addr} {H : Hp} (h : b ≠ D) : cut D H b = H b := if_neg h
theorem cut_same {D : Addr} {H : Hp} : cut D H D = none := if_pos rfl
theorem cut_upd {D : Addr} {H : Hp} {o : HO} : cut D (upd H D o) = cut D H := by
  funext b
  unfold cut upd
  by_cases h : b = D <;> simp [h]
theorem cut_up {D : Addr} {H H' : Hp} (e : Same H H') : Same (cut D H) (cut D H') := fun b o q => by
  by_cases h : b = D
  · rw [h, cut_same] at q
    cases q
  · rw [cut_ne h] at q ⊢
    exact e _ _ q
theorem cut_to {D : Addr} {H : Hp} : Same (cut D H) H := fun b o q => by
  by_cases h : b = D
  · rw [h, cut_same] at q
    cases q
  · rw [cut_ne h] at q
    exact q
theorem to_cut {D : Addr} {H H' : Hp} (n : H D = none) (e : Same H H') : Same H (cut D H') := fun b o q => by
  rw [cut_ne (ne_of_none q n)]
  exact e _ _ q
/-- at D: a list of ds; all else that H had stands -/
structure LInv (K : PySem.W.Frag) (H : Hp) (D : Addr) (ds : List PyData) (H' : Hp) : Prop where
  new : H D = none
  same : Same H H'
  lst : ∃ acc, H' D = some (.lst acc) ∧ DpAll K (cut D H') acc ds
section
variable {K : PySem.W.Frag} {H H' H2 : Hp} {D : Addr} {ds : List PyData} {d : PyData} {v : V}
theorem LInv.init (n : H D = none) : LInv K H D [] (upd H D (.lst [])) := ⟨n, same_new n, [], upd_same, .nil⟩
theorem LInv.push (h : LInv K H D ds H') (e : Same H' H2) (hv : Dp K (cut D H2) v d) : ∃ acc, H2 D = some (.lst acc) ∧ acc.length = ds.length ∧ LInv K H D (ds ++ [d]) (upd H2 D (.lst (acc ++ [v]))) := by
  obtain ⟨acc, hD, ha⟩ := h.lst
  refine ⟨acc, e _ _ hD, dpa_len ha, h.new, fun b o q => ?_, acc ++ [v], upd_same, ?_⟩
  · rw [upd_ne (ne_of_none q h.new)]
    exact e _ _ (h.same _ _ q)
  · rw [cut_upd]
    exact dpa_snoc (ha.up (cut_up e)) hv
theorem LInv.at (h : LInv K H D ds H') : ∃ xs, H' D = some (.lst xs) ∧ DpAll K H' xs ds := by
  obtain ⟨acc, hD, ha⟩ := h.lst
  exact ⟨acc, hD, ha.up cut_to⟩
end
theorem flat_snoc {α β : Type} {l : List α} {i : Nat} (F : α → List β) (h : i < l.length) : (l.take (i + 1)).flatMap F = (l.take i).flatMap F ++ F l[i] := by
  rw [take_snoc h, List.flatMap_append]
  simp
theorem mapt_snoc {α β : Type} {l : List α} {i : Nat} (F : α → β) (h : i < l.length) : (l.take (i + 1)).map F = (l.take i).map F ++ [F l[i]] := by
  rw [take_snoc h, List.map_append]
  rfl
theorem filtm_snoc {α β : Type} {l : List α} {i : Nat} (p : α → Bool) (F : α → β) (h : i < l.length) : ((l.take (i + 1)).filter p).map F = ((l.take i).filter p).map F ++ (if p l[i] = true then [F l[i]] else []) := by
  rw [take_snoc h, List.filter_append, List.map_append]
  by_cases c : p l[i] = true
  · simp [c]
  · simp [c]
theorem flat_le {α β : Type} (l : List α) (i : Nat) (F : α → List β) : ((l.take i).flatMap F).length ≤ (l.flatMap F).length := by
  have e : l.flatMap F = (l.take i).flatMap F ++ (l.drop i).flatMap F := by
    rw [← List.flatMap_append, List.take_append_drop]
  rw [e, List.length_append]
  exact Nat.le_add_right _ _
theorem flat_le1 {α β : Type} (l : List α) {i : Nat} (F : α → List β) (h : i < l.length) : ((l.take i).flatMap F).length + (F l[i]).length ≤ (l.flatMap F).length := by
  have := flat_le l (i + 1) F
  rw [flat_snoc F h, List.length_append] at this
  exact this
/-- a small tuple of ints, new -/
theorem dp_cut_tup {K : PySem.W.Frag} {D p : Addr} {H : Hp} {xs : List V} {ds : List PyData} (hD : ∃ o, H D = some o) (np : H p = none) (h : DpAll K (cut D H) xs ds) : Dp K (cut D (upd H p (.tup xs))) (.ref p) (.tuple ds) := by
  obtain ⟨o, hD⟩ := hD
  refine .tup (SqT.of ?_) (h.up (cut_up (same_new np)))
  rw [cut_ne (Ne.symm (ne_of_none hD np)), upd_same]

/-! ### the lengths -/
theorem few_parts : ∀ (r : Nat) (same : Bool), r ≤ 2 → (allParts r same).length ≤ 4000 ∧ (joins r same).length ≤ 4000 ∧ (bases r same).length ≤ 4000 := fun r same h => by
  match r, h with
  | 0, _ => cases same <;> decide +kernel
  | 1, _ => cases same <;> decide +kernel
  | 2, _ => cases same <;> decide +kernel
def pairD (p : Int × Int) : PyData := .tuple [.int p.1, .int p.2]
def joinD (j : (Int × Int) × (Int × Int)) : PyData := .tuple [pairD j.1, pairD j.2]
def partD (p : Part) : PyData := .tuple [.int p.1, pairD p.2.1, pairD p.2.2]
theorem rng_is (r : Nat) : rgV (-(r : Int)) ((r : Int) + 1) = (rngI r).map V.int := by
  unfold rgV rngI
  rw [List.map_map]
  have e : ((r : Int) + 1 - -(r : Int)).toNat = 2 * r + 1 := by omega
  rw [e]
  rfl
section
variable {P : Program} {w : World} {K : PySem.W.Frag} {mg : Str → Option Value} {base : Heap}
abbrev nAP : List Str := ["reach", "same_base", "some", "bases", "joins", "one", "other", "low", "high", "here", "there", "mine"]
theorem sc_ap : FnScope nAP ["reach", "same_base"] (defScope (topS 18)) := ⟨rfl, rfl, rfl, by decide +kernel, rfl, by decide +kernel, by decide +kernel⟩
def spAP (K : PySem.W.Frag) : Sp := fun vs H Q _ => ∃ (r : Nat) (same : Bool), vs = [.int r, .bl same] ∧ r ≤ 2 ∧ ∀ H' p xs, Same H H' → H' p = some (.lst xs) → DpAll K H' xs ((allParts r same).map partD) → Q (.ref p) H'
theorem ok_ap (T : Txt K mg) : OkD P w K mg base CX0 1 "all_parts" (topS 18) [] ["reach", "same_base"] (spAP K) := by
  refine okD T.all_parts sc_ap (fun vs H Q E h => ?_) fun f cdv A outer s H vs Q E hr h => ?_
  · obtain ⟨r, same, rfl, _⟩ := h
    rfl
  obtain ⟨r, same, rfl, hr2, q⟩ := h
  have B : ∀ {sc : Scope} {own : List (Str × Nat)}, blkC nAP (defScope (topS 18)) sc own = true → BlkOk nAP (defScope (topS 18)) sc own := fun h => blkOk_by h
  refine ⟨_, pss_cons (ps_set (i := 2) sc_ap.nd rfl (.inr rfl) (pe_listRg rfl (by rfl) T.z_list (prg_2 (by rfl) T.z_range (pe_un un_neg (pv 0)) (pe_op op_add (pv 0) pe_int))))
    (pss_cons (ps_l2 (i := 3) (own := [("one", 5), ("other", 6)]) (v2 := [6]) (w2 := iList K (tVar 2)) (tt2 := tOr (tTest (tOp rEq (tVar 5) (tVar 6))) (tNot (tB (tVar 1)))) rfl rfl (sw_true rfl rfl rfl (by decide +kernel)) rfl sc_ap.nd (pi_list (pv 2)) (B (by decide +kernel)) (by simp)
      (fun _ _ _ _ _ => pg_name (i := 5) sc_ap.nd rfl (Or.inl rfl)) (fun _ _ _ _ _ => pts_nil) (fun _ _ _ _ _ => pi_list (pv 2)) (fun _ _ _ _ _ => pg_name (i := 6) sc_ap.nd rfl (Or.inl rfl))
      (fun _ _ _ _ _ => pts_one (PW.pt (pw_or (pt_cmpR op_eq (pv 5) (pv 6) (nomark _)) (pw_or1 (pt_not (pt_val (pv 1))))))) (fun _ _ _ _ _ => pe_tup (pa_cons (pv 5) (pa_cons (pv 6) pa_nil))))
    (pss_cons (ps_set (i := 4) sc_ap.nd rfl (.inr rfl) (pe_l3 (own := [("low", 7), ("high", 8), ("here", 9), ("there", 10)]) (v2 := [9, 10]) (v3 := [10]) (g1 := gTup K 2 (gCons (gName 7) (gCons (gName 8) gNil))) (w2 := iList K (tVar 2)) (w3 := iList K (tVar 2)) rfl sc_ap.nd (pi_list (pv 3)) (B (by decide +kernel)) (by simp) (by simp)
      (fun _ _ _ _ _ => pg_tup rfl (pgs_cons (pg_name (i := 7) sc_ap.nd rfl (Or.inl rfl)) (pgs_cons (pg_name (i := 8) sc_ap.nd rfl (Or.inl rfl)) pgs_nil))) (fun _ _ _ _ _ => pts_nil) (fun _ _ _ _ _ => pi_list (pv 2)) (fun _ _ _ _ _ => pg_name (i := 9) sc_ap.nd rfl (Or.inl rfl)) (fun _ _ _ _ _ => pts_nil)
      (fun _ _ _ _ _ => pi_list (pv 2)) (fun _ _ _ _ _ => pg_name (i := 10) sc_ap.nd rfl (Or.inl rfl)) (fun _ _ _ _ _ => pts_nil)
      (fun _ _ _ _ _ => pe_tup (pa_cons (pe_tup (pa_cons (pv 7) (pa_cons (pv 9) pa_nil))) (pa_cons (pe_tup (pa_cons (pv 8) (pa_cons (pv 10) pa_nil))) pa_nil)))))
    (pss_one (ps_ret (pe_l2 (own := [("mine", 11), ("one", 5), ("other", 6)]) (v2 := [5, 6]) (w2 := iList K (tVar 4)) (g2 := gTup K 2 (gCons (gName 5) (gCons (gName 6) gNil))) rfl sc_ap.nd (pi_list (pv 2)) (B (by decide +kernel)) (by simp)
      (fun _ _ _ _ _ => pg_name (i := 11) sc_ap.nd rfl (Or.inl rfl)) (fun _ _ _ _ _ => pts_nil) (fun _ _ _ _ _ => pi_list (pv 4)) (fun _ _ _ _ _ => pg_tup rfl (pgs_cons (pg_name (i := 5) sc_ap.nd rfl (Or.inl rfl)) (pgs_cons (pg_name (i := 6) sc_ap.nd rfl (Or.inl rfl)) pgs_nil))) (fun _ _ _ _ _ => pts_nil)
      (fun _ _ _ _ _ => pe_tup (pa_cons (pv 11) (pa_cons (pv 5) (pa_cons (pv 6) pa_nil))))))))), ?_⟩
  refine ⟨.int r, rfl, r, rfl, .int r, rfl, r, 1, rfl, rfl, -r, r + 1, rfl, rfl, ⟨by omega, by omega, by omega, by omega, by omega⟩, fun a na => ?_⟩
  rw [rng_is]
  have hm := few_parts r same hr2
  have lR : (rngI r).length ≤ 5 := by
    unfold rngI
    rw [List.length_map, List.length_range]
    omega
  have s1 : Same H (upd H a (.lst ((rngI r).map V.int))) := same_new na
  have tS : (upd H a (.lst ((rngI r).map V.int))) a = some (.lst ((rngI r).map V.int)) := upd_same
  generalize upd H a (.lst ((rngI r).map V.int)) = H1 at s1 tS
  have bnd : ∀ {n : Nat}, n ≤ 4000 → n < sizeLine := fun h => Nat.lt_of_le_of_lt h (by decide)
  -- bases
  let F1 : Int → List (Int × Int) := fun x => ((rngI r).filter fun y => decide (x = y) || !same).map fun y => (x, y)
  have eB : bases r same = (rngI r).flatMap F1 := rfl
  refine ⟨.ref a, rfl, a, rfl, ⟨_, SqL.of tS⟩, fun D1 nD1 => ?_⟩
  refine wk_intsy (ns := rngI r) (fun x => [some (.int r), some (.bl same), some (.ref a), none, none, some (.int x), none, none, none, none, none, none]) (fun i H' => LInv K H1 D1 ((((rngI r).take i).flatMap F1).map pairD) H') (LInv.init nD1) (fun i H' p => SqL.of (p.same _ _ tS)) (fun H2 hB => ?_) (fun i H' hi p => ?_)
  rotate_left
  · -- one turn of the first clause
    have hl := flat_le1 (rngI r) F1 hi
    rw [← eB] at hl
    refine ⟨.ref a, rfl, a, rfl, ⟨_, SqL.of (p.same _ _ tS)⟩, ?_⟩
    rw [flat_snoc F1 hi, List.map_append]
    have lp : ((((rngI r).take i).flatMap F1).map pairD).length + (F1 (rngI r)[i]).length ≤ 4000 := by
      rw [List.length_map]
      omega
    generalize ((((rngI r).take i).flatMap F1).map pairD) = pre at p lp
    generalize (rngI r)[i] = x at lp
    let pX : Int → Bool := fun y => decide (x = y) || !same
    have lF : ∀ j, (((rngI r).take j).filter pX).length ≤ (F1 x).length := fun j => by
      show _ ≤ (((rngI r).filter pX).map fun y => (x, y)).length
      rw [List.length_map]
      exact ((List.take_sublist j (rngI r)).filter pX).length_le
    refine wk_ints (ns := rngI r) (fun y => [some (.int r), some (.bl same), some (.ref a), none, none, some (.int x), some (.int y), none, none, none, none, none]) (fun j H' => LInv K H1 D1 (pre ++ ((((rngI r).take j).filter pX).map fun y => (x, y)).map pairD) H') (by simpa using p) (fun j H' p => SqL.of (p.same _ _ tS)) (fun H2 p2 => ?_) (fun j H' hj p2 => ?_)
    · rw [List.take_length] at p2
      exact p2
    · have ef := filtm_snoc pX (fun y => (x, y)) hj
      rw [ef, List.map_append, ← List.append_assoc]
      have lj := lF j
      have l0 : (pre ++ ((((rngI r).take j).filter pX).map fun y => (x, y)).map pairD).length ≤ 4000 := by
        rw [List.length_append, List.length_map, List.length_map]
        omega
      generalize pre ++ ((((rngI r).take j).filter pX).map fun y => (x, y)).map pairD = all at p2 l0
      generalize (rngI r)[j] = y
      have add : pX y = true → bL D1 (tTup (tCons (tVar 5) (tCons (tVar 6) tNil))) [some (.int r), some (.bl same), some (.ref a), none, none, some (.int x), some (.int y), none, none, none, none, none] H' (LInv K H1 D1 (all ++ (if pX y = true then [(x, y)] else []).map pairD)) := fun hp => by
        refine ⟨_, rfl, _, rfl, (by show 2 ≤ sizeLine; decide), fun t nt => ?_⟩
        obtain ⟨acc, hD, hl, hI⟩ := p2.push (same_new nt) (dp_cut_tup (let ⟨acc, h, _⟩ := p2.lst; ⟨_, h⟩) nt (.cons (.int x) (.cons (.int y) .nil)))
        rw [if_pos hp]
        exact ⟨acc, hD, bnd (by omega), hI⟩
      have non : pX y = false → LInv K H1 D1 (all ++ (if pX y = true then [(x, y)] else []).map pairD) H' := fun hp => by
        rw [hp, if_neg Bool.false_ne_true]
        simpa using p2
      refine ⟨_, rfl, _, rfl, rfl, _, rfl, ?_⟩
      by_cases c : x = y
      · exact dT (by rw [c]) (add (by show (decide (x = y) || !same) = true; rw [decide_eq_true c]; rfl))
      · refine dF (fun z => c (V.int.inj z)) ⟨_, rfl, same, rfl, ?_⟩
        have e0 : pX y = !same := by
          show (decide (x = y) || !same) = !same
          rw [decide_eq_false c]
          rfl
        cases same with
        | true => exact non e0
        | false => exact add e0
  rw [List.take_length, ← eB] at hB
  obtain ⟨xB, hD1, dB⟩ := hB.at
  have lB : xB.length = (bases r same).length := by rw [dpa_len dB, List.length_map]
  have tS2 := hB.same _ _ tS
  have s2 := s1.trans hB.same
  clear hB
  -- joins
  let F2 : Int × Int → List ((Int × Int) × (Int × Int)) := fun lh => (rngI r).flatMap fun x => (rngI r).map fun y => ((lh.1, x), (lh.2, y))
  have eJ : joins r same = (bases r same).flatMap F2 := rfl
  refine ⟨.ref D1, rfl, D1, rfl, ⟨_, SqL.of hD1⟩, fun D2 nD2 => ?_⟩
  refine wk_prs (xs := xB) (fun v w => [some (.int r), some (.bl same), some (.ref a), some (.ref D1), none, none, none, some v, some w, none, none, none]) (fun i H' => LInv K H2 D2 ((((bases r same).take i).flatMap F2).map joinD) H') (LInv.init nD2) (fun i H' p => SqL.of (p.same _ _ hD1)) (fun H3 hJ => ?_) (fun i H' hi p => ?_)
  rotate_left
  · have hi' : i < (bases r same).length := by omega
    have hl := flat_le1 (bases r same) F2 hi'
    rw [← eJ] at hl
    obtain ⟨d, e1, dd⟩ := dpa_get (dB.up p.same) (List.getElem?_eq_getElem hi)
    rw [List.getElem?_map, List.getElem?_eq_getElem hi'] at e1
    have e1 : pairD (bases r same)[i] = d := Option.some.inj e1
    subst e1
    rw [flat_snoc F2 hi', List.map_append]
    have lp : ((((bases r same).take i).flatMap F2).map joinD).length + (F2 (bases r same)[i]).length ≤ 4000 := by
      rw [List.length_map]
      omega
    generalize ((((bases r same).take i).flatMap F2).map joinD) = pre at p lp
    generalize (bases r same)[i] = lh at lp dd
    obtain ⟨aP, eP, tP⟩ := dp_ht (ns := [lh.1, lh.2]) dd
    refine ⟨aP, _, _, eP, tP, ?_⟩
    let G : Int → List ((Int × Int) × (Int × Int)) := fun x => (rngI r).map fun y => ((lh.1, x), (lh.2, y))
    refine ⟨.ref a, rfl, a, rfl, ⟨_, SqL.of (p.same _ _ tS2)⟩, ?_⟩
    refine wk_intsy (ns := rngI r) (fun x => [some (.int r), some (.bl same), some (.ref a), some (.ref D1), none, none, none, some (.int lh.1), some (.int lh.2), some (.int x), none, none]) (fun j H' => LInv K H2 D2 (pre ++ (((rngI r).take j).flatMap G).map joinD) H') (by simpa using p) (fun j H' p => SqL.of (p.same _ _ tS2)) (fun H3 p2 => by rw [List.take_length] at p2; exact p2) (fun j H3 hj p2 => ?_)
    have hl2 := flat_le1 (rngI r) G hj
    rw [flat_snoc G hj, List.map_append, ← List.append_assoc]
    have lp2 : (pre ++ (((rngI r).take j).flatMap G).map joinD).length + (rngI r).length ≤ 4000 := by
      have e0 : (G (rngI r)[j]).length = (rngI r).length := List.length_map _
      have e2 : (F2 lh).length = ((rngI r).flatMap G).length := rfl
      rw [List.length_append, List.length_map]
      omega
    generalize pre ++ (((rngI r).take j).flatMap G).map joinD = pre2 at p2 lp2
    generalize (rngI r)[j] = x
    refine ⟨.ref a, rfl, a, rfl, ⟨_, SqL.of (p2.same _ _ tS2)⟩, ?_⟩
    refine wk_intsy (ns := rngI r) (fun y => [some (.int r), some (.bl same), some (.ref a), some (.ref D1), none, none, none, some (.int lh.1), some (.int lh.2), some (.int x), some (.int y), none]) (fun k H' => LInv K H2 D2 (pre2 ++ (((rngI r).take k).map fun y => ((lh.1, x), (lh.2, y))).map joinD) H') (by simpa using p2) (fun k H' p => SqL.of (p.same _ _ tS2)) (fun H3 p3 => by rw [List.take_length] at p3; exact p3) (fun k H4 hk p3 => ?_)
    rw [mapt_snoc (fun y => ((lh.1, x), (lh.2, y))) hk, List.map_append, ← List.append_assoc]
    have lp3 : (pre2 ++ (((rngI r).take k).map fun y => ((lh.1, x), (lh.2, y))).map joinD).length ≤ 4000 := by
      rw [List.length_append, List.length_map, List.length_map, List.length_take]
      omega
    generalize pre2 ++ (((rngI r).take k).map fun y => ((lh.1, x), (lh.2, y))).map joinD = all at p3 lp3
    generalize (rngI r)[k] = y
    refine ⟨_, rfl, _, rfl, (by show 2 ≤ sizeLine; decide), fun t1 n1 => ?_⟩
    refine ⟨_, rfl, _, rfl, (by show 2 ≤ sizeLine; decide), fun t2 n2 => ?_⟩
    refine ⟨(by show 2 ≤ sizeLine; decide), fun t3 n3 => ?_⟩
    obtain ⟨acc0, hD0, _⟩ := p3.lst
    have d1 : Dp K (cut D2 (upd H4 t1 (.tup [.int lh.1, .int x]))) (.ref t1) (pairD (lh.1, x)) := dp_cut_tup ⟨_, hD0⟩ n1 (.cons (.int _) (.cons (.int _) .nil))
    have hD1' : (upd H4 t1 (.tup [.int lh.1, .int x])) D2 = some (.lst acc0) := same_new n1 _ _ hD0
    have d2 : Dp K (cut D2 (upd (upd H4 t1 (.tup [.int lh.1, .int x])) t2 (.tup [.int lh.2, .int y]))) (.ref t2) (pairD (lh.2, y)) := dp_cut_tup ⟨_, hD1'⟩ n2 (.cons (.int _) (.cons (.int _) .nil))
    obtain ⟨acc, hD, hl, hI⟩ := p3.push ((same_new n1).trans ((same_new n2).trans (same_new n3))) (dp_cut_tup ⟨_, same_new n2 _ _ hD1'⟩ n3 (.cons (d1.up (cut_up (same_new n2))) (.cons d2 .nil)))
    exact ⟨acc, hD, bnd (by omega), hI⟩
  have ex : (bases r same).take xB.length = bases r same := by rw [lB, List.take_length]
  rw [ex, ← eJ] at hJ
  obtain ⟨xJ, hD2, dJ⟩ := hJ.at
  have lJ : xJ.length = (joins r same).length := by rw [dpa_len dJ, List.length_map]
  have tS3 := hJ.same _ _ tS2
  have s3 := s2.trans hJ.same
  clear hJ
  -- the parts
  let F3 : Int → List Part := fun m => (joins r same).map fun j => (m, j.1, j.2)
  have eP : allParts r same = (rngI r).flatMap F3 := rfl
  refine ⟨.ref a, rfl, a, rfl, ⟨_, SqL.of tS3⟩, fun D3 nD3 => ?_⟩
  refine wk_intsy (ns := rngI r) (fun m => [some (.int r), some (.bl same), some (.ref a), some (.ref D1), some (.ref D2), none, none, none, none, none, none, some (.int m)]) (fun i H' => LInv K H3 D3 ((((rngI r).take i).flatMap F3).map partD) H') (LInv.init nD3) (fun i H' p => SqL.of (p.same _ _ tS3)) (fun H4 hP => ?_) (fun i H' hi p => ?_)
  · rw [List.take_length, ← eP] at hP
    obtain ⟨xP, hD3, dP⟩ := hP.at
    exact q H4 D3 xP (s3.trans hP.same) hD3 dP
  · have hl := flat_le1 (rngI r) F3 hi
    rw [← eP] at hl
    rw [flat_snoc F3 hi, List.map_append]
    have lp : ((((rngI r).take i).flatMap F3).map partD).length + (joins r same).length ≤ 4000 := by
      have e0 : (F3 (rngI r)[i]).length = (joins r same).length := List.length_map _
      rw [List.length_map]
      omega
    generalize ((((rngI r).take i).flatMap F3).map partD) = pre at p lp
    generalize (rngI r)[i] = m
    refine ⟨.ref D2, rfl, D2, rfl, ⟨_, SqL.of (p.same _ _ hD2)⟩, ?_⟩
    refine wk_prs (xs := xJ) (fun v w => [some (.int r), some (.bl same), some (.ref a), some (.ref D1), some (.ref D2), some v, some w, none, none, none, none, some (.int m)]) (fun j H' => LInv K H3 D3 (pre ++ (((joins r same).take j).map fun j => (m, j.1, j.2)).map partD) H') (by simpa using p) (fun j H' p => SqL.of (p.same _ _ hD2)) (fun H4 p2 => ?_) (fun j H4 hj p2 => ?_)
    · rw [lJ, List.take_length] at p2
      exact p2
    · have hj' : j < (joins r same).length := by omega
      obtain ⟨d, e1, dd⟩ := dpa_get dJ (List.getElem?_eq_getElem hj)
      rw [List.getElem?_map, List.getElem?_eq_getElem hj'] at e1
      have e1 : joinD (joins r same)[j] = d := Option.some.inj e1
      subst e1
      rw [mapt_snoc (fun j => (m, j.1, j.2)) hj', List.map_append, ← List.append_assoc]
      have lp2 : (pre ++ (((joins r same).take j).map fun j => (m, j.1, j.2)).map partD).length ≤ 4000 := by
        rw [List.length_append, List.length_map, List.length_map, List.length_take]
        omega
      generalize pre ++ (((joins r same).take j).map fun j => (m, j.1, j.2)).map partD = all at p2 lp2
      generalize (joins r same)[j] = jn' at dd
      obtain ⟨aJ, ys, eJ', tJ, hy⟩ := dp_tup (ds := [pairD jn'.1, pairD jn'.2]) dd
      obtain ⟨v1, v2, rfl, d1, d2⟩ := dpa_2 hy
      refine ⟨aJ, _, _, eJ', p2.same.tupT tJ, ?_⟩
      refine ⟨_, rfl, _, rfl, _, rfl, (by show 3 ≤ sizeLine; decide), fun t nt => ?_⟩
      have sc : Same H3 (cut D3 H4) := to_cut nD3 p2.same
      obtain ⟨acc, hD, hl, hI⟩ := p2.push (same_new nt) (dp_cut_tup (let ⟨acc, h, _⟩ := p2.lst; ⟨_, h⟩) nt (.cons (.int m) (.cons (d1.up sc) (.cons (d2.up sc) .nil))))
      exact ⟨acc, hD, bnd (by omega), hI⟩
end
end FJ

/-! FJh: parting, own_paper, order_paper. -/
namespace FJ
open PySem PySem.Spec PyProof.Rows L2
theorem find_at {α : Type} {p : α → Bool} : ∀ {l : List α} {i : Nat} (h : i < l.length), (∀ j (hj : j < l.length), j < i → p l[j] = false) → p l[i] = true → l.find? p = some l[i]
  | a :: l, 0, _, _, h1 => by
    have h1 : p a = true := h1
    rw [List.find?_cons, h1]
    rfl
  | a :: l, i + 1, h, h0, h1 => by
    have e := h0 0 (Nat.succ_pos _) (Nat.succ_pos _)
    have e : p a = false := e
    rw [List.find?_cons, e]
    exact find_at (l := l) (i := i) (Nat.lt_of_succ_lt_succ h) (fun j hj hji => h0 (j + 1) (Nat.succ_lt_succ hj) (Nat.succ_lt_succ hji)) h1
theorem find_no {α : Type} {p : α → Bool} {l : List α} (h : ∀ j (hj : j < l.length), p l[j] = false) : l.find? p = none := by
  rw [List.find?_eq_none]
  intro x hx
  obtain ⟨j, hj, rfl⟩ := List.getElem_of_mem hx
  rw [h j hj]
  exact Bool.false_ne_true
def optP : Option Part → PyData
  | none => .none
  | some p => partD p
section
variable {P : Program} {w : World} {K : PySem.W.Frag} {mg : Str → Option Value} {base : Heap}

/-! ### parting -/
abbrev nPt : List Str := ["kind", "reach", "same_base", "mine", "one", "other", "here", "there"]
def spPt (K : PySem.W.Frag) : Sp := fun vs H Q _ => ∃ (vk : V) (s : Sm) (r : Nat) (same : Bool), vs = [vk, .int r, .bl same] ∧ Dp K H vk (Kd.own s).dat ∧ s.depth ≤ 6 ∧ r ≤ 2 ∧ ∀ H' x, Same H H' → Dp K H' x (optP (parting (.own s) r same)) → Q x H'
theorem sc_pt : FnScope nPt ["kind", "reach", "same_base"] (defScope (topS 19)) := ⟨rfl, rfl, rfl, by decide +kernel, rfl, by decide +kernel, by decide +kernel⟩
theorem ok_pt (T : Txt K mg) : OkD P w K mg base CX0 10 "parting" (topS 19) [] ["kind", "reach", "same_base"] (spPt K) := by
  obtain ⟨fA, dA, aA, GA⟩ := (ok_ap (P := P) (w := w) (base := base) T).mono (k := 9) (by decide)
  have bA : Binds K dA ["reach", "same_base"] [] := aA.F.bindsN fun _ _ _ _ _ _ us hl => match us, hl with | [_, _], _ => rfl
  obtain ⟨fB, dB, aB, GB⟩ := ok_bo (P := P) (w := w) (base := base) T
  have bB : KBn K dB nBO 1 ["mine", "one", "other"] (· ++ ·) (· ++ ·) := kb_all aB.F fun _ _ _ _ _ _ us ws h1 h2 => match us, ws, h1, h2 with | [_], [_, _, _], _, _ => rfl
  refine okD T.parting sc_pt (fun vs H Q E h => ?_) fun f cdv A outer s H vs Q E hr h => ?_
  · obtain ⟨vk, s, r, same, rfl, _⟩ := h
    rfl
  obtain ⟨vk, sm, r, same, rfl, hk, kd, hr2, q⟩ := h
  have hu := units64 hr
  refine ⟨_, pss_cons (ps_for PassesOwn.never rfl (pi_list (pe_call GA hr (by rfl) aA.g aA.F.kp bA .nil pass0 (pa_cons (pv 1) (pa_cons (pv 2) pa_nil)))) (pg_tup rfl (pgs_cons (pg_name (i := 3) sc_pt.nd rfl (.inl rfl)) (pgs_cons (pg_name (i := 4) sc_pt.nd rfl (.inl rfl)) (pgs_cons (pg_name (i := 5) sc_pt.nd rfl (.inl rfl)) pgs_nil))))
      (pss_cons (ps_asg (pe_callN GB hr (by rfl) aB.g aB.F.kp bB pass0 (pa_cons (pv 0) pa_nil) (pk_cons (pv 3) (pk_cons (pv 4) (pk_cons (pv 5) pk_nil)))) (pg_tup rfl (pgs_cons (pg_name (i := 6) sc_pt.nd rfl (.inl rfl)) (pgs_cons (pg_name (i := 7) sc_pt.nd rfl (.inl rfl)) pgs_nil))))
      (pss_one (ps_if (pt_cmpR (op_neD hu) (pv 6) (pv 7) (nomark _)) (pss_one (ps_ret (pe_tup (pa_cons (pv 3) (pa_cons (pv 4) (pa_cons (pv 5) pa_nil)))))) pss_nil))))
    (pss_one (ps_ret pe_non)), ?_⟩
  refine ⟨_, rfl, _, rfl, r, same, rfl, hr2, fun H1 p xs s1 hp dx => ?_⟩
  refine ⟨p, rfl, ⟨_, SqL.of hp⟩, ?_⟩
  have lx : xs.length = (allParts r same).length := by rw [dpa_len dx, List.length_map]
  refine for_list (K := K) (a := p) (xs := xs) (fun i σ H' => (∃ y3 y4 y5 y6 y7, σ = [some vk, some (.int r), some (.bl same), y3, y4, y5, y6, y7]) ∧ Same H1 H' ∧ ∀ j (hj : j < (allParts r same).length), j < i → partsAt (.own sm) (allParts r same)[j] = false) ⟨⟨none, none, none, none, none, rfl⟩, Same.refl H1, fun j _ h => absurd h (Nat.not_lt_zero _)⟩
    (fun i σ H' hi hP => SqL.of (hP.2.1 _ _ hp)) (fun i x σ H' hx hP => ?_) (fun σ H' hP => ?_)
  · obtain ⟨⟨y3, y4, y5, y6, y7, rfl⟩, s2, no⟩ := hP
    have hi : i < (allParts r same).length := by
      have := (List.getElem?_eq_some_iff.mp hx).1
      omega
    obtain ⟨d, e1, dd⟩ := dpa_get (dx.up s2) hx
    rw [List.getElem?_map, List.getElem?_eq_getElem hi] at e1
    have e1 : partD (allParts r same)[i] = d := Option.some.inj e1
    subst e1
    obtain ⟨a, ys, rfl, ta, hy⟩ := dp_tup (ds := [.int (allParts r same)[i].1, pairD (allParts r same)[i].2.1, pairD (allParts r same)[i].2.2]) dd
    obtain ⟨v1, v2, v3, rfl, d1, d2, d3⟩ := dpa_3 hy
    refine ⟨a, _, rfl, ta, rfl, _, _, rfl, _, _, rfl, _, _, rfl, rfl, ?_⟩
    have fJ : ∀ q : Int × Int, (jn q).Fits (.own sm) := fun q => ⟨trivial, trivial⟩
    refine ⟨_, rfl, _, rfl, _, rfl, _, rfl, rfl, rfl, vk, v1, v2, v3, .own sm, .int (allParts r same)[i].1, jn (allParts r same)[i].2.1, jn (allParts r same)[i].2.2, rfl, hk.up (s1.trans s2), d1, d2, d3, kd, trivial, fJ _, fJ _, Nat.zero_le _, Nat.zero_le _, Nat.zero_le _, fun H3 x3 s3 dx3 => ?_⟩
    obtain ⟨a3, zs, rfl, t3, hz⟩ := dp_tup dx3
    obtain ⟨w1, w2, rfl, g1, g2⟩ := dpa_2 hz
    refine ⟨a3, _, rfl, t3, rfl, _, _, rfl, _, _, rfl, rfl, ?_⟩
    refine ⟨_, rfl, _, rfl, _, _, g1, g2, shaped_hv _, shaped_hv _, _, rfl, ?_⟩
    rw [eqv_hv]
    have eP : partsAt (.own sm) (allParts r same)[i] = !decide (two (.own sm) (.int (allParts r same)[i].1) (jn (allParts r same)[i].2.1) (jn (allParts r same)[i].2.2) = two (.own sm) (.int (allParts r same)[i].1) (jn (allParts r same)[i].2.2) (jn (allParts r same)[i].2.1)) := by
      unfold partsAt
      exact decide_not
    rw [← eP]
    cases c : partsAt (.own sm) (allParts r same)[i] with
    | true =>
      refine iteT ?_
      refine ⟨_, rfl, _, rfl, _, rfl, (by show 3 ≤ sizeLine; decide), fun t nt => ?_⟩
      refine q _ _ (s1.trans (s2.trans (s3.trans (same_new nt)))) ?_
      have ef : parting (.own sm) r same = some (allParts r same)[i] := find_at hi (fun j hj hji => no j hj hji) c
      rw [ef]
      exact dp_new nt (.cons (d1.up s3) (.cons (d2.up s3) (.cons (d3.up s3) .nil)))
    | false =>
      refine iteF ?_
      refine ⟨⟨_, _, _, _, _, rfl⟩, s2.trans s3, fun j hj hji => ?_⟩
      by_cases e : j = i
      · subst e
        exact c
      · exact no j hj (by omega)
  · obtain ⟨⟨y3, y4, y5, y6, y7, rfl⟩, s2, no⟩ := hP
    have ef : parting (.own sm) r same = none := find_no fun j hj => no j hj (by omega)
    rw [ef] at q
    exact q H' .non (s1.trans s2) .non

/-! ### own_paper -/
abbrev nOP : List Str := ["kind", "same_base", "reach", "numbers", "found"]
def spOP (K : PySem.W.Frag) : Sp := fun vs H Q _ => ∃ (vk : V) (s : Sm) (r : Nat) (same : Bool), vs = [vk, .bl same, .int r] ∧ Dp K H vk (Kd.own s).dat ∧ s.depth ≤ 6 ∧ r ≤ 2 ∧ ∀ H' x, Same H H' → Dp K H' x (ownPaper s same r).dat → Q x H'
theorem sc_op : FnScope nOP ["kind", "same_base", "reach"] (defScope (topS 20)) := ⟨rfl, rfl, rfl, by decide +kernel, rfl, by decide +kernel, by decide +kernel⟩
theorem ok_op (T : Txt K mg) : OkD P w K mg base CX0 11 "own_paper" (topS 20) [] ["kind", "same_base", "reach"] (spOP K) := by
  obtain ⟨fN, dN, aN, GN⟩ := (ok_num (P := P) (w := w) (base := base) T 6).mono (k := 10) (by decide)
  have bN : Binds K dN ["amount"] [] := aN.F.bindsN fun _ _ _ _ _ _ us hl => match us, hl with | [_], _ => rfl
  obtain ⟨fA, dA, aA, GA⟩ := (ok_al (P := P) (w := w) (base := base) T).mono (k := 10) (by decide)
  have bA : Binds K dA ["numbers", "same_base"] [] := aA.F.bindsN fun _ _ _ _ _ _ us hl => match us, hl with | [_, _], _ => rfl
  obtain ⟨fB, dB, aB, GB⟩ := ok_pt (P := P) (w := w) (base := base) T
  have bB : KBn K dB ["kind", "reach", "same_base"] 1 ["reach", "same_base"] (· ++ ·) (· ++ ·) := kb_all aB.F fun _ _ _ _ _ _ us ws h1 h2 => match us, ws, h1, h2 with | [_], [_, _], _, _ => rfl
  refine okD T.own_paper sc_op (fun vs H Q E h => ?_) fun f cdv A outer s H vs Q E hr h => ?_
  · obtain ⟨vk, s, r, same, rfl, _⟩ := h
    rfl
  obtain ⟨vk, sm, r, same, rfl, hk, kd, hr2, q⟩ := h
  refine ⟨_, pss_cons (ps_set (i := 3) sc_op.nd rfl (.inl rfl) (pe_call GN hr (by rfl) aN.g aN.F.kp bN .nil pass0 (pa_cons (pe_ix ix_tup (pv 0) pe_int (fun _ _ => rfl)) pa_nil)))
    (pss_cons (ps_if (PW.pt (pw_and (pt_cmpR op_notN (pv 3) pe_non (nomark _)) (pw_and1 (pt_val (pe_call GA hr (by rfl) aA.g aA.F.kp bA .nil pass0 (pa_cons (pv 3) (pa_cons (pv 1) pa_nil))))))) (pss_one (ps_ret (pe_tup (pa_cons pe_str (pa_cons (pv 3) pa_nil))))) pss_nil)
    (pss_cons (ps_set (i := 4) sc_op.nd rfl (.inl rfl) (pe_callN GB hr (by rfl) aB.g aB.F.kp bB pass0 (pa_cons (pv 0) pa_nil) (pk_cons (pe_ifExp (pt_cmpR op_notN (pv 3) pe_non (nomark _)) pe_int (pv 2)) (pk_cons (pv 1) pk_nil))))
    (pss_one (ps_ret (pe_ifExp (pt_cmpR op_isN (pv 4) pe_non (nomark _)) (pe_tup (pa_cons pe_str (pa_cons (pv 2) pa_nil))) (pe_tup (pa_cons pe_str (pa_cons (pv 4) pa_nil)))))))), ?_⟩
  obtain ⟨a, xs, rfl, ta, hx⟩ := dp_tup (ds := [.str "own", sm.dat]) hk
  obtain ⟨u1, u2, rfl, d1, d2⟩ := dpa_2 hx
  refine ⟨_, rfl, a, _, 1, u2, rfl, rfl, ta, rfl, u2, sm, rfl, d2, kd, fun H1 vn s1 dn => ?_⟩
  have hk1 := hk.up s1
  -- the end: from what parting found
  have fin : ∀ (r' : Nat) (vf : V) (H2 : Hp), Same H H2 → Dp K H2 vf (optP (parting (.own sm) r' same)) → (∀ H' x, Same H H' → Dp K H' x (match parting (.own sm) r' same with | none => Th.within r | some p => ofPart p).dat → Q x H') →
      tRet (tIf (tTest (tOp (fun x y H Q => y = .non ∧ Q (.bl (decide (x = .non))) H) (tVar 4) (tC .non))) (tTup (tCons (tC (.str "within")) (tCons (tVar 2) tNil))) (tTup (tCons (tC (.str "parted")) (tCons (tVar 4) tNil)))) { nx := fun _ H' => Q .non H', rt := Q }
        [some (.ref a), some (.bl same), some (.int r), some vn, some vf] H2 := fun r' vf H2 s2 df q2 => by
    cases e : parting (.own sm) r' same with
    | none =>
      rw [e] at df q2
      have := dp_non df
      subst this
      refine ⟨_, rfl, rfl, _, rfl, dT rfl ?_⟩
      exact ⟨_, rfl, (by show 2 ≤ sizeLine; decide), fun t nt => q2 _ _ (s2.trans (same_new nt)) (dp_new nt (.cons (.str _) (.cons (.int _) .nil)))⟩
    | some p =>
      rw [e] at df q2
      have nn : vf ≠ .non := fun z => by
        subst z
        have df : Dp K H2 .non (partD p) := df
        cases df
      refine ⟨_, rfl, rfl, _, rfl, dF nn ?_⟩
      exact ⟨_, rfl, (by show 2 ≤ sizeLine; decide), fun t nt => q2 _ _ (s2.trans (same_new nt)) (dp_new nt (.cons (.str _) (.cons df .nil)))⟩
  have eo : ownPaper sm same r = match numbersOf sm with
    | some n => if isAlike n same then .alike n else match parting (.own sm) 1 same with
      | none => .within r
      | some p => ofPart p
    | none => match parting (.own sm) r same with
      | none => .within r
      | some p => ofPart p := rfl
  rw [eo] at q
  cases en : numbersOf sm with
  | none =>
    rw [en] at dn q
    have := dp_non dn
    subst this
    refine ⟨_, rfl, rfl, _, rfl, ?_⟩
    refine bF (by decide) ?_
    refine ⟨_, rfl, _, rfl, rfl, _, rfl, bF (by decide) ?_⟩
    refine ⟨_, rfl, _, rfl, rfl, rfl, .ref a, sm, r, same, rfl, hk1, kd, hr2, fun H2 vf s2 df => ?_⟩
    exact fin r vf H2 (s1.trans s2) df q
  | some n =>
    rw [en] at dn q
    obtain ⟨an, rfl, tn⟩ := dp_ht (ns := [n.1, n.2.1, n.2.2.1, n.2.2.2]) dn
    refine ⟨_, rfl, rfl, _, rfl, ?_⟩
    refine bT (by rw [decide_eq_false (fun z => by cases z)]; rfl) ?_
    refine ⟨_, rfl, _, rfl, .ref an, n, same, rfl, dn, _, rfl, ?_⟩
    have q : ∀ H' x, Same H H' → Dp K H' x (if isAlike n same = true then Th.alike n else match parting (.own sm) 1 same with | none => .within r | some p => ofPart p).dat → Q x H' := q
    cases c : isAlike n same with
    | true =>
      rw [c, if_pos rfl] at q
      refine iteT ?_
      exact ⟨_, rfl, (by show 2 ≤ sizeLine; decide), fun t nt => q _ _ (s1.trans (same_new nt)) (dp_new nt (.cons (.str _) (.cons dn .nil)))⟩
    | false =>
      rw [c, if_neg Bool.false_ne_true] at q
      refine iteF ?_
      refine ⟨_, rfl, _, rfl, rfl, _, rfl, bT (by rw [decide_eq_false (fun z => by cases z)]; rfl) ?_⟩
      refine ⟨_, rfl, rfl, rfl, .ref a, sm, 1, same, rfl, hk1, kd, by decide, fun H2 vf s2 df => ?_⟩
      exact fin 1 vf H2 (s1.trans s2) df q
end
end FJ

/-! FJi: order_paper. -/
namespace FJ
open PySem PySem.Spec PyProof.Rows L2
/-- keywords of a def without other defaults, some keyword-only ones lack -/
theorem kb_lack {K : PySem.W.Frag} {x qual : Str} {params : Arguments} {body : List Stmt} {scope : Scope} {kws : List (Str × V)} {f : Addr} {fd : FuncData} {ps : List Str} (F : FunD K x qual params body scope [] kws f fd) (n : Nat) (ks : List Str) (ms : List (Str × V)) (g : {α : Type} → List α → List α → List α → List α) (hk : kws ≠ []) (hms : ∀ q ∈ ms, q ∈ kws)
    (hrel : ∀ {vs mz zs : List V} {us mv ws : List Value}, Vals vs us → Vals mz mv → Vals zs ws → Vals (g vs mz zs) (g us mv ws))
    (h : ∀ (D : Addr) (doc pm : Value) (an : Option Addr) (cdv ct : Value) (us mv ws : List Value), us.length = n → mv.length = ms.length → ws.length = ks.length →
      KwChain D ((ms.map (·.1)).zip mv) (bindArgs (PySem.W.fnOf x qual params body scope .none (.ref D) doc pm an cdv ct) ⟨us, ks.zip ws⟩) (ps.zip (g us mv ws))) :
    ∃ mv : List Value, KBn K fd ps n ks (fun us ws => g us mv ws) (fun vs zs => g vs (ms.map (·.2)) zs) := by
  obtain ⟨oc, od, dV, kV, doc, pm, an, cdv, ct, osl, rfl, lk, hcd, hD, hK⟩ := F.ex
  rcases hD with ⟨_, rfl⟩ | ⟨e, _⟩
  · rcases hK with e | ⟨D, rfl, hq⟩
    · exact absurd e hk
    · obtain ⟨mv, hl, rk, hks⟩ := kwd_vals (ms := ms) fun q hm => hq q (hms q hm)
      exact ⟨mv, ⟨fun s us ws X l1 l2 => BindsTo.of_looks fun M => KwChain.looks X hks (h D doc pm an cdv ct us mv ws l1 hl l2), fun r1 r2 => hrel r1 rk r2⟩⟩
  · exact absurd rfl e
def Kd.word : Kd → Str
  | .plain => "plain"
  | .sum => "sum"
  | .most => "most"
  | .set => "set"
  | .list => "list"
  | .own _ => "own"
def triD (k : Kd) : PyData := match plainParts k with
  | .parted m p q => .tuple [m.dat, p.dat, q.dat]
  | _ => .none
structure PTab (K : PySem.W.Frag) (w : World) (mg : Str → Option Value) : Prop where
  ex : ∃ p : Addr, mg "PARTED" = some (.ref p) ∧ (∃ v, KDct K w p "plain" v ∧ ∀ H, Dp K H v (triD .plain)) ∧ (∃ v, KDct K w p "list" v ∧ ∀ H, Dp K H v (triD .list)) ∧ ∃ v, KDct K w p "set" v ∧ ∀ H, Dp K H v (triD .set)
section
variable {P : Program} {w : World} {K : PySem.W.Frag} {mg : Str → Option Value} {base : Heap}
abbrev nOrd : List Str := ["kind", "same_base", "reach"]
def spOrd (K : PySem.W.Frag) : Sp := fun vs H Q _ => ∃ (vk : V) (k : Kd) (r : Nat) (same : Bool), vs = [vk, .bl same, .int r] ∧ Dp K H vk k.dat ∧ k.depth ≤ 6 ∧ r ≤ 2 ∧ ∀ H' x, Same H H' → Dp K H' x (orderPaper k same r).dat → Q x H'
theorem sc_ord : FnScope nOrd ["kind", "same_base", "reach"] (defScope (topS 22)) := ⟨rfl, rfl, rfl, by decide +kernel, rfl, by decide +kernel, by decide +kernel⟩
theorem ok_ord (T : Txt K mg) (B : PTab K w mg) : OkD P w K mg base CX0 12 "order_paper" (topS 22) [("reach", .int 1)] ["kind", "same_base", "reach"] (spOrd K) := by
  obtain ⟨fO, dO, aO, GO⟩ := ok_op (P := P) (w := w) (base := base) T
  have bO : Binds K dO ["kind", "same_base", "reach"] [] := aO.F.bindsN fun _ _ _ _ _ _ us hl => match us, hl with | [_, _, _], _ => rfl
  obtain ⟨pT, gT, tP, tL, tS⟩ := B.ex
  obtain ⟨f0, fd0, a0⟩ := T.order_paper
  refine ⟨f0, fd0, a0, a0.F.ok sc_ord (fun vs H Q E h => ?_) fun cdv A outer s H vs Q E hr h => ?_⟩
  · obtain ⟨vk, k, r, same, rfl, _⟩ := h
    rfl
  obtain ⟨vk, k, r, same, rfl, hk, kd, hr2, q⟩ := h
  refine ⟨_, PSs.nox (pss_cons (ps_if (pt_val (pe_isd "tuple" (pv 0) T.z_isinstance T.z_tuple)) (pss_one (ps_ret (pe_call GO hr (by rfl) aO.g aO.F.kp bO .nil pass0 (pa_cons (pv 0) (pa_cons (pv 1) (pa_cons (pv 2) pa_nil)))))) pss_nil)
    (pss_cons (ps_if (PW.pt (pw_or (pt_cmpR op_in_seq (pv 0) (pe_tup (pa_cons pe_str (pa_cons pe_str pa_nil))) (by rfl)) (pw_or1 (PW.pt (pw_and (pt_cmpR op_eq (pv 0) pe_str (nomark _)) (pw_and1 (pt_val (pv 1)))))))) (pss_one (ps_ret (pe_tup (pa_cons pe_str (pa_cons pe_non pa_nil))))) pss_nil)
    (pss_one (ps_ret (pe_tup (pa_cons pe_str (pa_cons (pe_ix ix_kdict (pe_glob (v := .ref pT) (by rfl) gT rfl) (pv 0) (fun _ _ => rfl)) pa_nil))))))), ?_⟩
  cases k with
  | own sm =>
    obtain ⟨a, xs, rfl, ta, hx⟩ := dp_tup (ds := [.str "own", sm.dat]) hk
    refine ⟨_, rfl, .ref a, "tuple", (Kd.own sm).dat, true, rfl, hk, kit_tup_tup, _, rfl, iteT ?_⟩
    exact ⟨_, rfl, _, rfl, _, rfl, .ref a, sm, r, same, rfl, hk, kd, hr2, q⟩
  | plain =>
    have e := dp_str hk
    subst e
    refine ⟨_, rfl, .str "plain", "tuple", .str "plain", false, rfl, hk, kit_str_tup, _, rfl, iteF ?_⟩
    refine ⟨_, rfl, (by show 2 ≤ sizeLine; decide), fun t nt => ⟨t, [.str "sum", .str "most"], rfl, .inr (SqT.of upd_same), rfl, rfl, _, rfl, bF (by decide +kernel) ?_⟩⟩
    refine ⟨_, rfl, rfl, _, rfl, bF (by decide +kernel) ?_⟩
    obtain ⟨v, hd, hv⟩ := tP
    refine ⟨_, rfl, pT, _, v, rfl, rfl, hd, (by show 2 ≤ sizeLine; decide), fun t2 nt2 => q _ _ ((same_new nt).trans (same_new nt2)) ?_⟩
    exact dp_new nt2 (.cons (.str _) (.cons (hv _) .nil))
  | list =>
    have e := dp_str hk
    subst e
    refine ⟨_, rfl, .str "list", "tuple", .str "list", false, rfl, hk, kit_str_tup, _, rfl, iteF ?_⟩
    refine ⟨_, rfl, (by show 2 ≤ sizeLine; decide), fun t nt => ⟨t, [.str "sum", .str "most"], rfl, .inr (SqT.of upd_same), rfl, rfl, _, rfl, bF (by decide +kernel) ?_⟩⟩
    refine ⟨_, rfl, rfl, _, rfl, bF (by decide +kernel) ?_⟩
    obtain ⟨v, hd, hv⟩ := tL
    refine ⟨_, rfl, pT, _, v, rfl, rfl, hd, (by show 2 ≤ sizeLine; decide), fun t2 nt2 => q _ _ ((same_new nt).trans (same_new nt2)) ?_⟩
    exact dp_new nt2 (.cons (.str _) (.cons (hv _) .nil))
  | sum =>
    have e := dp_str hk
    subst e
    refine ⟨_, rfl, .str "sum", "tuple", .str "sum", false, rfl, hk, kit_str_tup, _, rfl, iteF ?_⟩
    refine ⟨_, rfl, (by show 2 ≤ sizeLine; decide), fun t nt => ⟨t, [.str "sum", .str "most"], rfl, .inr (SqT.of upd_same), rfl, rfl, _, rfl, bT (by decide +kernel) ?_⟩⟩
    exact ⟨(by show 2 ≤ sizeLine; decide), fun t2 nt2 => q _ _ ((same_new nt).trans (same_new nt2)) (dp_new nt2 (.cons (.str _) (.cons .non .nil)))⟩
  | most =>
    have e := dp_str hk
    subst e
    refine ⟨_, rfl, .str "most", "tuple", .str "most", false, rfl, hk, kit_str_tup, _, rfl, iteF ?_⟩
    refine ⟨_, rfl, (by show 2 ≤ sizeLine; decide), fun t nt => ⟨t, [.str "sum", .str "most"], rfl, .inr (SqT.of upd_same), rfl, rfl, _, rfl, bT (by decide +kernel) ?_⟩⟩
    exact ⟨(by show 2 ≤ sizeLine; decide), fun t2 nt2 => q _ _ ((same_new nt).trans (same_new nt2)) (dp_new nt2 (.cons (.str _) (.cons .non .nil)))⟩
  | set =>
    have e := dp_str hk
    subst e
    refine ⟨_, rfl, .str "set", "tuple", .str "set", false, rfl, hk, kit_str_tup, _, rfl, iteF ?_⟩
    refine ⟨_, rfl, (by show 2 ≤ sizeLine; decide), fun t nt => ⟨t, [.str "sum", .str "most"], rfl, .inr (SqT.of upd_same), rfl, rfl, _, rfl, bF (by decide +kernel) ?_⟩⟩
    refine ⟨_, rfl, rfl, _, rfl, bT (by decide +kernel) ?_⟩
    refine ⟨_, rfl, _, rfl, ?_⟩
    cases same with
    | true =>
      refine iteT ?_
      exact ⟨(by show 2 ≤ sizeLine; decide), fun t2 nt2 => q _ _ ((same_new nt).trans (same_new nt2)) (dp_new nt2 (.cons (.str _) (.cons .non .nil)))⟩
    | false =>
      refine iteF ?_
      obtain ⟨v, hd, hv⟩ := tS
      refine ⟨_, rfl, pT, _, v, rfl, rfl, hd, (by show 2 ≤ sizeLine; decide), fun t2 nt2 => q _ _ ((same_new nt).trans (same_new nt2)) ?_⟩
      exact dp_new nt2 (.cons (.str _) (.cons (hv _) .nil))
end
end FJ

/-! FJj: the checks of what a cell can have, of joins, of papers: they tell True of all that is well formed. -/
namespace FJ
open PySem PySem.Spec PyProof.Rows L2
/-- a list being filled -/
structure FInv (H : Hp) (D : Addr) (acc : List V) (H' : Hp) : Prop where
  new : H D = none
  same : Same H H'
  lst : H' D = some (.lst acc)
theorem FInv.init {H : Hp} {D : Addr} (n : H D = none) : FInv H D [] (upd H D (.lst [])) := ⟨n, same_new n, upd_same⟩
theorem FInv.push {H H' H2 : Hp} {D : Addr} {acc : List V} {y : V} (h : FInv H D acc H') (e : Same H' H2) : H2 D = some (.lst acc) ∧ FInv H D (acc ++ [y]) (upd H2 D (.lst (acc ++ [y]))) := by
  refine ⟨e _ _ h.lst, h.new, fun b o q => ?_, upd_same⟩
  rw [upd_ne (ne_of_none q h.new)]
  exact e _ _ (h.same _ _ q)
def trs (i : Nat) : List V := (List.replicate i true).map V.bl
theorem trs_push {H H' H2 : Hp} {D : Addr} {i : Nat} (h : FInv H D (trs i) H') (e : Same H' H2) (hi : i ≤ 1000) : ∃ acc, H2 D = some (.lst acc) ∧ acc.length < sizeLine ∧ FInv H D (trs (i + 1)) (upd H2 D (.lst (acc ++ [.bl true]))) := by
  obtain ⟨a, b⟩ := h.push (y := .bl true) e
  refine ⟨_, a, ?_, ?_⟩
  · show ((List.replicate i true).map V.bl).length < sizeLine
    rw [List.length_map, List.length_replicate]
    exact small1000 hi
  · have e2 : trs (i + 1) = trs i ++ [.bl true] := by
      unfold trs
      rw [List.replicate_succ', List.map_append]
      rfl
    rw [e2]
    exact b
theorem all_trs (n : Nat) : (List.replicate n true).all id = true := by
  rw [List.all_eq_true]
  intro x hx
  rw [(List.mem_replicate.mp hx).2]
  rfl
/-- over a tuple of ints to a name; σ2 the slots within -/
theorem wk_tints {K : PySem.W.Frag} {a : Addr} {ns : List Int} {i0 : Nat} {b : TB} {vs : List Nat} {σ : L2.St} {H1 : Hp} {k : Hp → Prop} (σ2 : Int → L2.St) (Pv : Nat → Hp → Prop) (h0 : Pv 0 H1) (hL : ∀ i H, Pv i H → SqT K H a (ns.map V.int)) (hk : ∀ H, Pv ns.length H → k H)
    (hs : ∀ i H (hi : i < ns.length), Pv i H → b (σ2 ns[i]) H (Pv (i + 1))) (h2 : ∀ x, (wipe σ vs).set i0 (some (.int x)) = σ2 x := by intro _; rfl) (h3 : ∀ x, wipe (σ2 x) vs = wipe σ vs := by intro _; rfl) : Wk (Itt K a) (gName i0) tYes b vs σ H1 k := by
  refine wk_tupy (xs := ns.map V.int) Pv h0 hL (fun H p => hk H (by rw [List.length_map] at p; exact p)) fun i H hi p => ?_
  have hi' : i < ns.length := by rw [List.length_map] at hi; exact hi
  have e : (ns.map V.int)[i] = .int ns[i] := List.getElem_map ..
  rw [e]
  show wipe ((wipe σ vs).set i0 (some (.int ns[i]))) vs = _ ∧ b ((wipe σ vs).set i0 (some (.int ns[i]))) H _
  rw [h2]
  exact ⟨h3 _, hs i H hi' p⟩
/-- over a tuple to a name -/
theorem wk_tany {K : PySem.W.Frag} {a : Addr} {xs : List V} {i0 : Nat} {b : TB} {vs : List Nat} {σ : L2.St} {H1 : Hp} {k : Hp → Prop} (σ2 : V → L2.St) (Pv : Nat → Hp → Prop) (h0 : Pv 0 H1) (hL : ∀ i H, Pv i H → SqT K H a xs) (hk : ∀ H, Pv xs.length H → k H)
    (hs : ∀ i H (hi : i < xs.length), Pv i H → b (σ2 xs[i]) H (Pv (i + 1))) (h2 : ∀ x, (wipe σ vs).set i0 (some x) = σ2 x := by intro _; rfl) (h3 : ∀ x, wipe (σ2 x) vs = wipe σ vs := by intro _; rfl) : Wk (Itt K a) (gName i0) tYes b vs σ H1 k := by
  refine wk_tupy Pv h0 hL hk fun i H hi p => ?_
  show wipe ((wipe σ vs).set i0 (some xs[i])) vs = _ ∧ b ((wipe σ vs).set i0 (some xs[i])) H _
  rw [h2]
  exact ⟨h3 _, hs i H hi p⟩
section
variable {P : Program} {w : World} {K : PySem.W.Frag} {mg : Str → Option Value} {base : Heap}
theorem list_of (T : Txt K mg) : True := trivial

/-! ### are_numbers -/
abbrev nAN : List Str := ["thing", "one"]
def spAN (K : PySem.W.Frag) : Sp := fun vs H Q _ => ∃ (a : Addr) (ns : List Int), vs = [.ref a] ∧ SqT K H a (ns.map V.int) ∧ ns.length ≤ 1000 ∧ ∀ H', Same H H' → Q (.bl true) H'
theorem sc_an : FnScope nAN ["thing"] (defScope (topS 24)) := ⟨rfl, rfl, rfl, by decide +kernel, rfl, by decide +kernel, by decide +kernel⟩
theorem ok_an (T : Txt K mg) : OkD P w K mg base CX0 2 "are_numbers" (topS 24) [] ["thing"] (spAN K) := by
  obtain ⟨fN, dN, aN, GN⟩ := ok_isNum (P := P) (w := w) (base := base) T
  have bN : Binds K dN ["thing"] [] := aN.F.bindsN fun _ _ _ _ _ _ us hl => match us, hl with | [_], _ => rfl
  refine okD T.are_numbers sc_an (fun vs H Q E h => ?_) fun f cdv A outer s H vs Q E hr h => ?_
  · obtain ⟨a, ns, rfl, _⟩ := h
    rfl
  obtain ⟨a, ns, rfl, ta, ln, q⟩ := h
  refine ⟨_, pss_one (ps_ret (pe_and (pe_isd "tuple" (pv 0) T.z_isinstance T.z_tuple) (pe_one (pe_callB (cr_all rfl) (by rfl) T.z_all (by decide +kernel) (pa_cons (pe_l1 (own := [("one", 1)]) rfl sc_an.nd (pi_tup (pv 0)) (blkOk_by (N := nAN) (sc := defScope (topS 24)) (by decide +kernel)) (fun _ _ _ _ _ => pg_name (i := 1) sc_an.nd rfl (Or.inl rfl)) (fun _ _ _ _ _ => pts_nil)
      (fun _ _ _ _ _ => pe_call (X := _) GN hr (by rfl) aN.g aN.F.kp bN .nil pass0 (pa_cons (pv 1) pa_nil))) pa_nil))))), ?_⟩
  refine ⟨_, rfl, .ref a, "tuple", tupI ns, true, rfl, dp_of_ht ta, kit_tup_tup, _, rfl, iteT ?_⟩
  refine ⟨_, rfl, a, rfl, ⟨_, ta⟩, fun D nD => ?_⟩
  refine wk_tints (ns := ns) (fun x => [some (.ref a), some (.int x)]) (fun i H' => FInv H D (trs i) H') (FInv.init nD) (fun i H' p => p.same.tupT ta) (fun H' p => ?_) (fun i H' hi p => ?_)
  · exact ⟨_, List.replicate ns.length true, rfl, SqL.of p.lst, by rw [all_trs]; exact q _ p.same⟩
  · refine ⟨_, rfl, _, rfl, ?_⟩
    exact trs_push p (Same.refl H') (by omega)

/-! ### can_have -/
abbrev nCH : List Str := ["kind", "thing", "one", "other"]
def spCH (K : PySem.W.Frag) : Sp := fun vs H Q _ => ∃ (vk vt : V) (k : Kd) (h : HV), vs = [vk, vt] ∧ Dp K H vk k.dat ∧ Dp K H vt h.dat ∧ k.depth ≤ 6 ∧ Fits k h ∧ h.len ≤ 200 ∧ ∀ H', Same H H' → Q (.bl true) H'
theorem sc_ch : FnScope nCH ["kind", "thing"] (defScope (topS 25)) := ⟨rfl, rfl, rfl, by decide +kernel, rfl, by decide +kernel, by decide +kernel⟩
theorem rising_get {ns : List Int} (h : Rising ns) {i : Nat} (h1 : i + 1 < ns.length) : ns[i]'(by omega) < ns[i + 1] := List.pairwise_iff_getElem.mp h i (i + 1) (by omega) h1 (by omega)
theorem ok_ch (T : Txt K mg) : OkD P w K mg base CX0 3 "can_have" (topS 25) [] ["kind", "thing"] (spCH K) := by
  obtain ⟨fA, dA, aA, GA⟩ := ok_an (P := P) (w := w) (base := base) T
  have bA : Binds K dA ["thing"] [] := aA.F.bindsN fun _ _ _ _ _ _ us hl => match us, hl with | [_], _ => rfl
  obtain ⟨fN, dN, aN, GN⟩ := (ok_isNum (P := P) (w := w) (base := base) T).mono (k := 2) (by decide)
  have bN : Binds K dN ["thing"] [] := aN.F.bindsN fun _ _ _ _ _ _ us hl => match us, hl with | [_], _ => rfl
  refine okD T.can_have sc_ch (fun vs H Q E h => ?_) fun f cdv A outer s H vs Q E hr h => ?_
  · obtain ⟨vk, vt, k, h, rfl, _⟩ := h
    rfl
  obtain ⟨vk, vt, k, h, rfl, hk, ht, kd, ft, lt, q⟩ := h
  have hu := units64 hr
  refine ⟨_, pss_cons (ps_if (pt_cmpR (op_eqD hu) (pv 0) pe_str (nomark _)) (pss_one (ps_ret (pe_call GA hr (by rfl) aA.g aA.F.kp bA .nil pass0 (pa_cons (pv 1) pa_nil)))) pss_nil)
    (pss_cons (ps_if (pt_cmpR (op_eqD hu) (pv 0) pe_str (nomark _)) (pss_one (ps_ret (pe_and (pe_call GA hr (by rfl) aA.g aA.F.kp bA .nil pass0 (pa_cons (pv 1) pa_nil)) (pe_one (pe_callB (cr_all rfl) (by rfl) T.z_all (by decide +kernel)
      (pa_cons (pe_l1 (own := [("one", 2), ("other", 3)]) (g1 := gTup K 2 (gCons (gName 2) (gCons (gName 3) gNil))) rfl sc_ch.nd (RZ.pi_zipA (by rfl) T.z_zip (pa_cons (pv 1) (pa_cons (pe_slice sl_tupA (pv 1) (po_some pe_int) po_none) pa_nil))) (blkOk_by (N := nCH) (sc := defScope (topS 25)) (by decide +kernel))
        (fun _ _ _ _ _ => pg_tup rfl (pgs_cons (pg_name (i := 2) sc_ch.nd rfl (Or.inl rfl)) (pgs_cons (pg_name (i := 3) sc_ch.nd rfl (Or.inl rfl)) pgs_nil))) (fun _ _ _ _ _ => pts_nil) (fun _ _ _ _ _ => pe_cmpR op_lt (pv 2) (pv 3) (nomark _))) pa_nil)))))) pss_nil)
    (pss_one (ps_ret (pe_call GN hr (by rfl) aN.g aN.F.kp bN .nil pass0 (pa_cons (pv 1) pa_nil))))), ?_⟩
  have sk := shaped_kd k (by omega)
  have test : ∀ (x : Str) (A B : Prop), PyData.strOk x = true → (if PyData.eqv k.dat (.str x) = true then A else B) → ∃ d e, Dp K H vk d ∧ Dp K H (.str x) e ∧ SeqAt.shaped d = true ∧ SeqAt.shaped e = true ∧ ∃ c, V.bl (PyData.eqv d e) = .bl c ∧ if c = true then A else B :=
    fun x A B hx h => ⟨_, _, hk, .str x, sk, shaped_str x hx, _, rfl, h⟩
  cases k with
  | plain =>
    cases h with
    | tup _ => exact ft.elim
    | int i =>
    have e := dp_hi ht
    subst e
    refine ⟨_, rfl, test "list" _ _ (by decide +kernel) (bF ((eqv_kd _ _).trans (by decide +kernel)) ?_)⟩
    refine ⟨_, rfl, test "set" _ _ (by decide +kernel) (bF ((eqv_kd _ _).trans (by decide +kernel)) ?_)⟩
    exact ⟨_, rfl, i, rfl, q H (Same.refl H)⟩
  | sum =>
    cases h with
    | tup _ => exact ft.elim
    | int i =>
    have e := dp_hi ht
    subst e
    refine ⟨_, rfl, test "list" _ _ (by decide +kernel) (bF ((eqv_kd _ _).trans (by decide +kernel)) ?_)⟩
    refine ⟨_, rfl, test "set" _ _ (by decide +kernel) (bF ((eqv_kd _ _).trans (by decide +kernel)) ?_)⟩
    exact ⟨_, rfl, i, rfl, q H (Same.refl H)⟩
  | most =>
    cases h with
    | tup _ => exact ft.elim
    | int i =>
    have e := dp_hi ht
    subst e
    refine ⟨_, rfl, test "list" _ _ (by decide +kernel) (bF ((eqv_kd _ _).trans (by decide +kernel)) ?_)⟩
    refine ⟨_, rfl, test "set" _ _ (by decide +kernel) (bF ((eqv_kd _ _).trans (by decide +kernel)) ?_)⟩
    exact ⟨_, rfl, i, rfl, q H (Same.refl H)⟩
  | own s =>
    cases h with
    | tup _ => exact ft.elim
    | int i =>
    have e := dp_hi ht
    subst e
    refine ⟨_, rfl, test "list" _ _ (by decide +kernel) (bF (eqv_kd _ _) ?_)⟩
    refine ⟨_, rfl, test "set" _ _ (by decide +kernel) (bF (eqv_kd _ _) ?_)⟩
    exact ⟨_, rfl, i, rfl, q H (Same.refl H)⟩
  | list =>
    cases h with
    | int _ => exact ft.elim
    | tup ns =>
    obtain ⟨a, rfl, ta⟩ := dp_ht ht
    refine ⟨_, rfl, test "list" _ _ (by decide +kernel) (bT ((eqv_kd _ _).trans (by decide +kernel)) ?_)⟩
    have lt : ns.length ≤ 200 := lt
    exact ⟨_, rfl, a, ns, rfl, ta, by omega, q⟩
  | set =>
    cases h with
    | int _ => exact ft.elim
    | tup ns =>
    obtain ⟨a, rfl, ta⟩ := dp_ht ht
    have lt : ns.length ≤ 200 := lt
    refine ⟨_, rfl, test "list" _ _ (by decide +kernel) (bF ((eqv_kd _ _).trans (by decide +kernel)) ?_)⟩
    refine ⟨_, rfl, test "set" _ _ (by decide +kernel) (bT ((eqv_kd _ _).trans (by decide +kernel)) ?_)⟩
    refine ⟨_, rfl, a, ns, rfl, ta, by omega, fun H1 s1 => ⟨_, rfl, iteT ?_⟩⟩
    -- the walk over the pairs
    have walk : ∀ (H2 : Hp) (b : Addr) (Q2 : VK), Same H1 H2 → SqT K H2 b ((ns.drop 1).map V.int) → (∀ H', Same H1 H' → Q2 (.bl true) H') → ∀ D, H2 D = none → Wk (RZ.ItzT K a b) (gTup K 2 (gCons (gName 2) (gCons (gName 3) gNil))) tYes (bL D (tOp (rI0 fun i j => .bl (decide (i < j))) (tVar 2) (tVar 3))) [2, 3]
        [some vk, some (.ref a), none, none] (upd H2 D (.lst [])) fun H' => rAll K [.ref D] H' Q2 := fun H2 b Q2 s2 tb q2 D nD => by
      have t2 : SqT K H2 a (ns.map V.int) := s2.tupT (s1.tupT ta)
      refine wk_y (ns.length - 1) (fun i H' => FInv H2 D (trs i) H') (FInv.init nD) (fun i H' hi hP => ?_) (fun H' hP => ⟨⟨_, _, hP.same.tupT t2, hP.same.tupT tb, .inr (by rw [List.length_map, List.length_drop]; exact Nat.le_refl _)⟩, ?_⟩) (fun i H' y H3 hi hP hy => ?_)
      · refine ⟨_, _, .int (ns[i]'(by omega)), .int (ns[i + 1]'(by omega)), hP.same.tupT t2, hP.same.tupT tb, ?_, ?_⟩
        · rw [List.getElem?_map, List.getElem?_eq_getElem (by omega)]
          rfl
        · rw [List.getElem?_map, List.getElem?_drop, Nat.add_comm 1 i, List.getElem?_eq_getElem (by omega)]
          rfl
      · exact ⟨D, List.replicate (ns.length - 1) true, rfl, SqL.of hP.lst, by rw [all_trs]; exact q2 _ (s2.trans hP.same)⟩
      · obtain ⟨U, x, z, rfl, nU, rfl, fx, fz⟩ := hy
        have gx := fx _ (hP.same.tupT t2)
        have gz := fz _ (hP.same.tupT tb)
        rw [List.getElem?_map, List.getElem?_eq_getElem (by omega)] at gx
        rw [List.getElem?_map, List.getElem?_drop, Nat.add_comm 1 i, List.getElem?_eq_getElem (by omega)] at gz
        have gx : V.int (ns[i]'(by omega)) = x := Option.some.inj gx
        have gz : V.int (ns[i + 1]'(by omega)) = z := Option.some.inj gz
        subst gx gz
        refine ⟨U, _, rfl, SqT.of upd_same, rfl, _, _, rfl, _, _, rfl, rfl, rfl, ?_⟩
        refine ⟨_, rfl, _, rfl, _, _, rfl, rfl, ?_⟩
        have hlt : ns[i]'(by omega) < ns[i + 1]'(by omega) := rising_get ft.1 (by omega)
        have key := trs_push hP (same_new (o := .tup [V.int (ns[i]'(by omega)), V.int (ns[i + 1]'(by omega))]) nU) (by omega)
        rw [← decide_eq_true hlt] at key
        exact key
    refine ⟨_, rfl, _, rfl, _, rfl, a, _, rfl, s1.tupT ta, fun e => ?_, fun e b nb => ?_⟩
    · have e0 : ns = [] := by
        have e1 := e.1
        rw [show (some (1 : Int)) = some ((1 : Nat) : Int) from rfl, HT.sIx_nat, List.length_map] at e1
        cases ns with
        | nil => rfl
        | cons n r =>
          rw [List.length_cons] at e1
          omega
      refine ⟨a, a, _, _, rfl, .inr ⟨s1.tupT ta, s1.tupT ta, ?_⟩⟩
      refine walk H1 a _ (Same.refl _) ?_ fun H' s' => q H' (s1.trans s')
      rw [e0]
      rw [e0] at ta
      exact s1.tupT ta
    · have ec : cutV (ns.map V.int) (some 1) none = (ns.drop 1).map V.int := by
        rw [show (some (1 : Int)) = some ((1 : Nat) : Int) from rfl, cutV_from, List.map_drop]
      rw [ec]
      have sb : Same H1 (upd H1 b (.tup ((ns.drop 1).map V.int))) := same_new nb
      refine ⟨a, b, _, _, rfl, .inr ⟨sb.tupT (s1.tupT ta), SqT.of upd_same, ?_⟩⟩
      exact walk _ b _ sb (SqT.of upd_same) fun H' s' => q H' (s1.trans s')

/-! ### is_join, is_parting -/
def Jn.Few (j : Jn) : Prop := j.base.len ≤ 100 ∧ j.theirs.len ≤ 80
abbrev nIJ : List Str := ["kind", "thing", "one"]
def spIJ (K : PySem.W.Frag) : Sp := fun vs H Q _ => ∃ (vk vt : V) (k : Kd) (j : Jn), vs = [vk, vt] ∧ Dp K H vk k.dat ∧ Dp K H vt j.dat ∧ k.depth ≤ 6 ∧ j.Fits k ∧ j.Few ∧ ∀ H', Same H H' → Q (.bl true) H'
theorem sc_ij : FnScope nIJ ["kind", "thing"] (defScope (topS 29)) := ⟨rfl, rfl, rfl, by decide +kernel, rfl, by decide +kernel, by decide +kernel⟩
theorem ok_ij (T : Txt K mg) : OkD P w K mg base CX0 4 "is_join" (topS 29) [] ["kind", "thing"] (spIJ K) := by
  obtain ⟨fC, dC, aC, GC⟩ := ok_ch (P := P) (w := w) (base := base) T
  have bC : Binds K dC ["kind", "thing"] [] := aC.F.bindsN fun _ _ _ _ _ _ us hl => match us, hl with | [_, _], _ => rfl
  refine okD T.is_join sc_ij (fun vs H Q E h => ?_) fun f cdv A outer s H vs Q E hr h => ?_
  · obtain ⟨vk, vt, k, j, rfl, _⟩ := h
    rfl
  obtain ⟨vk, vt, k, j, rfl, hk, ht, kd, fj, lj, q⟩ := h
  refine ⟨_, pss_one (ps_ret (pe_and (pe_isd "tuple" (pv 1) T.z_isinstance T.z_tuple) (pe_and (pe_cmpR op_eq (pe_callB call_len_seq (by rfl) T.z_len (by decide +kernel) (pa_cons (pv 1) pa_nil)) pe_int (nomark _)) (pe_one (pe_callB (cr_all rfl) (by rfl) T.z_all (by decide +kernel)
      (pa_cons (pe_l1 (own := [("one", 2)]) rfl sc_ij.nd (pi_tup (pv 1)) (blkOk_by (N := nIJ) (sc := defScope (topS 29)) (by decide +kernel))
        (fun _ _ _ _ _ => pg_name (i := 2) sc_ij.nd rfl (Or.inl rfl)) (fun _ _ _ _ _ => pts_nil) (fun _ _ _ _ _ => pe_call (X := _) GC hr (by rfl) aC.g aC.F.kp bC .nil pass0 (pa_cons (pv 0) (pa_cons (pv 2) pa_nil)))) pa_nil)))))), ?_⟩
  obtain ⟨a, xs, rfl, ta, hx⟩ := dp_tup (ds := [j.base.dat, j.theirs.dat]) ht
  obtain ⟨u1, u2, rfl, d1, d2⟩ := dpa_2 hx
  refine ⟨_, rfl, .ref a, "tuple", j.dat, true, rfl, ht, kit_tup_tup, _, rfl, iteT ?_⟩
  refine ⟨_, rfl, a, _, rfl, .inr ta, rfl, _, rfl, dT rfl ?_⟩
  refine ⟨_, rfl, a, rfl, ⟨_, ta⟩, fun D nD => ?_⟩
  refine wk_tany (xs := [u1, u2]) (fun x => [some vk, some (.ref a), some x]) (fun i H' => FInv H D (trs i) H') (FInv.init nD) (fun i H' p => p.same.tupT ta) (fun H' p => ?_) (fun i H' hi p => ?_)
  · exact ⟨_, List.replicate 2 true, rfl, SqL.of p.lst, by rw [all_trs]; exact q _ p.same⟩
  · match i, hi, p with
    | 0, _, p => exact ⟨_, rfl, _, rfl, vk, u1, k, j.base, rfl, hk.up p.same, d1.up p.same, kd, fj.1, by have := lj.1; omega, fun H2 s2 => trs_push p s2 (by omega)⟩
    | 1, _, p => exact ⟨_, rfl, _, rfl, vk, u2, k, j.theirs, rfl, hk.up p.same, d2.up p.same, kd, fj.2, by have := lj.2; omega, fun H2 s2 => trs_push p s2 (by omega)⟩
abbrev nIP : List Str := ["kind", "thing"]
def spIP (K : PySem.W.Frag) : Sp := fun vs H Q _ => ∃ (vk vt : V) (k : Kd) (m : HV) (p q : Jn), vs = [vk, vt] ∧ Dp K H vk k.dat ∧ Dp K H vt (.tuple [m.dat, p.dat, q.dat]) ∧ k.depth ≤ 6 ∧ Fits k m ∧ m.len ≤ 100 ∧ p.Fits k ∧ p.Few ∧ q.Fits k ∧ q.Few ∧ ∀ H', Same H H' → Q (.bl true) H'
theorem sc_ip : FnScope nIP ["kind", "thing"] (defScope (topS 30)) := ⟨rfl, rfl, rfl, by decide +kernel, rfl, by decide +kernel, by decide +kernel⟩
theorem ok_ip (T : Txt K mg) : OkD P w K mg base CX0 5 "is_parting" (topS 30) [] ["kind", "thing"] (spIP K) := by
  obtain ⟨fC, dC, aC, GC⟩ := (ok_ch (P := P) (w := w) (base := base) T).mono (k := 4) (by decide)
  have bC : Binds K dC ["kind", "thing"] [] := aC.F.bindsN fun _ _ _ _ _ _ us hl => match us, hl with | [_, _], _ => rfl
  obtain ⟨fJ, dJ, aJ, GJ⟩ := ok_ij (P := P) (w := w) (base := base) T
  have bJ : Binds K dJ ["kind", "thing"] [] := aJ.F.bindsN fun _ _ _ _ _ _ us hl => match us, hl with | [_, _], _ => rfl
  refine okD T.is_parting sc_ip (fun vs H Q E h => ?_) fun f cdv A outer s H vs Q E hr h => ?_
  · obtain ⟨vk, vt, k, m, p, q, rfl, _⟩ := h
    rfl
  obtain ⟨vk, vt, k, m, p, p2, rfl, hk, ht, kd, fm, lm, fp, lp, fp2, lp2, q⟩ := h
  refine ⟨_, pss_cons (ps_if (PW.pt (pw_or (pt_not (pt_val (pe_isd "tuple" (pv 1) T.z_isinstance T.z_tuple))) (pw_or (pt_cmpR op_ne (pe_callB call_len_seq (by rfl) T.z_len (by decide +kernel) (pa_cons (pv 1) pa_nil)) pe_int (nomark _)) (pw_or1 (pt_not (pt_val (pe_call GC hr (by rfl) aC.g aC.F.kp bC .nil pass0 (pa_cons (pv 0) (pa_cons (pe_ix ix_tup (pv 1) pe_int (fun _ _ => rfl)) pa_nil))))))))) (pss_one (ps_ret pe_bl)) pss_nil)
    (pss_one (ps_ret (pe_and (pe_call GJ hr (by rfl) aJ.g aJ.F.kp bJ .nil pass0 (pa_cons (pv 0) (pa_cons (pe_ix ix_tup (pv 1) pe_int (fun _ _ => rfl)) pa_nil))) (pe_one (pe_call GJ hr (by rfl) aJ.g aJ.F.kp bJ .nil pass0 (pa_cons (pv 0) (pa_cons (pe_ix ix_tup (pv 1) pe_int (fun _ _ => rfl)) pa_nil))))))), ?_⟩
  obtain ⟨a, xs, rfl, ta, hx⟩ := dp_tup ht
  obtain ⟨u1, u2, u3, rfl, d1, d2, d3⟩ := dpa_3 hx
  refine ⟨_, rfl, .ref a, "tuple", _, true, rfl, ht, kit_tup_tup, _, rfl, iteF ?_⟩
  refine ⟨_, rfl, a, _, rfl, .inr ta, rfl, _, rfl, bF (by rfl) ?_⟩
  refine ⟨_, rfl, _, rfl, a, _, 0, u1, rfl, rfl, ta, rfl, vk, u1, k, m, rfl, hk, d1, kd, fm, by omega, fun H1 s1 => ⟨_, rfl, iteF ?_⟩⟩
  refine ⟨_, rfl, _, rfl, a, _, 1, u2, rfl, rfl, s1.tupT ta, rfl, vk, u2, k, p, rfl, hk.up s1, d2.up s1, kd, fp, lp, fun H2 s2 => ⟨_, rfl, iteT ?_⟩⟩
  exact ⟨_, rfl, _, rfl, a, _, 2, u3, rfl, rfl, s2.tupT (s1.tupT ta), rfl, vk, u3, k, p2, rfl, hk.up (s1.trans s2), d3.up (s1.trans s2), kd, fp2, lp2, fun H3 s3 => q H3 (s1.trans (s2.trans s3))⟩
end
end FJ

/-! FJl: is_shaped. -/
namespace FJ
open PySem PySem.Spec PyProof.Rows L2
def Th.Few : Th → Prop
  | .parted m p q => m.len ≤ 100 ∧ p.Few ∧ q.Few
  | .within r => r ≤ 2
  | _ => True
/-- what stands behind the word -/
def Th.rest : Th → PyData
  | .alikeN => .none
  | .alike n => n.dat
  | .parted m p q => .tuple [m.dat, p.dat, q.dat]
  | .within r => .int r
theorem th_dat (t : Th) : t.dat = .tuple [.str t.wd.word, t.rest] := by cases t <;> rfl
section
variable {P : Program} {w : World} {K : PySem.W.Frag} {mg : Str → Option Value} {base : Heap}
abbrev nSh : List Str := ["kind", "thing", "word", "rest"]
def spSh (K : PySem.W.Frag) : Sp := fun vs H Q _ => ∃ (vk vt : V) (k : Kd) (t : Th), vs = [vk, vt] ∧ Dp K H vk k.dat ∧ Dp K H vt t.dat ∧ k.depth ≤ 6 ∧ t.Fits k ∧ t.Few ∧ ∀ H', Same H H' → Q (.bl true) H'
theorem sc_sh : FnScope nSh ["kind", "thing"] (defScope (topS 31)) := ⟨rfl, rfl, rfl, by decide +kernel, rfl, by decide +kernel, by decide +kernel⟩
theorem ok_sh (T : Txt K mg) : OkD P w K mg base CX0 6 "is_shaped" (topS 31) [] ["kind", "thing"] (spSh K) := by
  obtain ⟨fA, dA, aA, GA⟩ := (ok_an (P := P) (w := w) (base := base) T).mono (k := 5) (by decide)
  have bA : Binds K dA ["thing"] [] := aA.F.bindsN fun _ _ _ _ _ _ us hl => match us, hl with | [_], _ => rfl
  obtain ⟨fP, dP, aP, GP⟩ := ok_ip (P := P) (w := w) (base := base) T
  have bP : Binds K dP ["kind", "thing"] [] := aP.F.bindsN fun _ _ _ _ _ _ us hl => match us, hl with | [_, _], _ => rfl
  obtain ⟨fN, dN, aN, GN⟩ := (ok_isNum (P := P) (w := w) (base := base) T).mono (k := 5) (by decide)
  have bN : Binds K dN ["thing"] [] := aN.F.bindsN fun _ _ _ _ _ _ us hl => match us, hl with | [_], _ => rfl
  obtain ⟨tM, gM⟩ := T.MOST_REACH
  refine okD T.is_shaped sc_sh (fun vs H Q E h => ?_) fun f cdv A outer s H vs Q E hr h => ?_
  · obtain ⟨vk, vt, k, t, rfl, _⟩ := h
    rfl
  obtain ⟨vk, vt, k, t, rfl, hk, ht, kd, ft, lt, q⟩ := h
  refine ⟨_, pss_cons (ps_if (PW.pt (pw_or (pt_not (pt_val (pe_isd "tuple" (pv 1) T.z_isinstance T.z_tuple))) (pw_or (pt_cmpR op_ne (pe_callB call_len_seq (by rfl) T.z_len (by decide +kernel) (pa_cons (pv 1) pa_nil)) pe_int (nomark _)) (pw_or1 (pt_not (pt_val (pe_isd "str" (pe_ix ix_tup (pv 1) pe_int (fun _ _ => rfl)) T.z_isinstance T.z_str))))))) (pss_one (ps_ret pe_bl)) pss_nil)
    (pss_cons (ps_asg (pv 1) (pg_tup rfl (pgs_cons (pg_name (i := 2) sc_sh.nd rfl (.inl rfl)) (pgs_cons (pg_name (i := 3) sc_sh.nd rfl (.inl rfl)) pgs_nil))))
    (pss_cons (ps_if (pt_cmpR op_eq (pv 2) pe_str (nomark _)) (pss_one (ps_ret (pe_or (pe_cmpR op_isN (pv 3) pe_non (nomark _)) (pe_one (pe_and (pe_call GA hr (by rfl) aA.g aA.F.kp bA .nil pass0 (pa_cons (pv 3) pa_nil)) (pe_one (pe_cmpR op_eq (pe_callB call_len_seq (by rfl) T.z_len (by decide +kernel) (pa_cons (pv 3) pa_nil)) pe_int (nomark _)))))))) pss_nil)
    (pss_cons (ps_if (pt_cmpR op_eq (pv 2) pe_str (nomark _)) (pss_one (ps_ret (pe_call GP hr (by rfl) aP.g aP.F.kp bP .nil pass0 (pa_cons (pv 0) (pa_cons (pv 3) pa_nil))))) pss_nil)
    (pss_one (ps_ret (pe_and (pe_cmpR op_eq (pv 2) pe_str (nomark _)) (pe_and (pe_call GN hr (by rfl) aN.g aN.F.kp bN .nil pass0 (pa_cons (pv 3) pa_nil)) (pe_one (pe_chain op_le op_le pe_int (pv 3) (pe_glob (v := .int 2) (by rfl) gM ⟨tM, rfl⟩)))))))))), ?_⟩
  have ht2 := ht
  rw [th_dat] at ht2
  obtain ⟨a, xs, rfl, ta, hx⟩ := dp_tup ht2
  obtain ⟨u1, u2, rfl, d1, d2⟩ := dpa_2 hx
  have e1 := dp_str d1
  subst e1
  refine ⟨_, rfl, .ref a, "tuple", _, true, rfl, ht2, kit_tup_tup, _, rfl, iteF ?_⟩
  refine ⟨_, rfl, a, _, rfl, .inr ta, rfl, _, rfl, bF (by rfl) ?_⟩
  refine ⟨_, rfl, a, _, 0, .str t.wd.word, rfl, rfl, ta, rfl, .str t.wd.word, "str", _, true, rfl, .str _, kit_str_str, _, rfl, iteF ?_⟩
  refine ⟨_, rfl, a, _, rfl, ta, rfl, _, _, rfl, _, _, rfl, rfl, ?_⟩
  cases t with
  | alikeN =>
    have e := dp_non d2
    subst e
    refine ⟨_, rfl, rfl, _, rfl, dT rfl ?_⟩
    exact ⟨_, rfl, rfl, _, rfl, dT rfl (q H (Same.refl H))⟩
  | alike n =>
    obtain ⟨an, rfl, tn⟩ := dp_ht (ns := [n.1, n.2.1, n.2.2.1, n.2.2.2]) d2
    refine ⟨_, rfl, rfl, _, rfl, dT rfl ?_⟩
    refine ⟨_, rfl, rfl, _, rfl, dF (fun z => by cases z) ?_⟩
    refine ⟨_, rfl, an, _, rfl, tn, (by show 4 ≤ 1000; decide), fun H1 s1 => ⟨_, rfl, iteT ?_⟩⟩
    refine ⟨_, rfl, an, _, rfl, .inr (s1.tupT tn), rfl, ?_⟩
    exact q H1 s1
  | parted m p p2 =>
    refine ⟨_, rfl, rfl, _, rfl, dF (show ¬ V.str Wd.parted.word = V.str "alike" by decide +kernel) ?_⟩
    refine ⟨_, rfl, rfl, _, rfl, dT rfl ?_⟩
    exact ⟨_, rfl, _, rfl, vk, u2, k, m, p, p2, rfl, hk, d2, kd, ft.1, lt.1, ft.2.1, lt.2.1, ft.2.2, lt.2.2, q⟩
  | within r =>
    have e := dp_int d2
    subst e
    have lt : r ≤ 2 := lt
    refine ⟨_, rfl, rfl, _, rfl, dF (show ¬ V.str Wd.within.word = V.str "alike" by decide +kernel) ?_⟩
    refine ⟨_, rfl, rfl, _, rfl, dF (show ¬ V.str Wd.within.word = V.str "parted" by decide +kernel) ?_⟩
    refine ⟨_, rfl, rfl, _, rfl, dT rfl ?_⟩
    refine ⟨_, rfl, r, rfl, _, rfl, iteT ?_⟩
    refine ⟨_, rfl, 0, r, rfl, rfl, _, rfl, dT (by omega) ?_⟩
    refine ⟨r, 2, rfl, rfl, ?_⟩
    have e : decide ((r : Int) ≤ 2) = true := decide_eq_true (by omega)
    show Q (.bl (decide ((r : Int) ≤ 2))) H
    rw [e]
    exact q H (Same.refl H)
end
end FJ

/-! FJm: NoPaper, need. -/
namespace FJ
open PySem PySem.Spec PyProof.Rows L2
def clsBody : Stmt → List Stmt
  | .ClassDef _ _ _ b _ _ _ _ _ _ _ => b
  | _ => []
def initS : Stmt := (clsBody (topS 3)).getD 0 (.Pass ⟨0, 0, 0, 0⟩)
structure NoP (K : PySem.W.Frag) (mg : Str → Option Value) (C CP fI : Addr) : Prop where
  g : mg "NoPaper" = some (.ref C)
  gP : mg "PaperError" = some (.ref CP)
  oex : OexC K C
  init : PySem.W.findIn K (.ref C) "__init__" = some (some (.ref fI))
  tI : PySem.W.typeIn K (.ref fI) = some (.type "function")
  fd : ∃ fd, FunD K "__init__" "NoPaper.__init__" (defArgs initS) (defBody initS) (defScope initS) [] [] fI fd
  noW : PySem.W.findIn K (.ref C) "word" = some none
  noA : PySem.W.findIn K (.ref C) "at" = some none
  ga : PySem.W.specialIn K (.ref CP) "__getattribute__" = some (some (.builtin "type.__getattribute__"))
  rd : PySem.W.readsIn K CP (.type "type") = true
  at_ : PySem.W.findCls K (.ref CP) (.type "type") "__init__" = some (.val (.builtin "ValueError.__init__"))
  kB : True
  exm : PySem.W.exmOne K (.ref C) (.ref C) = some true
section
variable {X : Cx} {e : Expr} {es : List Expr} {ta : TA} {x : Str} {p1 p2 pos : Pos} {CP : Addr}
/-- P.__init__(self, ..) of an own class without an __init__ of its own over ValueError -/
theorem pe_pinit {pl : Sem Bool} (hg : Gl X x) (hm : X.mg x = some (.ref CP)) (ga : PySem.W.specialIn X.K (.ref CP) "__getattribute__" = some (some (.builtin "type.__getattribute__"))) (rd : PySem.W.readsIn X.K CP (.type "type") = true)
    (vV : PySem.W.findCls X.K (.ref CP) (.type "type") "__init__" = some (.val (.builtin "ValueError.__init__"))) (ha : PA X (e :: es) ta)
    (hc : eval (.Call (.Attribute (.Name x p1) "__init__" p2) (e :: es) [] pos) X.env = (do
      let ov ← eval (.Name x p1) X.env
      standAt p2.atName
      let (f, first) ← holding [ov] (getMethod ov "__init__" pl)
      callWith pos f first (backTo pos (starEach (e :: es) X.env)) (backToKw pos (keywordEach [] X.env))) := by rfl)
    (hdb : (x == ("__debug__" : Str)) = false := by decide)
    (he : starEach (e :: es) X.env = (false, eval e X.env) :: starEach es X.env := by rfl) (hpl : (backTo pos (starEach es X.env)).any (·.1) = false := by rfl) :
    PE X (.Call (.Attribute (.Name x p1) "__init__" p2) (e :: es) [] pos) (tVeI X.K ta) := by
  refine ⟨fun pins s σ H Q I h => ?_⟩
  refine PySem.W.methodCall_KW (ld_glob I hg hm ?_ hdb) hc
  refine PySem.W.method_cls I.kIn ga (PySem.W.cls_value I.kIn rd vV (by decide +kernel) ?_)
  show wpAny _ _ (callWith pos (Value.builtin "ValueError.__init__") [] (backTo pos (starEach (e :: es) X.env)) []) _ _ _
  refine PyProof.Rows.callWith_method1 (thn (ha.run pos pins _ σ H _ (I.tok _) h) fun us s1 ⟨vs, H1, I1, r1, a, C, ws, ev, hl, T, ea, q⟩ => ?_) he hpl
  subst ev
  cases r1 with
  | @cons _ u0 _ ur ra rw' =>
    obtain rfl : u0 = Value.ref a := ra
    have hlen : ur.length ≤ sizeLine := by
      rw [← Paired.length rw', sizeLine_eq]
      omega
    exact oinit_ok T I1 ea hlen fun s' J => ⟨.non, H1, J, rfl, q⟩
end
section
variable {P : Program} {w : World} {K : PySem.W.Frag} {mg : Str → Option Value} {base : Heap} {C CP fI : Addr}
abbrev nIn : List Str := ["self", "word", "at"]
def spIn (C : Addr) : Sp := fun vs H Q _ => ∃ (a : Addr) (x y : V), vs = [.ref a, x, y] ∧ H a = some (exo a C none) ∧ ∀ dx, H dx = none → dx ≠ a → Q .non (upd (upd (upd H dx (exd dx [("word", x)])) a (exo a C (some dx))) dx (exd dx [("at", y), ("word", x)]))
theorem sc_in : FnScope nIn nIn (defScope initS) := ⟨rfl, rfl, rfl, by decide +kernel, rfl, by decide +kernel, by decide +kernel⟩
theorem ok_in (T : NoP K mg C CP fI) : ∃ fd, FnOk P w K mg base CX0 1 fI fd nIn (spIn C) ∧ Binds K fd nIn [] := by
  obtain ⟨fd, F⟩ := T.fd
  refine ⟨fd, F.ok sc_in (fun vs H Q E h => ?_) fun cdv A outer s H vs Q E hr h => ?_, F.bindsN fun _ _ _ _ _ _ us hl => match us, hl with | [_, _, _], _ => rfl⟩
  · obtain ⟨a, x, y, rfl, _⟩ := h
    rfl
  obtain ⟨a, x, y, rfl, ha, q⟩ := h
  refine ⟨_, PSs.nox (pss_cons (ps_expr (pe_pinit (by rfl) T.gP T.ga T.rd T.at_ (pa_cons (pv 0) (pa_cons pe_str pa_nil)))) (pss_cons (ps_ost (pv 0) (pv 1)) (pss_one (ps_ost (pv 0) (pv 2))))), ?_⟩
  refine ⟨_, rfl, a, C, [.str "no such paper"], rfl, by simp, T.oex, ha, ?_⟩
  refine ⟨_, rfl, _, rfl, a, C, rfl, T.oex, T.noW, .inl ⟨ha, fun dx nd ne => ?_⟩⟩
  refine ⟨_, rfl, _, rfl, a, C, rfl, T.oex, T.noA, .inr ⟨dx, [("word", x)], upd_same, ?_, by simp, q dx nd ne⟩⟩
  rw [upd_ne ne]
  exact upd_same

/-! ### need -/
abbrev nNd : List Str := ["truth", "word"]
def spNd (C : Addr) : Sp := fun vs H Q E => ∃ (c : Bool) (x : Str), vs = [.bl c, .str x] ∧ (c = true → ∀ H', Same H H' → Q .non H') ∧ (c = false → ∀ d H', Same H H' → E (.ref C) d H')
theorem sc_nd : FnScope nNd nNd (defScope (topS 28)) := ⟨rfl, rfl, rfl, by decide +kernel, rfl, by decide +kernel, by decide +kernel⟩
theorem ok_nd (T : Txt K mg) (N : NoP K mg C CP fI) : OkD P w K mg base (CX P w) 3 "need" (topS 28) [] nNd (spNd C) := by
  obtain ⟨fd, F, bI⟩ := ok_in (P := P) (w := w) (base := base) N
  refine okX T.need sc_nd (fun vs H Q E h => ?_) fun f cdv A outer s H vs Q E hr h => ?_
  · obtain ⟨c, x, rfl, _⟩ := h
    rfl
  obtain ⟨c, x, rfl, q1, q2⟩ := h
  refine ⟨_, pss_one (ps_if (pt_not (pt_val (pv 0))) (pss_one (ps_raise rfl (takes_of rfl rfl rfl rfl) (pmk_oex N.oex N.init N.tI F hr bI .nil pass0 (by rfl) N.g (pa_cons (pv 1) (pa_cons (pe_un un_neg pe_int) pa_nil))))) pss_nil), ?_⟩
  refine ⟨_, rfl, c, rfl, ?_⟩
  cases c with
  | true =>
    refine iteF ?_
    exact q1 rfl H (Same.refl H)
  | false =>
    refine iteT ?_
    refine ⟨_, rfl, _, rfl, by simp, fun a na => ?_⟩
    refine ⟨a, _, _, rfl, upd_same, fun dx nd ne => ⟨rfl, dx, _, ?_, upd_same, ?_, ?_⟩⟩
    · rw [upd_ne (Ne.symm ne)]
      exact upd_same
    · rw [upd_ne ne] at nd
      exact nd
    · rw [upd_ne ne] at nd
      refine q2 rfl _ _ fun b o e => ?_
      have hb1 : b ≠ a := ne_of_none e na
      have hb2 : b ≠ dx := ne_of_none e nd
      rw [upd_ne hb2, del_ne hb1, upd_ne hb2, upd_ne hb1, upd_ne hb2, upd_ne hb1]
      exact e
end
end FJ

/-! FJn: need_alike, need_parted. -/
namespace FJ
open PySem PySem.Spec PyProof.Rows L2
def alk : Option N4 → Th
  | none => .alikeN
  | some n => .alike n
theorem eqv_n4 (m n : N4) : PyData.eqv m.dat n.dat = decide (m = n) := by
  obtain ⟨a, b, c, d⟩ := m
  obtain ⟨e, f, g, h⟩ := n
  show PyData.eqvAll ([a, b, c, d].map PyData.int) ([e, f, g, h].map PyData.int) = _
  rw [eqv_ints]
  by_cases h1 : a = e <;> by_cases h2 : b = f <;> by_cases h3 : c = g <;> by_cases h4 : d = h <;> simp [h1, h2, h3, h4]
section
variable {P : Program} {w : World} {K : PySem.W.Frag} {mg : Str → Option Value} {base : Heap} {C CP fI : Addr}
abbrev nNA : List Str := ["kind", "numbers", "same_base", "due"]
def spNA (K : PySem.W.Frag) (C : Addr) : Sp := fun vs H Q E => ∃ (vk vn : V) (k : Kd) (o : Option N4) (same : Bool), vs = [vk, vn, .bl same] ∧ Dp K H vk k.dat ∧ Dp K H vn (optN o) ∧ k.depth ≤ 6 ∧
  (lets k same (alk o) = some .alike → ∀ H', Same H H' → Q .non H') ∧ (lets k same (alk o) = none → ∀ d H', Same H H' → E (.ref C) d H')
theorem sc_na : FnScope nNA ["kind", "numbers", "same_base"] (defScope (topS 32)) := ⟨rfl, rfl, rfl, by decide +kernel, rfl, by decide +kernel, by decide +kernel⟩
theorem ok_na (T : Txt K mg) (N : NoP K mg C CP fI) : OkD P w K mg base (CX P w) 11 "need_alike" (topS 32) [] ["kind", "numbers", "same_base"] (spNA K C) := by
  obtain ⟨fN, dN, aN, GN⟩ := (ok_num (P := P) (w := w) (base := base) T 6).mono (k := 10) (by decide)
  have bN : Binds K dN ["amount"] [] := aN.F.bindsN fun _ _ _ _ _ _ us hl => match us, hl with | [_], _ => rfl
  obtain ⟨fA, dA, aA, GA⟩ := (ok_al (P := P) (w := w) (base := base) T).mono (k := 10) (by decide)
  have bA : Binds K dA ["numbers", "same_base"] [] := aA.F.bindsN fun _ _ _ _ _ _ us hl => match us, hl with | [_, _], _ => rfl
  obtain ⟨fD, dD, aD, GD⟩ := (ok_nd (P := P) (w := w) (base := base) T N).mono (k := 10) (by decide)
  have bD : Binds K dD nNd [] := aD.F.bindsN fun _ _ _ _ _ _ us hl => match us, hl with | [_, _], _ => rfl
  refine okX T.need_alike sc_na (fun vs H Q E h => ?_) fun f cdv A outer s H vs Q E hr h => ?_
  · obtain ⟨vk, vn, k, o, same, rfl, _⟩ := h
    rfl
  obtain ⟨vk, vn, k, o, same, rfl, hk, hn, kd, q1, q2⟩ := h
  have hu := units64 hr
  have tk := takes_of (X := cxOf (CX P w) P w K mg base nNA "need_alike" (defScope (topS 32)) f cdv A outer s H E) rfl rfl rfl rfl
  have ps : Passes (CX P w) (cxOf (CX P w) P w K mg base nNA "need_alike" (defScope (topS 32)) f cdv A outer s H E) E := passes_call tk fun _ _ _ _ h => h
  refine ⟨_, pss_cons (ps_if (pt_not (pt_val (pe_isd "tuple" (pv 0) T.z_isinstance T.z_tuple)))
      (pss_cons (ps_expr (pe_call GD hr (by rfl) aD.g aD.F.kp bD .nil ps (pa_cons (pe_or (pe_cmpR op_in_seq (pv 0) (pe_tup (pa_cons pe_str (pa_cons pe_str pa_nil))) (by rfl)) (pe_one (pe_and (pe_cmpR op_eq (pv 0) pe_str (nomark _)) (pe_one (pv 2))))) (pa_cons pe_str pa_nil))))
      (pss_cons (ps_expr (pe_call GD hr (by rfl) aD.g aD.F.kp bD .nil ps (pa_cons (pe_cmpR op_isN (pv 1) pe_non (nomark _)) (pa_cons pe_str pa_nil))))
      (pss_one ps_retN))) pss_nil)
    (pss_cons (ps_set (i := 3) sc_na.nd rfl (.inl rfl) (pe_call GN hr (by rfl) aN.g aN.F.kp bN .nil pass0 (pa_cons (pe_ix ix_tup (pv 0) pe_int (fun _ _ => rfl)) pa_nil)))
    (pss_cons (ps_expr (pe_call GD hr (by rfl) aD.g aD.F.kp bD .nil ps (pa_cons (pe_cmpR op_notN (pv 3) pe_non (nomark _)) (pa_cons pe_str pa_nil))))
    (pss_cons (ps_expr (pe_call GD hr (by rfl) aD.g aD.F.kp bD .nil ps (pa_cons (pe_cmpR (op_eqD hu) (pv 1) (pv 3) (nomark _)) (pa_cons pe_str pa_nil))))
    (pss_one (ps_expr (pe_call GD hr (by rfl) aD.g aD.F.kp bD .nil ps (pa_cons (pe_call GA hr (by rfl) aA.g aA.F.kp bA .nil pass0 (pa_cons (pv 3) (pa_cons (pv 2) pa_nil))) (pa_cons pe_str pa_nil)))))))), ?_⟩
  cases k with
  | plain =>
    have e := dp_str hk
    subst e
    refine ⟨_, rfl, .str "plain", "tuple", .str "plain", false, rfl, hk, kit_str_tup, _, rfl, iteT ?_⟩
    refine ⟨_, rfl, (by show 2 ≤ sizeLine; decide), fun t nt => ⟨t, [.str "sum", .str "most"], rfl, .inr (SqT.of upd_same), rfl, rfl, _, rfl, bF (by decide +kernel) ?_⟩⟩
    have S0 : Same H (upd H t (.tup [.str "sum", .str "most"])) := same_new nt
    refine ⟨_, rfl, rfl, _, rfl, bF (by decide +kernel) ?_⟩
    refine ⟨_, _, rfl, fun z => absurd z (by decide +kernel), fun _ d H1 s1 => q2 (by cases o <;> rfl) d H1 (S0.trans s1)⟩
  | list =>
    have e := dp_str hk
    subst e
    refine ⟨_, rfl, .str "list", "tuple", .str "list", false, rfl, hk, kit_str_tup, _, rfl, iteT ?_⟩
    refine ⟨_, rfl, (by show 2 ≤ sizeLine; decide), fun t nt => ⟨t, [.str "sum", .str "most"], rfl, .inr (SqT.of upd_same), rfl, rfl, _, rfl, bF (by decide +kernel) ?_⟩⟩
    have S0 : Same H (upd H t (.tup [.str "sum", .str "most"])) := same_new nt
    refine ⟨_, rfl, rfl, _, rfl, bF (by decide +kernel) ?_⟩
    refine ⟨_, _, rfl, fun z => absurd z (by decide +kernel), fun _ d H1 s1 => q2 (by cases o <;> rfl) d H1 (S0.trans s1)⟩
  | sum =>
    have e := dp_str hk
    subst e
    refine ⟨_, rfl, .str "sum", "tuple", .str "sum", false, rfl, hk, kit_str_tup, _, rfl, iteT ?_⟩
    refine ⟨_, rfl, (by show 2 ≤ sizeLine; decide), fun t nt => ⟨t, [.str "sum", .str "most"], rfl, .inr (SqT.of upd_same), rfl, rfl, _, rfl, bT (by decide +kernel) ?_⟩⟩
    have S0 : Same H (upd H t (.tup [.str "sum", .str "most"])) := same_new nt
    refine ⟨_, _, rfl, fun _ H1 s1 => ?_, fun z => absurd z (by decide +kernel)⟩
    -- the numbers are None
    cases o with
    | none =>
      have e := dp_non hn
      subst e
      refine ⟨_, rfl, rfl, _, _, rfl, fun _ H2 s2 => ?_, fun z => absurd z (by decide +kernel)⟩
      exact q1 rfl H2 (S0.trans (s1.trans s2))
    | some n =>
      obtain ⟨an, rfl, tn⟩ := dp_ht (ns := [n.1, n.2.1, n.2.2.1, n.2.2.2]) hn
      have en : decide (V.ref an = V.non) = false := decide_eq_false (fun z => by cases z)
      refine ⟨_, rfl, rfl, _, _, rfl, fun z => absurd z (by rw [en]; decide), fun _ d H2 s2 => q2 rfl d H2 (S0.trans (s1.trans s2))⟩
  | most =>
    have e := dp_str hk
    subst e
    refine ⟨_, rfl, .str "most", "tuple", .str "most", false, rfl, hk, kit_str_tup, _, rfl, iteT ?_⟩
    refine ⟨_, rfl, (by show 2 ≤ sizeLine; decide), fun t nt => ⟨t, [.str "sum", .str "most"], rfl, .inr (SqT.of upd_same), rfl, rfl, _, rfl, bT (by decide +kernel) ?_⟩⟩
    have S0 : Same H (upd H t (.tup [.str "sum", .str "most"])) := same_new nt
    refine ⟨_, _, rfl, fun _ H1 s1 => ?_, fun z => absurd z (by decide +kernel)⟩
    -- the numbers are None
    cases o with
    | none =>
      have e := dp_non hn
      subst e
      refine ⟨_, rfl, rfl, _, _, rfl, fun _ H2 s2 => ?_, fun z => absurd z (by decide +kernel)⟩
      exact q1 rfl H2 (S0.trans (s1.trans s2))
    | some n =>
      obtain ⟨an, rfl, tn⟩ := dp_ht (ns := [n.1, n.2.1, n.2.2.1, n.2.2.2]) hn
      have en : decide (V.ref an = V.non) = false := decide_eq_false (fun z => by cases z)
      refine ⟨_, rfl, rfl, _, _, rfl, fun z => absurd z (by rw [en]; decide), fun _ d H2 s2 => q2 rfl d H2 (S0.trans (s1.trans s2))⟩
  | set =>
    have e := dp_str hk
    subst e
    refine ⟨_, rfl, .str "set", "tuple", .str "set", false, rfl, hk, kit_str_tup, _, rfl, iteT ?_⟩
    refine ⟨_, rfl, (by show 2 ≤ sizeLine; decide), fun t nt => ⟨t, [.str "sum", .str "most"], rfl, .inr (SqT.of upd_same), rfl, rfl, _, rfl, bF (by decide +kernel) ?_⟩⟩
    have S0 : Same H (upd H t (.tup [.str "sum", .str "most"])) := same_new nt
    refine ⟨_, rfl, rfl, _, rfl, bT (by decide +kernel) ?_⟩
    refine ⟨_, rfl, ?_⟩
    cases same with
    | false =>
      refine ⟨_, _, rfl, fun z => absurd z (by decide +kernel), fun _ d H1 s1 => q2 (by cases o <;> rfl) d H1 (S0.trans s1)⟩
    | true =>
      refine ⟨_, _, rfl, fun _ H1 s1 => ?_, fun z => absurd z (by decide +kernel)⟩
      -- the numbers are None
      cases o with
      | none =>
        have e := dp_non hn
        subst e
        refine ⟨_, rfl, rfl, _, _, rfl, fun _ H2 s2 => ?_, fun z => absurd z (by decide +kernel)⟩
        exact q1 rfl H2 (S0.trans (s1.trans s2))
      | some n =>
        obtain ⟨an, rfl, tn⟩ := dp_ht (ns := [n.1, n.2.1, n.2.2.1, n.2.2.2]) hn
        have en : decide (V.ref an = V.non) = false := decide_eq_false (fun z => by cases z)
        refine ⟨_, rfl, rfl, _, _, rfl, fun z => absurd z (by rw [en]; decide), fun _ d H2 s2 => q2 rfl d H2 (S0.trans (s1.trans s2))⟩
  | own sm =>
    obtain ⟨a, xs, rfl, ta, hx⟩ := dp_tup (ds := [.str "own", sm.dat]) hk
    obtain ⟨u1, u2, rfl, d1, d2⟩ := dpa_2 hx
    refine ⟨_, rfl, .ref a, "tuple", (Kd.own sm).dat, true, rfl, hk, kit_tup_tup, _, rfl, iteF ?_⟩
    refine ⟨_, rfl, a, _, 1, u2, rfl, rfl, ta, rfl, u2, sm, rfl, d2, kd, fun H1 vd s1 dd => ?_⟩
    cases en : numbersOf sm with
    | none =>
      rw [en] at dd
      have e := dp_non dd
      subst e
      refine ⟨_, rfl, rfl, _, _, rfl, fun z => absurd z (by decide +kernel), fun _ d H2 s2 => q2 ?_ d H2 (s1.trans s2)⟩
      cases o with
      | none => rfl
      | some n =>
        show (match numbersOf sm with | some due => if n = due then (if isAlike due same then some Wd.alike else none) else none | none => none) = none
        rw [en]
    | some due =>
      rw [en] at dd
      obtain ⟨an, rfl, tn⟩ := dp_ht (ns := [due.1, due.2.1, due.2.2.1, due.2.2.2]) dd
      have en2 : decide (V.ref an = V.non) = false := decide_eq_false (fun z => by cases z)
      refine ⟨_, rfl, rfl, _, _, rfl, fun _ H2 s2 => ?_, fun z => absurd z (by rw [en2]; decide)⟩
      have hn2 := hn.up (s1.trans s2)
      have dd2 := dd.up s2
      refine ⟨_, rfl, _, rfl, optN o, due.dat, hn2, dd2, shaped_optN o, shaped_optN (some due), _, _, rfl, fun z H3 s3 => ?_, fun z d H3 s3 => ?_⟩
      · -- the same numbers
        cases o with
        | none => cases z
        | some n =>
          have z : PyData.eqv n.dat due.dat = true := z
          rw [eqv_n4] at z
          have e := of_decide_eq_true z
          subst e
          have el : lets (.own sm) same (.alike n) = if isAlike n same = true then some Wd.alike else none := by
            show (match numbersOf sm with | some due => if n = due then (if isAlike due same then some Wd.alike else none) else none | none => none) = _
            rw [en]
            exact if_pos rfl
          have q1 : lets (.own sm) same (.alike n) = some .alike → ∀ H', Same H H' → Q .non H' := q1
          have q2 : lets (.own sm) same (.alike n) = none → ∀ d H', Same H H' → E (.ref C) d H' := q2
          rw [el] at q1 q2
          refine ⟨_, rfl, _, rfl, .ref an, n, same, rfl, dd2.up s3, _, _, rfl, fun z H4 s4 => ?_, fun z d H4 s4 => ?_⟩
          · rw [z] at q1
            exact q1 rfl H4 (s1.trans (s2.trans (s3.trans s4)))
          · rw [z] at q2
            exact q2 rfl d H4 (s1.trans (s2.trans (s3.trans s4)))
      · refine q2 ?_ d H3 (s1.trans (s2.trans s3))
        cases o with
        | none => rfl
        | some n =>
          have z : PyData.eqv n.dat due.dat = false := z
          rw [eqv_n4] at z
          have e := of_decide_eq_false z
          show (match numbersOf sm with | some due => if n = due then (if isAlike due same then some Wd.alike else none) else none | none => none) = none
          rw [en]
          exact if_neg e
end
end FJ

/-! FJo: need_parted, lets_order. -/
namespace FJ
open PySem PySem.Spec PyProof.Rows L2
section
variable {P : Program} {w : World} {K : PySem.W.Frag} {mg : Str → Option Value} {base : Heap} {C CP fI : Addr}
abbrev nNP : List Str := ["kind", "rest", "same_base", "mine", "one", "other", "here", "there"]
def spNP (K : PySem.W.Frag) (C : Addr) : Sp := fun vs H Q E => ∃ (vk vr : V) (k : Kd) (m : HV) (p r : Jn) (same : Bool), vs = [vk, vr, .bl same] ∧ Dp K H vk k.dat ∧ Dp K H vr (.tuple [m.dat, p.dat, r.dat]) ∧ k.depth ≤ 6 ∧
  (Th.parted m p r).Fits k ∧ (Th.parted m p r).Few ∧ (lets k same (.parted m p r) = some .parted → ∀ H', Same H H' → Q .non H') ∧ (lets k same (.parted m p r) = none → ∀ d H', Same H H' → E (.ref C) d H')
theorem sc_np : FnScope nNP ["kind", "rest", "same_base"] (defScope (topS 33)) := ⟨rfl, rfl, rfl, by decide +kernel, rfl, by decide +kernel, by decide +kernel⟩
theorem ok_np (T : Txt K mg) (N : NoP K mg C CP fI) : OkD P w K mg base (CX P w) 11 "need_parted" (topS 33) [] ["kind", "rest", "same_base"] (spNP K C) := by
  obtain ⟨fB, dB, aB, GB⟩ := (ok_bo (P := P) (w := w) (base := base) T).mono (k := 10) (by decide)
  have bB : KBn K dB nBO 1 ["mine", "one", "other"] (· ++ ·) (· ++ ·) := kb_all aB.F fun _ _ _ _ _ _ us ws h1 h2 => match us, ws, h1, h2 with | [_], [_, _, _], _, _ => rfl
  obtain ⟨fD, dD, aD, GD⟩ := (ok_nd (P := P) (w := w) (base := base) T N).mono (k := 10) (by decide)
  have bD : Binds K dD nNd [] := aD.F.bindsN fun _ _ _ _ _ _ us hl => match us, hl with | [_, _], _ => rfl
  refine okX T.need_parted sc_np (fun vs H Q E h => ?_) fun f cdv A outer s H vs Q E hr h => ?_
  · obtain ⟨vk, vr, k, m, p, r, same, rfl, _⟩ := h
    rfl
  obtain ⟨vk, vr, k, m, p, r, same, rfl, hk, hv, kd, ft, fw, q1, q2⟩ := h
  have hu := units64 hr
  have tk := takes_of (X := cxOf (CX P w) P w K mg base nNP "need_parted" (defScope (topS 33)) f cdv A outer s H E) rfl rfl rfl rfl
  have ps : Passes (CX P w) (cxOf (CX P w) P w K mg base nNP "need_parted" (defScope (topS 33)) f cdv A outer s H E) E := passes_call tk fun _ _ _ _ h => h
  refine ⟨_, pss_cons (ps_asg (pv 1) (pg_tup rfl (pgs_cons (pg_name (i := 3) sc_np.nd rfl (.inl rfl)) (pgs_cons (pg_name (i := 4) sc_np.nd rfl (.inl rfl)) (pgs_cons (pg_name (i := 5) sc_np.nd rfl (.inl rfl)) pgs_nil)))))
    (pss_cons (ps_expr (pe_call GD hr (by rfl) aD.g aD.F.kp bD .nil ps (pa_cons (pe_or (pe_cmpR (op_eqD hu) (pe_ix ix_tup (pv 4) pe_int (fun _ _ => rfl)) (pe_ix ix_tup (pv 5) pe_int (fun _ _ => rfl)) (nomark _)) (pe_one (pe_not (pv 2)))) (pa_cons pe_str pa_nil))))
    (pss_cons (ps_asg (pe_callN GB hr (by rfl) aB.g aB.F.kp bB pass0 (pa_cons (pv 0) pa_nil) (pk_cons (pv 3) (pk_cons (pv 4) (pk_cons (pv 5) pk_nil)))) (pg_tup rfl (pgs_cons (pg_name (i := 6) sc_np.nd rfl (.inl rfl)) (pgs_cons (pg_name (i := 7) sc_np.nd rfl (.inl rfl)) pgs_nil))))
    (pss_one (ps_expr (pe_call GD hr (by rfl) aD.g aD.F.kp bD .nil ps (pa_cons (pe_cmpR (op_neD hu) (pv 6) (pv 7) (nomark _)) (pa_cons pe_str pa_nil))))))), ?_⟩
  obtain ⟨a, xs, rfl, ta, hx⟩ := dp_tup hv
  obtain ⟨u1, u2, u3, rfl, d1, d2, d3⟩ := dpa_3 hx
  obtain ⟨a2, x2, rfl, t2, h2⟩ := dp_tup (ds := [p.base.dat, p.theirs.dat]) d2
  obtain ⟨v1, v2, rfl, e1, e2⟩ := dpa_2 h2
  obtain ⟨a3, x3, rfl, t3, h3⟩ := dp_tup (ds := [r.base.dat, r.theirs.dat]) d3
  obtain ⟨w1, w2, rfl, g1, g2⟩ := dpa_2 h3
  have el : lets k same (.parted m p r) = if (decide (p.base = r.base) || !same) && decide (two k m p r ≠ two k m r p) then some .parted else none := rfl
  rw [el] at q1 q2
  refine ⟨_, rfl, a, _, rfl, ta, rfl, _, _, rfl, _, _, rfl, _, _, rfl, rfl, ?_⟩
  refine ⟨_, rfl, a2, _, 0, v1, rfl, rfl, t2, rfl, _, rfl, a3, _, 0, w1, rfl, rfl, t3, rfl, p.base.dat, r.base.dat, e1, g1, shaped_hv _, shaped_hv _, _, rfl, ?_⟩
  rw [eqv_hv]
  by_cases hb : p.base = r.base
  · have eb : decide (p.base = r.base) = true := decide_eq_true hb
    refine dT hb ?_
    refine ⟨_, _, rfl, fun _ H1 s1 => ?_, fun z => absurd z (by decide)⟩
    refine ⟨_, rfl, _, rfl, _, rfl, _, rfl, rfl, rfl, vk, u1, .ref a2, .ref a3, k, m, p, r, rfl, hk.up s1, d1.up s1, d2.up s1, d3.up s1, kd, ft.1, ft.2.1, ft.2.2, fw.1, fw.2.1.2, fw.2.2.2, fun H3 x3 s3 dx3 => ?_⟩
    obtain ⟨a4, zs, rfl, t4, hz⟩ := dp_tup dx3
    obtain ⟨y1, y2, rfl, k1, k2⟩ := dpa_2 hz
    refine ⟨a4, _, rfl, t4, rfl, _, _, rfl, _, _, rfl, rfl, ?_⟩
    refine ⟨_, rfl, _, rfl, (two k m p r).dat, (two k m r p).dat, k1, k2, shaped_hv _, shaped_hv _, _, _, rfl, fun z H4 s4 => ?_, fun z d H4 s4 => ?_⟩
    · refine q1 ?_ H4 (s1.trans (s3.trans s4))
      rw [eqv_hv] at z
      have ne : two k m p r ≠ two k m r p := of_decide_eq_false (by simpa using z)
      rw [eb, Bool.true_or, decide_eq_true ne]
      rfl
    · refine q2 ?_ d H4 (s1.trans (s3.trans s4))
      rw [eqv_hv] at z
      have e : two k m p r = two k m r p := of_decide_eq_true (by simpa using z)
      have ed : decide (two k m p r ≠ two k m r p) = false := decide_eq_false (fun n => n e)
      rw [ed, Bool.and_false]
      rfl
  · have eb : decide (p.base = r.base) = false := decide_eq_false hb
    refine dF hb ?_
    refine ⟨_, rfl, same, rfl, ?_⟩
    cases same with
    | false =>
      refine ⟨_, _, rfl, fun _ H1 s1 => ?_, fun z => absurd z (by decide)⟩
      refine ⟨_, rfl, _, rfl, _, rfl, _, rfl, rfl, rfl, vk, u1, .ref a2, .ref a3, k, m, p, r, rfl, hk.up s1, d1.up s1, d2.up s1, d3.up s1, kd, ft.1, ft.2.1, ft.2.2, fw.1, fw.2.1.2, fw.2.2.2, fun H3 x3 s3 dx3 => ?_⟩
      obtain ⟨a4, zs, rfl, t4, hz⟩ := dp_tup dx3
      obtain ⟨y1, y2, rfl, k1, k2⟩ := dpa_2 hz
      refine ⟨a4, _, rfl, t4, rfl, _, _, rfl, _, _, rfl, rfl, ?_⟩
      refine ⟨_, rfl, _, rfl, (two k m p r).dat, (two k m r p).dat, k1, k2, shaped_hv _, shaped_hv _, _, _, rfl, fun z H4 s4 => ?_, fun z d H4 s4 => ?_⟩
      · refine q1 ?_ H4 (s1.trans (s3.trans s4))
        rw [eqv_hv] at z
        have ne : two k m p r ≠ two k m r p := of_decide_eq_false (by simpa using z)
        rw [eb, Bool.false_or, Bool.not_false, decide_eq_true ne]
        rfl
      · refine q2 ?_ d H4 (s1.trans (s3.trans s4))
        rw [eqv_hv] at z
        have e : two k m p r = two k m r p := of_decide_eq_true (by simpa using z)
        have ed : decide (two k m p r ≠ two k m r p) = false := decide_eq_false (fun n => n e)
        rw [ed, Bool.and_false]
        rfl
    | true =>
      refine ⟨_, _, rfl, fun z => absurd z (by decide), fun _ d H1 s1 => q2 ?_ d H1 s1⟩
      rw [eb]
      rfl

/-! ### lets_order -/
abbrev nLO : List Str := ["kind", "thing", "same_base", "word", "rest"]
def spLO (K : PySem.W.Frag) (C : Addr) : Sp := fun vs H Q E => ∃ (vk vt : V) (k : Kd) (t : Th) (same : Bool), vs = [vk, vt, .bl same] ∧ Dp K H vk k.dat ∧ Dp K H vt t.dat ∧ k.depth ≤ 6 ∧ t.Fits k ∧ t.Few ∧
  (∀ wd, lets k same t = some wd → ∀ H', Same H H' → Q (.str wd.word) H') ∧ (lets k same t = none → ∀ d H', Same H H' → E (.ref C) d H')
theorem sc_lo : FnScope nLO ["kind", "thing", "same_base"] (defScope (topS 34)) := ⟨rfl, rfl, rfl, by decide +kernel, rfl, by decide +kernel, by decide +kernel⟩
theorem lets_alk {k : Kd} {same : Bool} {o : Option N4} {wd : Wd} (h : lets k same (alk o) = some wd) : wd = .alike := by
  cases o with
  | none =>
    cases k with
    | sum => exact (Option.some.inj h).symm
    | most => exact (Option.some.inj h).symm
    | set =>
      cases same with
      | true => exact (Option.some.inj h).symm
      | false => cases h
    | plain => cases h
    | list => cases h
    | own s => cases h
  | some n =>
    cases k with
    | own s =>
      have h : (match numbersOf s with | some due => if n = due then (if isAlike due same then some Wd.alike else none) else none | none => none) = some wd := h
      cases e : numbersOf s with
      | none => rw [e] at h; cases h
      | some due =>
        rw [e] at h
        dsimp only at h
        split at h
        · split at h
          · exact (Option.some.inj h).symm
          · cases h
        · cases h
    | _ => cases h
theorem ok_lo (T : Txt K mg) (N : NoP K mg C CP fI) : OkD P w K mg base (CX P w) 12 "lets_order" (topS 34) [] ["kind", "thing", "same_base"] (spLO K C) := by
  obtain ⟨fS, dS, aS, GS⟩ := (ok_sh (P := P) (w := w) (base := base) T).mono (k := 11) (by decide)
  have bS : Binds K dS ["kind", "thing"] [] := aS.F.bindsN fun _ _ _ _ _ _ us hl => match us, hl with | [_, _], _ => rfl
  obtain ⟨fD, dD, aD, GD⟩ := (ok_nd (P := P) (w := w) (base := base) T N).mono (k := 11) (by decide)
  have bD : Binds K dD nNd [] := aD.F.bindsN fun _ _ _ _ _ _ us hl => match us, hl with | [_, _], _ => rfl
  obtain ⟨fA, dA, aA, GA⟩ := ok_na (P := P) (w := w) (base := base) T N
  have bA : Binds K dA ["kind", "numbers", "same_base"] [] := aA.F.bindsN fun _ _ _ _ _ _ us hl => match us, hl with | [_, _, _], _ => rfl
  obtain ⟨fP, dP, aP, GP⟩ := ok_np (P := P) (w := w) (base := base) T N
  have bP : Binds K dP ["kind", "rest", "same_base"] [] := aP.F.bindsN fun _ _ _ _ _ _ us hl => match us, hl with | [_, _, _], _ => rfl
  obtain ⟨fN, dN, aN, GN⟩ := (ok_num (P := P) (w := w) (base := base) T 6).mono (k := 11) (by decide)
  have bN : Binds K dN ["amount"] [] := aN.F.bindsN fun _ _ _ _ _ _ us hl => match us, hl with | [_], _ => rfl
  obtain ⟨fT, dT0, aT, GT⟩ := (ok_pt (P := P) (w := w) (base := base) T).mono (k := 11) (by decide)
  have bT0 : KBn K dT0 ["kind", "reach", "same_base"] 1 ["reach", "same_base"] (· ++ ·) (· ++ ·) := kb_all aT.F fun _ _ _ _ _ _ us ws h1 h2 => match us, ws, h1, h2 with | [_], [_, _], _, _ => rfl
  refine okX T.lets_order sc_lo (fun vs H Q E h => ?_) fun f cdv A outer s H vs Q E hr h => ?_
  · obtain ⟨vk, vt, k, t, same, rfl, _⟩ := h
    rfl
  obtain ⟨vk, vt, k, t, same, rfl, hk, ht, kd, ft, fw, q1, q2⟩ := h
  have tk := takes_of (X := cxOf (CX P w) P w K mg base nLO "lets_order" (defScope (topS 34)) f cdv A outer s H E) rfl rfl rfl rfl
  have ps : Passes (CX P w) (cxOf (CX P w) P w K mg base nLO "lets_order" (defScope (topS 34)) f cdv A outer s H E) E := passes_call tk fun _ _ _ _ h => h
  refine ⟨_, pss_cons (ps_expr (pe_call GD hr (by rfl) aD.g aD.F.kp bD .nil ps (pa_cons (pe_call GS hr (by rfl) aS.g aS.F.kp bS .nil pass0 (pa_cons (pv 0) (pa_cons (pv 1) pa_nil))) (pa_cons pe_str pa_nil))))
    (pss_cons (ps_asg (pv 1) (pg_tup rfl (pgs_cons (pg_name (i := 3) sc_lo.nd rfl (.inl rfl)) (pgs_cons (pg_name (i := 4) sc_lo.nd rfl (.inl rfl)) pgs_nil))))
    (pss_cons (ps_if (pt_cmpR op_eq (pv 3) pe_str (nomark _)) (pss_one (ps_expr (pe_call GA hr (by rfl) aA.g aA.F.kp bA .nil ps (pa_cons (pv 0) (pa_cons (pv 4) (pa_cons (pv 2) pa_nil))))))
      (pss_one (ps_if (pt_cmpR op_eq (pv 3) pe_str (nomark _)) (pss_one (ps_expr (pe_call GP hr (by rfl) aP.g aP.F.kp bP .nil ps (pa_cons (pv 0) (pa_cons (pv 4) (pa_cons (pv 2) pa_nil))))))
        (pss_cons (ps_expr (pe_call GD hr (by rfl) aD.g aD.F.kp bD .nil ps (pa_cons (pe_and (pe_isd "tuple" (pv 0) T.z_isinstance T.z_tuple) (pe_one (pe_cmpR op_isN (pe_call GN hr (by rfl) aN.g aN.F.kp bN .nil pass0 (pa_cons (pe_ix ix_tup (pv 0) pe_int (fun _ _ => rfl)) pa_nil)) pe_non (nomark _)))) (pa_cons pe_str pa_nil))))
        (pss_one (ps_expr (pe_call GD hr (by rfl) aD.g aD.F.kp bD .nil ps (pa_cons (pe_cmpR op_isN (pe_callN GT hr (by rfl) aT.g aT.F.kp bT0 pass0 (pa_cons (pv 0) pa_nil) (pk_cons (pv 4) (pk_cons (pv 2) pk_nil))) pe_non (nomark _)) (pa_cons pe_str pa_nil)))))))))
    (pss_one (ps_ret (pv 3))))), ?_⟩
  refine ⟨_, rfl, _, rfl, vk, vt, k, t, rfl, hk, ht, kd, ft, fw, fun H0 s0 => ?_⟩
  refine ⟨_, _, rfl, fun _ H1 s1 => ?_, fun z => absurd z (by decide)⟩
  have s01 : Same H H1 := s0.trans s1
  have ht2 := ht.up s01
  have hk2 := hk.up s01
  rw [th_dat] at ht2
  obtain ⟨a, xs, rfl, ta, hx⟩ := dp_tup ht2
  obtain ⟨u1, u2, rfl, d1, d2⟩ := dpa_2 hx
  have e1 := dp_str d1
  subst e1
  refine ⟨_, rfl, a, _, rfl, ta, rfl, _, _, rfl, _, _, rfl, rfl, ?_⟩
  cases t with
  | alikeN =>
    refine ⟨_, rfl, rfl, _, rfl, dT rfl ?_⟩
    refine ⟨_, rfl, _, rfl, _, rfl, vk, u2, k, none, same, rfl, hk2, d2, kd, fun el H2 s2 => ?_, fun el d H2 s2 => q2 el d H2 (s01.trans s2)⟩
    exact ⟨_, rfl, q1 .alike el H2 (s01.trans s2)⟩
  | alike n =>
    refine ⟨_, rfl, rfl, _, rfl, dT rfl ?_⟩
    refine ⟨_, rfl, _, rfl, _, rfl, vk, u2, k, some n, same, rfl, hk2, d2, kd, fun el H2 s2 => ?_, fun el d H2 s2 => q2 el d H2 (s01.trans s2)⟩
    exact ⟨_, rfl, q1 .alike el H2 (s01.trans s2)⟩
  | parted m p r =>
    refine ⟨_, rfl, rfl, _, rfl, dF (show ¬ V.str Wd.parted.word = V.str "alike" by decide +kernel) ?_⟩
    refine ⟨_, rfl, rfl, _, rfl, dT rfl ?_⟩
    refine ⟨_, rfl, _, rfl, _, rfl, vk, u2, k, m, p, r, same, rfl, hk2, d2, kd, ft, fw, fun el H2 s2 => ?_, fun el d H2 s2 => q2 el d H2 (s01.trans s2)⟩
    exact ⟨_, rfl, q1 .parted el H2 (s01.trans s2)⟩
  | within r =>
    have e := dp_int d2
    subst e
    refine ⟨_, rfl, rfl, _, rfl, dF (show ¬ V.str Wd.within.word = V.str "alike" by decide +kernel) ?_⟩
    refine ⟨_, rfl, rfl, _, rfl, dF (show ¬ V.str Wd.within.word = V.str "parted" by decide +kernel) ?_⟩
    have word : (∀ s, k ≠ .own s) → ∃ x, k.dat = .str x := fun z => by
      cases k with
      | own s => exact absurd rfl (z s)
      | _ => exact ⟨_, rfl⟩
    by_cases ho : ∃ sm, k = .own sm
    · obtain ⟨sm, rfl⟩ := ho
      obtain ⟨b, ys, rfl, tb, hy⟩ := dp_tup (ds := [.str "own", sm.dat]) hk2
      obtain ⟨z1, z2, rfl, g1, g2⟩ := dpa_2 hy
      refine ⟨_, rfl, .ref b, "tuple", (Kd.own sm).dat, true, rfl, hk2, kit_tup_tup, _, rfl, iteT ?_⟩
      refine ⟨_, rfl, b, _, 1, z2, rfl, rfl, tb, rfl, z2, sm, rfl, g2, kd, fun H2 vd s2 dd => ?_⟩
      have el : lets (.own sm) same (.within r) = match numbersOf sm with
        | some _ => none
        | none => match parting (.own sm) r same with
          | none => some .within
          | some _ => none := rfl
      rw [el] at q1 q2
      cases en : numbersOf sm with
      | some n =>
        rw [en] at dd q1 q2
        obtain ⟨an, rfl, tn⟩ := dp_ht (ns := [n.1, n.2.1, n.2.2.1, n.2.2.2]) dd
        have en2 : decide (V.ref an = V.non) = false := decide_eq_false (fun z => by cases z)
        exact ⟨rfl, _, _, rfl, fun z => absurd z (by rw [en2]; decide), fun _ d H3 s3 => q2 rfl d H3 (s01.trans (s2.trans s3))⟩
      | none =>
        rw [en] at dd q1 q2
        have e := dp_non dd
        subst e
        refine ⟨rfl, _, _, rfl, fun _ H3 s3 => ?_, fun z => absurd z (by decide +kernel)⟩
        refine ⟨_, rfl, _, rfl, _, rfl, rfl, rfl, .ref b, sm, r, same, rfl, hk2.up (s2.trans s3), kd, fw, fun H4 x4 s4 d4 => ?_⟩
        cases ep : parting (.own sm) r same with
        | none =>
          rw [ep] at d4
          simp only [ep] at q1
          have e := dp_non d4
          subst e
          refine ⟨rfl, _, _, rfl, fun _ H5 s5 => ?_, fun z => absurd z (by decide +kernel)⟩
          exact ⟨_, rfl, q1 .within rfl H5 (s01.trans (s2.trans (s3.trans (s4.trans s5))))⟩
        | some pp =>
          rw [ep] at d4
          simp only [ep] at q2
          have nn : decide (x4 = V.non) = false := decide_eq_false fun z => by
            subst z
            have d4 : Dp K H4 .non (partD pp) := d4
            cases d4
          exact ⟨rfl, _, _, rfl, fun z => absurd z (by rw [nn]; decide), fun _ d H5 s5 => q2 trivial d H5 (s01.trans (s2.trans (s3.trans (s4.trans s5))))⟩
    · obtain ⟨x, ex⟩ := word fun s z => ho ⟨s, z⟩
      have q2 := q2 (by
        cases k with
        | own s => exact absurd ⟨s, rfl⟩ ho
        | _ => rfl)
      rw [ex] at hk2
      have e := dp_str hk2
      subst e
      refine ⟨_, rfl, .str x, "tuple", .str x, false, rfl, hk2, kit_str_tup, _, rfl, iteF ?_⟩
      exact ⟨_, _, rfl, fun z => absurd z (by decide), fun _ d H2 s2 => q2 d H2 (s01.trans s2)⟩
end
end FJ

/-! FJp: the feed, _law_draw. -/
namespace FJ
open PySem PySem.Spec PyProof.Rows L2
/-! ### what stands beside a dict -/
section
variable {K : PySem.W.Frag} {H H' : Hp} {f : Addr}
theorem sqT_cut {o : List (Key × V)} (h : H f = some (.dK o)) {a : Addr} {xs : List V} (t : SqT K H a xs) : SqT K (cut f H) a xs := by
  have ne : ∀ {u : HO}, H a = some u → u ≠ .dK o → a ≠ f := fun {u} e n z => by
    rw [z, h] at e
    exact n (Option.some.inj e).symm
  rcases t with (t | ⟨u, t⟩) | t
  · exact .inl (.inl (by rw [cut_ne (ne t (fun z => by cases z))]; exact t))
  · exact .inl (.inr ⟨u, by rw [cut_ne (ne t (fun z => by cases z))]; exact t⟩)
  · exact .inr t
theorem sqL_cut {o : List (Key × V)} (h : H f = some (.dK o)) {a : Addr} {xs : List V} (t : SqL K H a xs) : SqL K (cut f H) a xs := by
  have ne : ∀ {u : HO}, H a = some u → u ≠ .dK o → a ≠ f := fun {u} e n z => by
    rw [z, h] at e
    exact n (Option.some.inj e).symm
  rcases t with (t | ⟨u, t⟩) | t
  · exact .inl (.inl (by rw [cut_ne (ne t (fun z => by cases z))]; exact t))
  · exact .inl (.inr ⟨u, by rw [cut_ne (ne t (fun z => by cases z))]; exact t⟩)
  · exact .inr t
mutual
theorem dp_cut {o : List (Key × V)} (h : H f = some (.dK o)) : ∀ (d : PyData) (v : V), Dp K H v d → Dp K (cut f H) v d
  | .none, _, e => by cases e; exact .non
  | .bool b, _, e => by cases e; exact .bl b
  | .int i, _, e => by cases e; exact .int i
  | .str x, _, e => by cases e; exact .str x
  | .list ds, _, e => by
    cases e with
    | lst hs ha => exact .lst (sqL_cut h hs) (dpa_cut h ds _ ha)
  | .tuple ds, _, e => by
    cases e with
    | tup hs ha => exact .tup (sqT_cut h hs) (dpa_cut h ds _ ha)
  | .dict _, _, e => by cases e
theorem dpa_cut {o : List (Key × V)} (h : H f = some (.dK o)) : ∀ (ds : List PyData) (vs : List V), DpAll K H vs ds → DpAll K (cut f H) vs ds
  | [], _, e => by cases e; exact .nil
  | d :: ds, _, e => by
    cases e with
    | cons h1 h2 => exact .cons (dp_cut h d _ h1) (dpa_cut h ds _ h2)
end
end
/-! ### the feed -/
def fk (c : V) (a l n : Int) : List (Key × V) := [(.inr "cells", c), (.inr "at", .int a), (.inr "left", .int l), (.inr "count", .int n)]
structure Fe where
  f : Addr
  c : Addr
  ns : List Int
structure Feed (K : PySem.W.Frag) (φ : Fe) (H : Hp) : Prop where
  at_ : ∃ a l n : Int, H φ.f = some (.dK (fk (.ref φ.c) a l n))
  cs : SqL K (cut φ.f H) φ.c (φ.ns.map V.int)
  few : φ.ns.length ≤ 1000
/-- all but the feed stays -/
abbrev SF (f : Addr) (H H' : Hp) : Prop := Same (cut f H) (cut f H')
theorem SF.trans {f : Addr} {H H1 H2 : Hp} (a : SF f H H1) (b : SF f H1 H2) : SF f H H2 := Same.trans a b
theorem SF.of {f : Addr} {H H' : Hp} (e : Same H H') : SF f H H' := cut_up e
section
variable {K : PySem.W.Frag} {H H' : Hp} {φ : Fe}
theorem Feed.up (h : Feed K φ H) (e : Same H H') : Feed K φ H' := by
  obtain ⟨a, l, n, h1⟩ := h.at_
  exact ⟨⟨a, l, n, e _ _ h1⟩, (cut_up e).seq h.cs, h.few⟩
theorem Feed.dp (h : Feed K φ H) {v : V} {d : PyData} (e : Dp K H v d) : Dp K (cut φ.f H) v d := by
  obtain ⟨a, l, n, h1⟩ := h.at_
  exact dp_cut h1 d v e
theorem Feed.dpa (h : Feed K φ H) {vs : List V} {ds : List PyData} (e : DpAll K H vs ds) : DpAll K (cut φ.f H) vs ds := by
  obtain ⟨a, l, n, h1⟩ := h.at_
  exact dpa_cut h1 ds vs e
theorem Feed.lst (h : Feed K φ H) {p : Addr} {xs : List V} (e : SqL K H p xs) : SqL K (cut φ.f H) p xs := by
  obtain ⟨a, l, n, h1⟩ := h.at_
  exact sqL_cut h1 e
theorem Feed.tup (h : Feed K φ H) {p : Addr} {xs : List V} (e : SqT K H p xs) : SqT K (cut φ.f H) p xs := by
  obtain ⟨a, l, n, h1⟩ := h.at_
  exact sqT_cut h1 e
theorem Feed.ne (h : Feed K φ H) {D : Addr} (n : H D = none) : φ.f ≠ D := fun z => by
  obtain ⟨a, l, m, h1⟩ := h.at_
  rw [z, n] at h1
  cases h1
end
section
variable {K : PySem.W.Frag} {H H' : Hp} {f : Addr}
theorem get_cells {c : V} {a l n : Int} (e : H f = some (.dK (fk c a l n))) : DGet H f (.str "cells") (some c) := DGet.k (k := .inr "cells") e
theorem get_at {c : V} {a l n : Int} (e : H f = some (.dK (fk c a l n))) : DGet H f (.str "at") (some (.int a)) := DGet.k (k := .inr "at") e
theorem get_left {c : V} {a l n : Int} (e : H f = some (.dK (fk c a l n))) : DGet H f (.str "left") (some (.int l)) := DGet.k (k := .inr "left") e
theorem get_count {c : V} {a l n : Int} (e : H f = some (.dK (fk c a l n))) : DGet H f (.str "count") (some (.int n)) := DGet.k (k := .inr "count") e
theorem put_at {c : V} {a l n : Int} (b : Int) (e : H f = some (.dK (fk c a l n))) : DPut H f (.str "at") (.int b) (upd H f (.dK (fk c b l n))) := DPut.k (k := .inr "at") e (by show 4 < sizeLine; decide)
theorem put_left {c : V} {a l n : Int} (b : Int) (e : H f = some (.dK (fk c a l n))) : DPut H f (.str "left") (.int b) (upd H f (.dK (fk c a b n))) := DPut.k (k := .inr "left") e (by show 4 < sizeLine; decide)
theorem put_count {c : V} {a l n : Int} (b : Int) (e : H f = some (.dK (fk c a l n))) : DPut H f (.str "count") (.int b) (upd H f (.dK (fk c a l b))) := DPut.k (k := .inr "count") e (by show 4 < sizeLine; decide)
end
theorem sf_upd {H : Hp} {f : Addr} {o : HO} : SF f H (upd H f o) := by
  show Same (cut f H) (cut f (upd H f o))
  rw [cut_upd]
  exact Same.refl _
theorem feed_of {K : PySem.W.Frag} {H H' : Hp} {φ : Fe} {a l n : Int} (e : H' φ.f = some (.dK (fk (.ref φ.c) a l n))) (hs : SqL K (cut φ.f H) φ.c (φ.ns.map V.int)) (s : SF φ.f H H') (h3 : φ.ns.length ≤ 1000) : Feed K φ H' := ⟨⟨a, l, n, e⟩, s.seq hs, h3⟩
/-- .. and the feed stands before and behind -/
structure Mv (K : PySem.W.Frag) (φ : Fe) (H H' : Hp) : Prop where
  sf : SF φ.f H H'
  F0 : Feed K φ H
  F1 : Feed K φ H'
section
variable {K : PySem.W.Frag} {H H1 H2 H' : Hp} {φ : Fe} {v : V} {vs xs : List V} {d : PyData} {ds : List PyData} {p D : Addr} {o : HO} {acc : List V} {y : V}
theorem Mv.refl (h : Feed K φ H) : Mv K φ H H := ⟨Same.refl _, h, h⟩
theorem Mv.trans (a : Mv K φ H H1) (b : Mv K φ H1 H2) : Mv K φ H H2 := ⟨a.sf.trans b.sf, a.F0, b.F1⟩
theorem Mv.of (h : Feed K φ H) (e : Same H H') : Mv K φ H H' := ⟨SF.of e, h, h.up e⟩
theorem Mv.same (a : Mv K φ H H1) (e : Same H1 H2) : Mv K φ H H2 := a.trans (.of a.F1 e)
theorem Mv.new (a : Mv K φ H H1) (n : H1 p = none) : Mv K φ H (upd H1 p o) := a.same (same_new n)
theorem Mv.dp (a : Mv K φ H H1) (h : Dp K H v d) : Dp K H1 v d := ((a.F0.dp h).up a.sf).up cut_to
theorem Mv.dpa (a : Mv K φ H H1) (h : DpAll K H vs ds) : DpAll K H1 vs ds := ((a.F0.dpa h).up a.sf).up cut_to
theorem Mv.lst (a : Mv K φ H H1) (h : SqL K H p xs) : SqL K H1 p xs := cut_to.seq (a.sf.seq (a.F0.lst h))
theorem Mv.tup (a : Mv K φ H H1) (h : SqT K H p xs) : SqT K H1 p xs := cut_to.tupT (a.sf.tupT (a.F0.tup h))
theorem Mv.at_ (a : Mv K φ H H1) (h : H p = some o) (ne : p ≠ φ.f) : H1 p = some o := by
  have := a.sf p o (by rw [cut_ne ne]; exact h)
  rw [cut_ne ne] at this
  exact this
/-- a list being filled while the feed gives -/
structure MInv (K : PySem.W.Frag) (φ : Fe) (H : Hp) (D : Addr) (acc : List V) (H' : Hp) : Prop where
  new : H D = none
  mv : Mv K φ H H'
  lst : H' D = some (.lst acc)
theorem MInv.init (h : Feed K φ H) (n : H D = none) : MInv K φ H D [] (upd H D (.lst [])) := ⟨n, (Mv.refl h).new n, upd_same⟩
theorem MInv.push (h : MInv K φ H D acc H1) (e : Mv K φ H1 H2) : H2 D = some (.lst acc) ∧ MInv K φ H D (acc ++ [y]) (upd H2 D (.lst (acc ++ [y]))) := by
  have ne : D ≠ φ.f := Ne.symm (h.mv.F0.ne h.new)
  have s0 : SF φ.f H H2 := h.mv.sf.trans e.sf
  have s1 : SF φ.f H (upd H2 D (.lst (acc ++ [y]))) := fun b o q => by
    by_cases hb : b = φ.f
    · rw [hb, cut_same] at q
      cases q
    · have q2 := s0 b o q
      rw [cut_ne hb] at q q2 ⊢
      rw [upd_ne (ne_of_none q h.new)]
      exact q2
  obtain ⟨a, l, n, h1⟩ := e.F1.at_
  refine ⟨e.at_ h.lst ne, h.new, ⟨s1, h.mv.F0, feed_of (a := a) (l := l) (n := n) ?_ h.mv.F0.cs s1 h.mv.F0.few⟩, upd_same⟩
  rw [upd_ne (Ne.symm ne)]
  exact h1
end
theorem atI_mem {xs : List V} {i : Int} (h0 : 0 ≤ i) (h1 : i < xs.length) : ∃ v, atI xs i = some v ∧ v ∈ xs := by
  have hn : i.toNat < xs.length := by omega
  have e : ((i.toNat : Nat) : Int) = i := Int.toNat_of_nonneg h0
  have q : atI xs ((i.toNat : Nat) : Int) = some xs[i.toNat] := atI_nat (List.getElem?_eq_getElem hn)
  exact ⟨xs[i.toNat], (congrArg (atI xs) e).symm.trans q, List.getElem_mem hn⟩
section
variable {P : Program} {w : World} {K : PySem.W.Frag} {mg : Str → Option Value} {base : Heap}
abbrev nDr : List Str := ["_law_feed_here", "_law_many", "_law_figure", "_law_at", "_law_cell", "_law_mixed"]
def spDr (K : PySem.W.Frag) : Sp := fun vs H Q _ => ∃ (φ : Fe) (m : Int), vs = [.ref φ.f, .int m] ∧ Feed K φ H ∧ 0 < m ∧ m < 1073741824 ∧ ∀ H' i, Mv K φ H H' → 0 ≤ i → i < m → Q (.int i) H'
theorem sc_dr : FnScope nDr ["_law_feed_here", "_law_many"] (defScope (topS 37)) := ⟨rfl, rfl, rfl, by decide +kernel, rfl, by decide +kernel, by decide +kernel⟩
theorem ok_dr (T : Txt K mg) : OkD P w K mg base CX0 1 "_law_draw" (topS 37) [] ["_law_feed_here", "_law_many"] (spDr K) := by
  refine okD T.law_draw sc_dr (fun vs H Q E h => ?_) fun f cdv A outer s H vs Q E hr h => ?_
  · obtain ⟨φ, m, rfl, _⟩ := h
    rfl
  obtain ⟨⟨fa, c, ns⟩, m, rfl, hf, m0, m1, q⟩ := h
  have hu := units64 hr
  have hu1 : (A.deeper (envOfC "_law_draw" (defScope (topS 37)) s.heap.objs.size f cdv)).units + 1 < cLine := by omega
  have hI : ∀ (x : Str) (k : Nat) (p : Pos), NoSl (.Constant (.str x) k p) := fun _ _ _ _ _ => rfl
  have F0 := hf
  obtain ⟨⟨a, l, n, e0⟩, hc, ln⟩ := hf
  have e0 : H fa = some (.dK (fk (.ref c) a l n)) := e0
  have hc : SqL K (cut fa H) c (ns.map V.int) := hc
  have ln : ns.length ≤ 1000 := ln
  have fe : ∀ {H' : Hp} {a l n : Int}, H' fa = some (.dK (fk (.ref c) a l n)) → SF fa H H' → Mv K ⟨fa, c, ns⟩ H H' := fun {H' a l n} e s => ⟨s, F0, feed_of (φ := ⟨fa, c, ns⟩) e hc s ln⟩
  let X : Cx := (cxOf CX0 P w K mg base nDr "_law_draw" (defScope (topS 37)) f cdv A outer s H E).nox
  -- the mixing
  have tailB : ∃ tb, PSs X ((defBody (topS 37)).drop 6) tb ∧ ∀ (z : Int) (H3 : Hp), SF fa H H3 → H3 fa = some (.dK (fk (.ref c) (a + 1) l (n + 1))) →
      tb { nx := fun _ H' => Q .non H', rt := Q } [some (.ref fa), some (.int m), none, some (.int a), some (.int z), none] H3 := by
    refine ⟨_, pss_cons (ps_set (i := 5) sc_dr.nd rfl (.inl rfl) (pe_op op_mod (pe_op op_add (pe_op op_add (pe_op op_mod (pv 4) pe_int) (pe_op op_mul pe_int (pe_dget hu1 (pv 0) pe_str (hI _ _ _)))) pe_int) pe_int))
      (pss_cons (ps_set (i := 5) sc_dr.nd rfl (.inl rfl) (pe_op op_mod (pe_op op_add (pe_op op_add (pe_op op_mul (pv 5) (pv 5)) (pe_op op_mul pe_int (pe_dget hu1 (pv 0) pe_str (hI _ _ _)))) pe_int) pe_int))
      (pss_one (ps_ret (pe_op op_mod (pe_op op_fdiv (pe_op op_mod (pe_op op_add (pe_op op_mul (pv 5) (pv 5)) (pe_op op_mul pe_int (pv 5))) pe_int) pe_int) (pv 1))))), fun z H3 s3 e3 => ?_⟩
    refine ⟨_, rfl, z, 1000000093, rfl, rfl, (show (0 : Int) < 1000000093 by decide), _, rfl, fa, _, rfl, get_count e3, 70001, n + 1, rfl, rfl, .inl (by decide), _, _, rfl, rfl, _, 43, rfl, rfl, _, 2147483579, rfl, rfl, (show (0 : Int) < 2147483579 by decide), ?_⟩
    dsimp only
    generalize hx : (z % 1000000093 + 70001 * (n + 1) + 43) % 2147483579 = x
    have bx : 0 ≤ x ∧ x < 2147483579 := by omega
    refine ⟨_, rfl, _, rfl, x, x, rfl, rfl, .inl ⟨by omega, by omega⟩, _, rfl, fa, _, rfl, get_count e3, 6700417, n + 1, rfl, rfl, .inl (by decide), _, _, rfl, rfl, _, 13, rfl, rfl, _, 2147483549, rfl, rfl, (show (0 : Int) < 2147483549 by decide), ?_⟩
    dsimp only
    generalize x * x = xx
    generalize hy : (xx + 6700417 * (n + 1) + 13) % 2147483549 = y
    have by_ : 0 ≤ y ∧ y < 2147483549 := by omega
    refine ⟨_, rfl, _, rfl, y, y, rfl, rfl, .inl ⟨by omega, by omega⟩, _, rfl, 23, y, rfl, rfl, .inl (by decide), _, _, rfl, rfl, _, 2147483543, rfl, rfl, (show (0 : Int) < 2147483543 by decide), _, 16, rfl, rfl, ⟨by decide, by decide⟩, _, rfl, _, m, rfl, rfl, m0, ?_⟩
    exact q H3 _ (fe e3 s3) (Int.emod_nonneg _ (by omega)) (Int.emod_lt_of_pos _ m0)
  obtain ⟨tB, pB, rB⟩ := tailB
  -- a cell that holds many figures
  have tailA : ∃ tb, PSs X ((defBody (topS 37)).drop 5) tb ∧ ∀ (z : Int) (H3 : Hp), SF fa H H3 → H3 fa = some (.dK (fk (.ref c) (a + 1) l (n + 1))) →
      tb { nx := fun _ H' => Q .non H', rt := Q } [some (.ref fa), some (.int m), none, some (.int a), some (.int z), none] H3 := by
    refine ⟨_, pss_cons (ps_if (PW.pt (pw_and (pt_cmpR op_ge (pv 4) (pe_op op_pow pe_int pe_int) (nomark _)) (pw_and1 (pt_cmpR op_lt (pv 3) (pe_callB call_len_seq (by rfl) T.z_len (by decide +kernel) (pa_cons (pe_dget hu1 (pv 0) pe_str (hI _ _ _)) pa_nil)) (nomark _)))))
      (pss_cons (ps_dput hu1 (pv 0) pe_str (pe_op op_fdiv (pv 4) (pv 1)) (by rfl)) (pss_one (ps_ret (pe_op op_mod (pv 4) (pv 1))))) pss_nil) pB, fun z H3 s3 e3 => ?_⟩
    refine ⟨_, rfl, 10, 18, rfl, rfl, ⟨by decide, by decide, by decide⟩, z, _, rfl, rfl, _, rfl, ?_⟩
    by_cases c1 : (10 : Int) ^ (18 : Int).toNat ≤ z
    · refine dT c1 ?_
      refine ⟨_, rfl, _, rfl, fa, _, rfl, get_cells e3, c, _, rfl, .inl (cut_to.seq (s3.seq hc)), a, _, rfl, rfl, _, rfl, ?_⟩
      by_cases c2 : a < ((ns.map V.int).length : Int)
      · refine dT c2 ?_
        refine ⟨_, rfl, _, rfl, z, m, rfl, rfl, ⟨m0, m1⟩, _, rfl, fa, _, rfl, put_left (z / m) e3, ?_⟩
        refine ⟨_, rfl, _, rfl, z, m, rfl, rfl, m0, ?_⟩
        have s4 : SF fa H (upd H3 fa (.dK (fk (.ref c) (a + 1) (z / m) (n + 1)))) := s3.trans sf_upd
        exact q _ _ (fe upd_same s4) (Int.emod_nonneg _ (by omega)) (Int.emod_lt_of_pos _ m0)
      · exact dF c2 (rB z H3 s3 e3)
    · exact dF c1 (rB z H3 s3 e3)
  obtain ⟨tA, pA, rA⟩ := tailA
  refine ⟨_, pss_cons (ps_dput hu1 (pv 0) pe_str (pe_op op_add (pe_dget hu1 (pv 0) pe_str (hI _ _ _)) pe_int) (by rfl))
    (pss_cons (ps_if (pt_cmpR op_gt (pe_dget hu1 (pv 0) pe_str (hI _ _ _)) pe_int (nomark _))
      (pss_cons (ps_set (i := 2) sc_dr.nd rfl (.inl rfl) (pe_op op_mod (pe_dget hu1 (pv 0) pe_str (hI _ _ _)) (pv 1)))
      (pss_cons (ps_dput hu1 (pv 0) pe_str (pe_op op_fdiv (pe_dget hu1 (pv 0) pe_str (hI _ _ _)) (pv 1)) (by rfl)) (pss_one (ps_ret (pv 2))))) pss_nil)
    (pss_cons (ps_set (i := 3) sc_dr.nd rfl (.inl rfl) (pe_dget hu1 (pv 0) pe_str (hI _ _ _)))
    (pss_cons (ps_dput hu1 (pv 0) pe_str (pe_op op_add (pv 3) pe_int) (by rfl))
    (pss_cons (ps_set (i := 4) sc_dr.nd rfl (.inl rfl) (pe_ifExp (pt_cmpR (op_neD hu) (pe_dget hu1 (pv 0) pe_str (hI _ _ _)) (pe_lst pa_nil) (nomark _))
      (pe_ix ix_list (pe_dget hu1 (pv 0) pe_str (hI _ _ _)) (pe_op op_mod (pv 3) (pe_callB call_len_seq (by rfl) T.z_len (by decide +kernel) (pa_cons (pe_dget hu1 (pv 0) pe_str (hI _ _ _)) pa_nil))) (fun _ _ => rfl)) pe_int)) pA)))), ?_⟩
  refine ⟨_, rfl, fa, _, rfl, get_count e0, n, 1, rfl, rfl, _, rfl, fa, _, rfl, put_count (n + 1) e0, ?_⟩
  have s1 : SF fa H (upd H fa (.dK (fk (.ref c) a l (n + 1)))) := sf_upd
  have e1 : (upd H fa (.dK (fk (.ref c) a l (n + 1)))) fa = some (.dK (fk (.ref c) a l (n + 1))) := upd_same
  generalize upd H fa (.dK (fk (.ref c) a l (n + 1))) = H1 at s1 e1
  refine ⟨_, rfl, fa, _, rfl, get_left e1, l, 0, rfl, rfl, _, rfl, ?_⟩
  by_cases c0 : 0 < l
  · refine dT c0 ?_
    refine ⟨_, rfl, fa, _, rfl, get_left e1, _, rfl, l, m, rfl, rfl, m0, ?_⟩
    refine ⟨_, rfl, fa, _, rfl, get_left e1, _, rfl, l, m, rfl, rfl, ⟨m0, m1⟩, _, rfl, fa, _, rfl, put_left (l / m) e1, ?_⟩
    have s4 : SF fa H (upd H1 fa (.dK (fk (.ref c) a (l / m) (n + 1)))) := s1.trans sf_upd
    exact ⟨_, rfl, q _ _ (fe upd_same s4) (Int.emod_nonneg _ (by omega)) (Int.emod_lt_of_pos _ m0)⟩
  · refine dF c0 ?_
    refine ⟨_, rfl, fa, _, rfl, get_at e1, ?_⟩
    refine ⟨_, rfl, a, 1, rfl, rfl, _, rfl, fa, _, rfl, put_at (a + 1) e1, ?_⟩
    have s2 : SF fa H (upd H1 fa (.dK (fk (.ref c) (a + 1) l (n + 1)))) := s1.trans sf_upd
    have e2 : (upd H1 fa (.dK (fk (.ref c) (a + 1) l (n + 1)))) fa = some (.dK (fk (.ref c) (a + 1) l (n + 1))) := upd_same
    generalize upd H1 fa (.dK (fk (.ref c) (a + 1) l (n + 1))) = H2 at s2 e2
    have l2 : SqL K H2 c (ns.map V.int) := cut_to.seq (s2.seq hc)
    refine ⟨_, rfl, fa, _, rfl, get_cells e2, (by show 0 ≤ sizeLine; decide), fun p np => ?_⟩
    have sp : Same H2 (upd H2 p (.lst [])) := same_new np
    have s3 := s2.trans (SF.of sp)
    have e3 := sp _ _ e2
    have l3 := sp.seq l2
    refine ⟨.list (ns.map PyData.int), .list [], .lst l3 (dpa_of_ints ns), dp_newL np .nil, shaped_lstI ns, shaped_lstI [], _, rfl, ?_⟩
    generalize upd H2 p (.lst []) = H3 at s3 e3 l3
    cases ns with
    | nil => exact bF (by rfl) (rA 11 H3 s3 e3)
    | cons k r =>
      refine bT (by rfl) ?_
      have lp : (0 : Int) < (((k :: r).map V.int).length : Int) := by
        rw [List.length_map, List.length_cons]
        omega
      have b0 : 0 ≤ a % (((k :: r).map V.int).length : Int) := Int.emod_nonneg _ (by omega)
      have b1 : a % (((k :: r).map V.int).length : Int) < (((k :: r).map V.int).length : Int) := Int.emod_lt_of_pos _ lp
      have bn : (a % (((k :: r).map V.int).length : Int)).toNat < (k :: r).length := by
        rw [List.length_map] at b0 b1 ⊢
        omega
      refine ⟨_, rfl, fa, _, rfl, get_cells e3, _, rfl, _, rfl, fa, _, rfl, get_cells e3, c, _, rfl, .inl l3, a, _, rfl, rfl, lp, c, _, (a % (((k :: r).map V.int).length : Int)).toNat, .int ((k :: r)[(a % (((k :: r).map V.int).length : Int)).toNat]), rfl, ?_, l3, ?_, rA _ H3 s3 e3⟩
      · rw [Int.toNat_of_nonneg b0]
      · refine atI_nat ?_
        rw [List.getElem?_map, List.getElem?_eq_getElem bn]
        rfl
end
end FJ

/-! FJq: _law_feed, _law_number, _law_sum. -/
namespace FJ
open PySem PySem.Spec PyProof.Rows L2
def isI : V → Bool
  | .int _ => true
  | _ => false
theorem atI_ints {xs : List V} {i : Int} (h : xs.all isI = true) (h0 : 0 ≤ i) (h1 : i < xs.length) : ∃ k, atI xs i = some (.int k) := by
  obtain ⟨v, e, hv⟩ := atI_mem h0 h1
  have hi := List.all_eq_true.mp h v hv
  cases v with
  | int k => exact ⟨k, e⟩
  | _ => cases hi
section
variable {P : Program} {w : World} {K : PySem.W.Frag} {mg : Str → Option Value} {base : Heap}
/-! ### _law_number -/
abbrev nNu : List Str := ["_law_feed_here", "_law_few", "_law_some", "_law_far"]
def spNu (K : PySem.W.Frag) : Sp := fun vs H Q _ => ∃ φ : Fe, vs = [.ref φ.f] ∧ Feed K φ H ∧ ∀ H' i, Mv K φ H H' → Q (.int i) H'
theorem sc_nu : FnScope nNu ["_law_feed_here"] (defScope (topS 38)) := ⟨rfl, rfl, rfl, by decide +kernel, rfl, by decide +kernel, by decide +kernel⟩
theorem ok_nu (T : Txt K mg) : OkD P w K mg base CX0 2 "_law_number" (topS 38) [] ["_law_feed_here"] (spNu K) := by
  obtain ⟨fD, dD, aD, GD⟩ := ok_dr (P := P) (w := w) (base := base) T
  have bD : Binds K dD ["_law_feed_here", "_law_many"] [] := aD.F.bindsN fun _ _ _ _ _ _ us hl => match us, hl with | [_, _], _ => rfl
  refine okD T.law_number sc_nu (fun vs H Q E h => ?_) fun f cdv A outer s H vs Q E hr h => ?_
  · obtain ⟨φ, rfl, _⟩ := h
    rfl
  obtain ⟨φ, rfl, hF, q⟩ := h
  let X : Cx := (cxOf CX0 P w K mg base nNu "_law_number" (defScope (topS 38)) f cdv A outer s H E).nox
  have draw : ∀ (k : Int) (p1 p2 p3 : Pos) (n : Nat), PE X (.Call (.Name "_law_draw" p1) [.Name "_law_feed_here" p2, .Constant (.int k) n p3] [] p1) (tCall (spDr K) [] E0 (tCons (tVar 0) (tCons (tC (.int k)) tNil))) := fun k p1 p2 p3 n =>
    pe_call GD hr (by rfl) aD.g aD.F.kp bD .nil pass0 (pa_cons (pv 0) (pa_cons pe_int pa_nil))
  refine ⟨_, pss_cons (ps_par (i := 1) (j := 2) (by rfl) sc_nu.nd rfl rfl (by decide) rfl rfl (pa_cons (pe_call GD hr (by rfl) aD.g aD.F.kp bD .nil pass0 (pa_cons (pv 0) (pa_cons pe_int pa_nil))) (pa_cons (pe_op op_sub (pe_call GD hr (by rfl) aD.g aD.F.kp bD .nil pass0 (pa_cons (pv 0) (pa_cons pe_int pa_nil))) pe_int) pa_nil)) (by rfl))
    (pss_cons (ps_set (i := 3) sc_nu.nd rfl (.inl rfl) (pe_op op_mul (pe_ix ix_list (pe_lst (pa_cons (pe_op op_sub (pe_op op_pow pe_int pe_int) (pv 1)) (pa_cons (pe_op op_add (pe_op op_pow pe_int pe_int) (pv 1)) pa_nil))) (pe_call GD hr (by rfl) aD.g aD.F.kp bD .nil pass0 (pa_cons (pv 0) (pa_cons pe_int pa_nil))) (fun _ _ => rfl))
      (pe_ix ix_list (pe_lst (pa_cons pe_int (pa_cons (pe_un un_neg pe_int) pa_nil))) (pe_call GD hr (by rfl) aD.g aD.F.kp bD .nil pass0 (pa_cons (pv 0) (pa_cons pe_int pa_nil))) (fun _ _ => rfl))))
    (pss_one (ps_ret (pe_ix ix_list (pe_lst (pa_cons (pv 1) (pa_cons (pe_op op_sub (pv 1) pe_int) (pa_cons (pv 2) (pa_cons (pv 1) (pa_cons (pe_op op_sub (pv 1) pe_int) (pa_cons (pv 2) (pa_cons pe_int (pa_cons (pv 3) pa_nil)))))))))
      (pe_call GD hr (by rfl) aD.g aD.F.kp bD .nil pass0 (pa_cons (pv 0) (pa_cons pe_int pa_nil))) (fun _ _ => rfl))))), ?_⟩
  refine ⟨_, rfl, φ, 4, rfl, hF, by decide, by decide, fun H1 few m1 _ _ => ?_⟩
  refine ⟨_, rfl, φ, 400, rfl, m1.F1, by decide, by decide, fun H2 some1 m2 _ _ => ?_⟩
  refine ⟨some1, 100, rfl, rfl, _, _, rfl, ?_⟩
  have m := m1.trans m2
  refine ⟨10, 6, rfl, rfl, ⟨by decide, by decide, by decide⟩, _, rfl, _, few, rfl, rfl, 10, 59, rfl, rfl, ⟨by decide, by decide, by decide⟩, _, rfl, _, few, rfl, rfl, (by show 2 ≤ sizeLine; decide), fun p np => ?_⟩
  have m := m.new (o := .lst [.int (10 ^ (6 : Int).toNat - few), .int (10 ^ (59 : Int).toNat + few)]) np
  refine ⟨_, rfl, φ, 2, rfl, m.F1, by decide, by decide, fun H3 i3 m3 a3 b3 => ?_⟩
  have l3 := m3.lst (SqL.of (K := K) upd_same)
  obtain ⟨x, e3⟩ := atI_ints (xs := [V.int (10 ^ (6 : Int).toNat - few), .int (10 ^ (59 : Int).toNat + few)]) rfl a3 b3
  refine ⟨p, _, i3, _, rfl, rfl, l3, e3, ?_⟩
  have m := m.trans m3
  refine ⟨1, rfl, (by show 2 ≤ sizeLine; decide), fun p2 np2 => ?_⟩
  have m := m.new (o := .lst [.int 1, .int (-1)]) np2
  refine ⟨_, rfl, φ, 2, rfl, m.F1, by decide, by decide, fun H4 i4 m4 a4 b4 => ?_⟩
  have l4 := m4.lst (SqL.of (K := K) upd_same)
  have c4 : i4 = 0 ∨ i4 = 1 := by omega
  have e4 : ∃ y : Int, atI [V.int 1, V.int (-1)] i4 = some (.int y) ∧ -(2 ^ 64) < y ∧ y < 2 ^ 64 := by
    rcases c4 with rfl | rfl
    · exact ⟨1, rfl, by decide, by decide⟩
    · exact ⟨-1, rfl, by decide, by decide⟩
  obtain ⟨y, e4, y0, y1⟩ := e4
  refine ⟨p2, _, i4, _, rfl, rfl, l4, e4, ?_⟩
  have m := m.trans m4
  refine ⟨x, y, rfl, rfl, .inr ⟨y0, y1⟩, ?_⟩
  refine ⟨_, rfl, _, rfl, few, 1, rfl, rfl, _, rfl, _, rfl, _, rfl, few, 2, rfl, rfl, _, rfl, _, rfl, (by show 8 ≤ sizeLine; decide), fun p3 np3 => ?_⟩
  have m := m.new (o := .lst [.int few, .int (few - 1), .int (some1 - 100), .int few, .int (few - 2), .int (some1 - 100), .int 0, .int (x * y)]) np3
  refine ⟨_, rfl, φ, 8, rfl, m.F1, by decide, by decide, fun H5 i5 m5 a5 b5 => ?_⟩
  have l5 := m5.lst (SqL.of (K := K) upd_same)
  obtain ⟨z, e5⟩ := atI_ints (xs := [.int few, .int (few - 1), .int (some1 - 100), .int few, .int (few - 2), .int (some1 - 100), .int 0, .int (x * y)]) rfl a5 b5
  exact ⟨p3, _, i5, _, rfl, rfl, l5, e5, q H5 z (m.trans m5)⟩

/-! ### _law_feed -/
def spFe (K : PySem.W.Frag) : Sp := fun vs H Q _ => ∃ (a : Addr) (ns : List Int), vs = [.ref a] ∧ SqL K H a (ns.map V.int) ∧ ns.length ≤ 63 ∧ ∀ φ H', Feed K φ H' → Q (.ref φ.f) H'
theorem sc_fe : FnScope ["_law_script"] ["_law_script"] (defScope (topS 36)) := ⟨rfl, rfl, rfl, by decide +kernel, rfl, by decide +kernel, by decide +kernel⟩
theorem ok_fe (T : Txt K mg) : OkD P w K mg base CX0 1 "_law_feed" (topS 36) [] ["_law_script"] (spFe K) := by
  refine okD T.law_feed sc_fe (fun vs H Q E h => ?_) fun f cdv A outer s H vs Q E hr h => ?_
  · obtain ⟨a, ns, rfl, _⟩ := h
    rfl
  obtain ⟨a, ns, rfl, ha, hl, q⟩ := h
  refine ⟨_, pss_one (ps_ret (pe_disp (pps_cons pe_str (pe_callTy call_list_of (by rfl) T.z_list (by decide +kernel) (pa_cons (pe_slice sl_list (pv 0) po_none (po_some pe_int)) pa_nil)) (pps_cons pe_str pe_int (pps_cons pe_str pe_int (pps_cons pe_str pe_int pps_nil)))) (by rfl) (by rfl) (fun z => by cases z) (by decide))), ?_⟩
  have ec : cutV (ns.map V.int) none (some 63) = (ns.take (min 63 ns.length)).map V.int := by
    unfold cutV
    rw [HT.sIx_none, show (some (63 : Int)) = some ((63 : Nat) : Int) from rfl, HT.sIx_nat, List.drop_zero, Nat.sub_zero, List.length_map, List.map_take]
  refine fun p np => ?_
  have s1 : Same H (upd H p (.dK [])) := same_new np
  have e1 : (upd H p (.dK [])) p = some (.dK []) := upd_same
  generalize upd H p (.dK []) = H1 at s1 e1
  refine ⟨_, rfl, 63, rfl, a, _, rfl, s1.seq ha, fun b nb => ?_⟩
  rw [ec]
  refine ⟨b, _, rfl, .inl (SqL.of upd_same), fun c nc => ?_⟩
  have s2 : Same H1 (upd (upd H1 b (.lst ((ns.take (min 63 ns.length)).map V.int))) c (.lst ((ns.take (min 63 ns.length)).map V.int))) := (same_new nb).trans (same_new nc)
  have e2 := s2 _ _ e1
  have ep : c ≠ p := fun z => by
    have := (same_new (o := .lst ((ns.take (min 63 ns.length)).map V.int)) nb) _ _ e1
    rw [← z, nc] at this
    cases this
  refine ⟨e2, [(.inr "cells", .ref c), (.inr "at", .int 0), (.inr "left", .int 0), (.inr "count", .int 0)], rfl, (by show 4 ≤ 15; decide), ?_⟩
  refine q ⟨p, c, ns.take (min 63 ns.length)⟩ _ ⟨⟨0, 0, 0, upd_same⟩, ?_, ?_⟩
  · show SqL K (cut p (upd _ p _)) c _
    rw [cut_upd]
    exact SqL.of (by rw [cut_ne ep]; exact upd_same)
  · show (ns.take (min 63 ns.length)).length ≤ 1000
    rw [List.length_take]
    omega

/-! ### _law_sum -/
abbrev nSu : List Str := ["_law_feed_here", "_law_within", "_law_less", "_law_words", "_law_word", "_law_uno"]
def spSu (K : PySem.W.Frag) (n : Nat) : Sp := fun vs H Q _ => ∃ (φ : Fe) (k : Nat) (less : Bool), vs = [.ref φ.f, .int k, .bl less] ∧ Feed K φ H ∧ 1 ≤ k ∧ k ≤ n ∧ ∀ H' v s, Mv K φ H H' → Dp K H' v (Sm.dat s) → s.depth ≤ k → Q v H'
theorem sc_su : FnScope nSu ["_law_feed_here", "_law_within", "_law_less"] (defScope (topS 39)) := ⟨rfl, rfl, rfl, by decide +kernel, rfl, by decide +kernel, by decide +kernel⟩
def wds (less : Bool) : List V := [.str "num", .str "slot", .str "slot", .str "plus", .str "minus"] ++ (List.replicate (if less then 1 else 0 : Int).toNat [V.str "less"]).flatten
theorem wds_at (less : Bool) (i : Int) (h0 : 0 ≤ i) (h1 : i < ((wds less).length : Int)) : ∃ x : Str, atI (wds less) i = some (.str x) ∧ (x = "num" ∨ x = "slot" ∨ (3 ≤ i ∧ ∃ o : Bo, x = o.word)) := by
  cases less with
  | false =>
    have h1 : i < 5 := h1
    have c : i = 0 ∨ i = 1 ∨ i = 2 ∨ i = 3 ∨ i = 4 := by omega
    rcases c with rfl | rfl | rfl | rfl | rfl
    · exact ⟨_, rfl, .inl rfl⟩
    · exact ⟨_, rfl, .inr (.inl rfl)⟩
    · exact ⟨_, rfl, .inr (.inl rfl)⟩
    · exact ⟨_, rfl, .inr (.inr ⟨by decide, .plus, rfl⟩)⟩
    · exact ⟨_, rfl, .inr (.inr ⟨by decide, .minus, rfl⟩)⟩
  | true =>
    have h1 : i < 6 := h1
    have c : i = 0 ∨ i = 1 ∨ i = 2 ∨ i = 3 ∨ i = 4 ∨ i = 5 := by omega
    rcases c with rfl | rfl | rfl | rfl | rfl | rfl
    · exact ⟨_, rfl, .inl rfl⟩
    · exact ⟨_, rfl, .inr (.inl rfl)⟩
    · exact ⟨_, rfl, .inr (.inl rfl)⟩
    · exact ⟨_, rfl, .inr (.inr ⟨by decide, .plus, rfl⟩)⟩
    · exact ⟨_, rfl, .inr (.inr ⟨by decide, .minus, rfl⟩)⟩
    · exact ⟨_, rfl, .inr (.inr ⟨by decide, .less, rfl⟩)⟩
theorem slot_at (i : Int) (h0 : 0 ≤ i) (h1 : i < 6) : ∃ x : Sl, atI [V.str "base", .str "mine", .str "theirs", .str "mine", .str "theirs", .str "other"] i = some (.str x.word) := by
  have c : i = 0 ∨ i = 1 ∨ i = 2 ∨ i = 3 ∨ i = 4 ∨ i = 5 := by omega
  rcases c with rfl | rfl | rfl | rfl | rfl | rfl
  · exact ⟨.base, rfl⟩
  · exact ⟨.mine, rfl⟩
  · exact ⟨.theirs, rfl⟩
  · exact ⟨.mine, rfl⟩
  · exact ⟨.theirs, rfl⟩
  · exact ⟨.other, rfl⟩
theorem su_step {n : Nat} (T : Txt K mg) (G : OkD P w K mg base CX0 (n + 1) "_law_sum" (topS 39) [] ["_law_feed_here", "_law_within", "_law_less"] (spSu K n)) : OkD P w K mg base CX0 (n + 2) "_law_sum" (topS 39) [] ["_law_feed_here", "_law_within", "_law_less"] (spSu K (n + 1)) := by
  obtain ⟨fD, dD, aD, GD⟩ := (ok_dr (P := P) (w := w) (base := base) T).mono (k := n + 1) (by omega)
  have bD : Binds K dD ["_law_feed_here", "_law_many"] [] := aD.F.bindsN fun _ _ _ _ _ _ us hl => match us, hl with | [_, _], _ => rfl
  obtain ⟨fS, dS, aS, GS⟩ := G
  have bS : Binds K dS ["_law_feed_here", "_law_within", "_law_less"] [] := aS.F.bindsN fun _ _ _ _ _ _ us hl => match us, hl with | [_, _, _], _ => rfl
  refine okD T.law_sum sc_su (fun vs H Q E h => ?_) fun f cdv A outer s H vs Q E hr h => ?_
  · obtain ⟨φ, k, less, rfl, _⟩ := h
    rfl
  obtain ⟨φ, k, less, rfl, hF, k1, kn, q⟩ := h
  let X : Cx := (cxOf CX0 P w K mg base nSu "_law_sum" (defScope (topS 39)) f cdv A outer s H E).nox
  have tail : ∃ tb, PSs X ((defBody (topS 39)).drop 2) tb ∧ ∀ (H6 : Hp) (p : Addr) (x : Str), Mv K φ H H6 → (x = "num" ∨ x = "slot" ∨ (2 ≤ k ∧ ∃ o : Bo, x = o.word)) →
      tb { nx := fun _ H' => Q .non H', rt := Q } [some (.ref φ.f), some (.int k), some (.bl less), some (.ref p), some (.str x), none] H6 := by
    refine ⟨_, pss_cons (ps_if (pt_cmpR op_eq (pv 4) pe_str (nomark _)) (pss_one (ps_ret (pe_tup (pa_cons (pv 4) (pa_cons (pe_ix ix_list (pe_lst (pa_cons pe_int (pa_cons pe_int (pa_cons pe_int (pa_cons (pe_un un_neg pe_int) (pa_cons (pe_op op_pow pe_int pe_int) (pa_cons (pe_op op_sub (pe_call GD hr (by rfl) aD.g aD.F.kp bD .nil pass0 (pa_cons (pv 0) (pa_cons pe_int pa_nil))) pe_int) pa_nil)))))))
        (pe_call GD hr (by rfl) aD.g aD.F.kp bD .nil pass0 (pa_cons (pv 0) (pa_cons pe_int pa_nil))) (fun _ _ => rfl)) pa_nil))))) pss_nil)
    (pss_cons (ps_if (pt_cmpR op_eq (pv 4) pe_str (nomark _)) (pss_one (ps_ret (pe_tup (pa_cons (pv 4) (pa_cons (pe_ix ix_list (pe_lst (pa_cons pe_str (pa_cons pe_str (pa_cons pe_str (pa_cons pe_str (pa_cons pe_str (pa_cons pe_str pa_nil)))))))
        (pe_call GD hr (by rfl) aD.g aD.F.kp bD .nil pass0 (pa_cons (pv 0) (pa_cons pe_int pa_nil))) (fun _ _ => rfl)) pa_nil))))) pss_nil)
    (pss_cons (ps_set (i := 5) sc_su.nd rfl (.inl rfl) (pe_call GS hr (by rfl) aS.g aS.F.kp bS .nil pass0 (pa_cons (pv 0) (pa_cons (pe_op op_sub (pv 1) pe_int) (pa_cons (pv 2) pa_nil)))))
    (pss_one (ps_ret (pe_tup (pa_cons (pv 4) (pa_cons (pv 5) (pa_cons (pe_call GS hr (by rfl) aS.g aS.F.kp bS .nil pass0 (pa_cons (pv 0) (pa_cons (pe_op op_sub (pv 1) pe_int) (pa_cons (pv 2) pa_nil)))) pa_nil)))))))), fun H6 p x m hx => ?_⟩
    rcases hx with rfl | rfl | ⟨k2, o, rfl⟩
    · refine ⟨_, rfl, rfl, _, rfl, dT rfl ?_⟩
      refine ⟨_, rfl, 1, rfl, 10, 6, rfl, rfl, ⟨by decide, by decide, by decide⟩, _, rfl, φ, 300, rfl, m.F1, by decide, by decide, fun H7 i7 m7 _ _ => ⟨i7, 99, rfl, rfl, (by show 6 ≤ sizeLine; decide), fun p8 n8 => ?_⟩⟩
      have m := (m.trans m7).new (o := .lst [.int 0, .int 1, .int 2, .int (-1), .int (10 ^ (6 : Int).toNat), .int (i7 - 99)]) n8
      refine ⟨_, rfl, φ, 6, rfl, m.F1, by decide, by decide, fun H9 i9 m9 a9 b9 => ?_⟩
      have l9 := m9.lst (SqL.of (K := K) upd_same)
      obtain ⟨z, e9⟩ := atI_ints (xs := [.int 0, .int 1, .int 2, .int (-1), .int (10 ^ (6 : Int).toNat), .int (i7 - 99)]) rfl a9 b9
      refine ⟨p8, _, i9, _, rfl, rfl, l9, e9, (by show 2 ≤ sizeLine; decide), fun r nr => ?_⟩
      exact q _ _ (.num z) ((m.trans m9).new nr) (dp_new nr (.cons (.str _) (.cons (.int z) .nil))) k1
    · refine ⟨_, rfl, rfl, _, rfl, dF (by decide +kernel) ?_⟩
      refine ⟨_, rfl, rfl, _, rfl, dT rfl ?_⟩
      refine ⟨_, rfl, (by show 6 ≤ sizeLine; decide), fun p8 n8 => ?_⟩
      have m := m.new (o := .lst [V.str "base", .str "mine", .str "theirs", .str "mine", .str "theirs", .str "other"]) n8
      refine ⟨_, rfl, φ, 6, rfl, m.F1, by decide, by decide, fun H9 i9 m9 a9 b9 => ?_⟩
      have l9 := m9.lst (SqL.of (K := K) upd_same)
      obtain ⟨z, e9⟩ := slot_at i9 a9 b9
      refine ⟨p8, _, i9, _, rfl, rfl, l9, e9, (by show 2 ≤ sizeLine; decide), fun r nr => ?_⟩
      exact q _ _ (.slot z) ((m.trans m9).new nr) (dp_new nr (.cons (.str _) (.cons (.str _) .nil))) k1
    · refine ⟨_, rfl, rfl, _, rfl, dF (by cases o <;> decide +kernel) ?_⟩
      refine ⟨_, rfl, rfl, _, rfl, dF (by cases o <;> decide +kernel) ?_⟩
      have ek : ((k : Int) - 1) = ((k - 1 : Nat) : Int) := by omega
      refine ⟨_, rfl, _, rfl, k, 1, rfl, rfl, _, rfl, φ, k - 1, less, by rw [← ek]; rfl, m.F1, by omega, by omega, fun H7 v1 s1 m7 d1 c1 => ?_⟩
      refine ⟨_, rfl, _, rfl, _, rfl, _, rfl, k, 1, rfl, rfl, _, rfl, φ, k - 1, less, by rw [← ek]; rfl, m7.F1, by omega, by omega, fun H8 v2 s2 m8 d2 c2 => ?_⟩
      refine ⟨(by show 3 ≤ sizeLine; decide), fun r nr => ?_⟩
      refine q _ _ (.bin o s1 s2) (((m.trans m7).trans m8).new nr) (dp_new nr (.cons (.str _) (.cons (m8.dp d1) (.cons d2 .nil)))) ?_
      show max s1.depth s2.depth + 1 ≤ k
      omega
  obtain ⟨tT, pT, rT⟩ := tail
  refine ⟨_, pss_cons (ps_set (i := 3) sc_su.nd rfl (.inl rfl) (pe_op op_cat (pe_lst (pa_cons pe_str (pa_cons pe_str (pa_cons pe_str (pa_cons pe_str (pa_cons pe_str pa_nil)))))) (pe_op op_rep (pe_lst (pa_cons pe_str pa_nil)) (pe_callTy call_int1 (by rfl) T.z_int (by decide +kernel) (pa_cons (pv 2) pa_nil)))))
    (pss_cons (ps_set (i := 4) sc_su.nd rfl (.inl rfl) (pe_ix ix_list (pv 3) (pe_call GD hr (by rfl) aD.g aD.F.kp bD .nil pass0 (pa_cons (pv 0) (pa_cons (pe_ifExp (pt_cmpR op_gt (pv 1) pe_int (nomark _)) (pe_callB call_len_seq (by rfl) T.z_len (by decide +kernel) (pa_cons (pv 3) pa_nil)) pe_int) pa_nil))) (fun _ _ => rfl))) pT), ?_⟩
  refine ⟨(by show 5 ≤ sizeLine; decide), fun p1 n1 => ⟨(by show 1 ≤ sizeLine; decide), fun p2 n2 => ?_⟩⟩
  have m := ((Mv.refl hF).new (o := .lst [.str "num", .str "slot", .str "slot", .str "plus", .str "minus"]) n1).new (o := .lst [.str "less"]) n2
  have e1 : (upd (upd H p1 (.lst [V.str "num", V.str "slot", V.str "slot", V.str "plus", V.str "minus"])) p2 (.lst [V.str "less"])) p1 = some (.lst [V.str "num", V.str "slot", V.str "slot", V.str "plus", V.str "minus"]) := same_new n2 _ _ upd_same
  have e2 : (upd (upd H p1 (.lst [V.str "num", V.str "slot", V.str "slot", V.str "plus", V.str "minus"])) p2 (.lst [V.str "less"])) p2 = some (.lst [V.str "less"]) := upd_same
  generalize upd (upd H p1 (.lst [V.str "num", V.str "slot", V.str "slot", V.str "plus", V.str "minus"])) p2 (.lst [V.str "less"]) = H2 at m e1 e2
  refine ⟨_, rfl, .inr ⟨less, rfl, p2, (if less then 1 else 0 : Int), _, rfl, rfl, e2, by cases less <;> decide, by cases less <;> decide, by cases less <;> decide, fun p3 n3 => ?_⟩⟩
  refine ⟨p1, p3, _, _, rfl, rfl, same_new n3 _ _ e1, upd_same, by cases less <;> decide, fun p4 n4 => ?_⟩
  have m := (m.new (o := .lst (List.replicate (if less then 1 else 0 : Int).toNat [V.str "less"]).flatten) n3).new (o := .lst (wds less)) n4
  have e4 : (upd (upd H2 p3 (.lst (List.replicate (if less then 1 else 0 : Int).toNat [V.str "less"]).flatten)) p4 (.lst (wds less))) p4 = some (.lst (wds less)) := upd_same
  refine ⟨_, rfl, _, rfl, _, rfl, k, 1, rfl, rfl, _, rfl, ?_⟩
  have wl : 5 ≤ (wds less).length ∧ (wds less).length ≤ 6 := by cases less <;> decide
  by_cases ck : (1 : Int) < (k : Int)
  · refine dT ck ?_
    refine ⟨_, rfl, p4, _, rfl, .inl (SqL.of e4), φ, (wds less).length, rfl, m.F1, by omega, by omega, fun H6 i m6 a6 b6 => ?_⟩
    obtain ⟨x, ex, hx⟩ := wds_at less i a6 b6
    refine ⟨p4, _, i, _, rfl, rfl, m6.lst (SqL.of e4), ex, rT H6 p4 x (m.trans m6) ?_⟩
    rcases hx with h | h | ⟨_, h⟩
    · exact .inl h
    · exact .inr (.inl h)
    · exact .inr (.inr ⟨by omega, h⟩)
  · refine dF ck ?_
    refine ⟨φ, 3, rfl, m.F1, by decide, by decide, fun H6 i m6 a6 b6 => ?_⟩
    obtain ⟨x, ex, hx⟩ := wds_at less i a6 (by omega)
    refine ⟨p4, _, i, _, rfl, rfl, m6.lst (SqL.of e4), ex, rT H6 p4 x (m.trans m6) ?_⟩
    rcases hx with h | h | ⟨h3, _⟩
    · exact .inl h
    · exact .inr (.inl h)
    · exact absurd b6 (by omega)
theorem su_none (T : Txt K mg) : OkD P w K mg base CX0 1 "_law_sum" (topS 39) [] ["_law_feed_here", "_law_within", "_law_less"] (spSu K 0) := by
  obtain ⟨f, fd, a⟩ := T.law_sum
  have no : ∀ vs H Q E, ¬ spSu K 0 vs H Q E := fun vs H Q E h => by
    obtain ⟨φ, k, less, _, _, h1, h2, _⟩ := h
    omega
  exact ⟨f, fd, a, fun vs H Q E h => absurd h (no vs H Q E), fun A outer s H args us vs Q E _ _ _ _ h => absurd h (no vs H Q E)⟩
theorem ok_su (T : Txt K mg) : ∀ n : Nat, OkD P w K mg base CX0 (n + 1) "_law_sum" (topS 39) [] ["_law_feed_here", "_law_within", "_law_less"] (spSu K n)
  | 0 => su_none T
  | n + 1 => su_step T (ok_su T n)
end
end FJ

/-! FJs: _law_kind. -/
namespace FJ
open PySem PySem.Spec PyProof.Rows L2
theorem atI_dpa {K : PySem.W.Frag} {H : Hp} {α : Type} {f : α → PyData} {ss : List α} {xs : List V} {i : Int} (h : DpAll K H xs (ss.map f)) (h0 : 0 ≤ i) (h1 : i < ss.length) : ∃ v s, atI xs i = some v ∧ s ∈ ss ∧ Dp K H v (f s) := by
  have hl : xs.length = ss.length := by rw [dpa_len h, List.length_map]
  have hn : i.toNat < xs.length := by omega
  have e : ((i.toNat : Nat) : Int) = i := Int.toNat_of_nonneg h0
  have q : atI xs ((i.toNat : Nat) : Int) = some xs[i.toNat] := atI_nat (List.getElem?_eq_getElem hn)
  obtain ⟨d, hd, dp⟩ := dpa_get h (List.getElem?_eq_getElem hn)
  rw [List.getElem?_map, List.getElem?_eq_getElem (by omega)] at hd
  have hd : f ss[i.toNat] = d := Option.some.inj hd
  subst hd
  exact ⟨xs[i.toNat], ss[i.toNat], (congrArg (atI xs) e).symm.trans q, List.getElem_mem (by omega), dp⟩
section
variable {P : Program} {w : World} {K : PySem.W.Frag} {mg : Str → Option Value} {base : Heap}
abbrev nKd : List Str := ["_law_feed_here", "_law_low", "_law_own", "_law_there", "_law_fixed", "_law_some"]
def spKd (K : PySem.W.Frag) : Sp := fun vs H Q _ => ∃ φ : Fe, vs = [.ref φ.f] ∧ Feed K φ H ∧ ∀ H' v k, Mv K φ H H' → Dp K H' v (Kd.dat k) → k.depth ≤ 6 → Q v H'
theorem sc_kd : FnScope nKd ["_law_feed_here"] (defScope (topS 41)) := ⟨rfl, rfl, rfl, by decide +kernel, rfl, by decide +kernel, by decide +kernel⟩
theorem ok_kd (T : Txt K mg) : OkD P w K mg base CX0 6 "_law_kind" (topS 41) [] ["_law_feed_here"] (spKd K) := by
  obtain ⟨fD, dD, aD, GD⟩ := (ok_dr (P := P) (w := w) (base := base) T).mono (k := 5) (by omega)
  have bD : Binds K dD ["_law_feed_here", "_law_many"] [] := aD.F.bindsN fun _ _ _ _ _ _ us hl => match us, hl with | [_, _], _ => rfl
  obtain ⟨fS, dS, aS, GS⟩ := ok_su (P := P) (w := w) (base := base) T 4
  have bS : Binds K dS ["_law_feed_here", "_law_within", "_law_less"] [] := aS.F.bindsN fun _ _ _ _ _ _ us hl => match us, hl with | [_, _, _], _ => rfl
  refine okD T.law_kind sc_kd (fun vs H Q E h => ?_) fun f cdv A outer s H vs Q E hr h => ?_
  · obtain ⟨φ, rfl, _⟩ := h
    rfl
  obtain ⟨φ, rfl, hF, q⟩ := h
  let X : Cx := (cxOf CX0 P w K mg base nKd "_law_kind" (defScope (topS 41)) f cdv A outer s H E).nox
  refine ⟨_, pss_cons (ps_asg (pe_tup (pa_cons (pe_tup (pa_cons pe_str (pa_cons pe_str pa_nil))) (pa_cons (pe_tup (pa_cons pe_str (pa_cons pe_str pa_nil))) (pa_cons (pe_tup (pa_cons pe_str (pa_cons pe_str pa_nil))) pa_nil)))) (pg_tup rfl (pgs_cons (pg_name (i := 1) sc_kd.nd rfl (.inl rfl)) (pgs_cons (pg_name (i := 2) sc_kd.nd rfl (.inl rfl)) (pgs_cons (pg_name (i := 3) sc_kd.nd rfl (.inl rfl)) pgs_nil)))))
    (pss_cons (ps_set (i := 4) sc_kd.nd rfl (.inl rfl) (pe_lst (pa_cons (pe_tup (pa_cons pe_str (pa_cons (pv 2) (pa_cons (pe_tup (pa_cons pe_str (pa_cons (pv 3) (pa_cons (pv 1) pa_nil)))) pa_nil)))) (pa_cons (pv 2) (pa_cons (pv 3) (pa_cons (pe_tup (pa_cons pe_str (pa_cons (pv 2) (pa_cons (pe_tup (pa_cons pe_str (pa_cons (pv 1) (pa_cons (pv 3) pa_nil)))) pa_nil)))) pa_nil))))))
    (pss_cons (ps_set (i := 5) sc_kd.nd rfl (.inl rfl) (pe_op op_cat (pe_op op_rep (pe_lst (pa_cons (pe_call GS hr (by rfl) aS.g aS.F.kp bS .nil pass0 (pa_cons (pv 0) (pa_cons (pe_op op_add pe_int (pe_call GD hr (by rfl) aD.g aD.F.kp bD .nil pass0 (pa_cons (pv 0) (pa_cons pe_int pa_nil)))) (pa_cons (pe_cmpR op_eq (pe_call GD hr (by rfl) aD.g aD.F.kp bD .nil pass0 (pa_cons (pv 0) (pa_cons pe_int pa_nil))) pe_int (nomark _)) pa_nil)))) pa_nil)) pe_int) (pv 4)))
    (pss_one (ps_ret (pe_ix ix_list (pe_lst (pa_cons pe_str (pa_cons pe_str (pa_cons pe_str (pa_cons pe_str (pa_cons pe_str (pa_cons (pe_tup (pa_cons pe_str (pa_cons (pe_ix ix_list (pv 5) (pe_call GD hr (by rfl) aD.g aD.F.kp bD .nil pass0 (pa_cons (pv 0) (pa_cons pe_int pa_nil))) (fun _ _ => rfl)) pa_nil))) pa_nil)))))))
      (pe_call GD hr (by rfl) aD.g aD.F.kp bD .nil pass0 (pa_cons (pv 0) (pa_cons pe_int pa_nil))) (fun _ _ => rfl)))))), ?_⟩
  refine ⟨(by show 2 ≤ sizeLine; decide), fun t1 n1 => ⟨(by show 2 ≤ sizeLine; decide), fun t2 n2 => ⟨(by show 2 ≤ sizeLine; decide), fun t3 n3 => ⟨(by show 3 ≤ sizeLine; decide), fun t4 n4 => ?_⟩⟩⟩⟩
  have s0 : Same H _ := (((same_new (o := .tup [V.str "slot", V.str "base"]) n1).trans (same_new (o := .tup [V.str "slot", V.str "mine"]) n2)).trans (same_new (o := .tup [V.str "slot", V.str "theirs"]) n3)).trans (same_new (o := .tup [.ref t1, .ref t2, .ref t3]) n4)
  have d1 := (dp_new (K := K) n1 (ds := [.str "slot", .str "base"]) (.cons (.str "slot") (.cons (.str "base") .nil))).up (((same_new (o := .tup [V.str "slot", V.str "mine"]) n2).trans (same_new (o := .tup [V.str "slot", V.str "theirs"]) n3)).trans (same_new (o := .tup [.ref t1, .ref t2, .ref t3]) n4))
  have d2 := (dp_new (K := K) n2 (ds := [.str "slot", .str "mine"]) (.cons (.str "slot") (.cons (.str "mine") .nil))).up ((same_new (o := .tup [V.str "slot", V.str "theirs"]) n3).trans (same_new (o := .tup [.ref t1, .ref t2, .ref t3]) n4))
  have d3 := (dp_new (K := K) n3 (ds := [.str "slot", .str "theirs"]) (.cons (.str "slot") (.cons (.str "theirs") .nil))).up (same_new (o := .tup [.ref t1, .ref t2, .ref t3]) n4)
  refine ⟨t4, _, rfl, SqT.of upd_same, rfl, _, _, rfl, _, _, rfl, _, _, rfl, rfl, ?_⟩
  generalize upd (upd (upd (upd H t1 _) t2 _) t3 _) t4 _ = H4 at s0 d1 d2 d3
  have d1 : Dp K H4 (.ref t1) (Sm.slot .base).dat := d1
  have d2 : Dp K H4 (.ref t2) (Sm.slot .mine).dat := d2
  have d3 : Dp K H4 (.ref t3) (Sm.slot .theirs).dat := d3
  refine ⟨_, rfl, _, rfl, _, rfl, (by show 3 ≤ sizeLine; decide), fun t5 n5 => ⟨(by show 3 ≤ sizeLine; decide), fun t6 n6 => ⟨_, rfl, _, rfl, _, rfl, _, rfl, _, rfl, (by show 3 ≤ sizeLine; decide), fun t7 n7 => ⟨(by show 3 ≤ sizeLine; decide), fun t8 n8 => ⟨(by show 4 ≤ sizeLine; decide), fun L nL => ?_⟩⟩⟩⟩⟩
  have d5 : Dp K _ (.ref t5) (Sm.bin .minus (.slot .theirs) (.slot .base)).dat := dp_new n5 (.cons (.str _) (.cons d3 (.cons d1 .nil)))
  have S5 := same_new (o := .tup [V.str "minus", .ref t3, .ref t1]) n5
  have d6 : Dp K _ (.ref t6) (Sm.bin .plus (.slot .mine) (.bin .minus (.slot .theirs) (.slot .base))).dat := dp_new n6 (.cons (.str _) (.cons (d2.up S5) (.cons d5 .nil)))
  have S6 := S5.trans (same_new (o := .tup [V.str "plus", .ref t2, .ref t5]) n6)
  have d7 : Dp K _ (.ref t7) (Sm.bin .less (.slot .base) (.slot .theirs)).dat := dp_new n7 (.cons (.str _) (.cons (d1.up S6) (.cons (d3.up S6) .nil)))
  have S7 := S6.trans (same_new (o := .tup [V.str "less", .ref t1, .ref t3]) n7)
  have d8 : Dp K _ (.ref t8) (Sm.bin .plus (.slot .mine) (.bin .less (.slot .base) (.slot .theirs))).dat := dp_new (vs := [V.str "plus", .ref t2, .ref t7]) n8 (.cons (.str _) (.cons (d2.up S7) (.cons d7 .nil)))
  have S8 := S7.trans (same_new (o := .tup [V.str "plus", .ref t2, .ref t7]) n8)
  have d6 := d6.up ((same_new (o := .tup [V.str "less", .ref t1, .ref t3]) n7).trans (same_new (o := .tup [V.str "plus", .ref t2, .ref t7]) n8))
  have d2 := d2.up S8
  have d3 := d3.up S8
  have hF8 := (hF.up s0).up S8
  have nf : L ≠ φ.f := Ne.symm (hF8.ne nL)
  have m8 := (Mv.of hF s0).same S8
  generalize upd (upd (upd (upd H4 t5 _) t6 _) t7 _) t8 _ = H8 at d6 d8 d2 d3 hF8 nL m8
  have S9 := same_new (o := .lst [.ref t6, .ref t2, .ref t3, .ref t8]) nL
  have eL : (upd H8 L (.lst [.ref t6, .ref t2, .ref t3, .ref t8])) L = some (.lst [.ref t6, .ref t2, .ref t3, .ref t8]) := upd_same
  have fx : DpAll K (upd H8 L (.lst [.ref t6, .ref t2, .ref t3, .ref t8])) [.ref t6, .ref t2, .ref t3, .ref t8] ([Sm.bin .plus (.slot .mine) (.bin .minus (.slot .theirs) (.slot .base)), .slot .mine, .slot .theirs, .bin .plus (.slot .mine) (.bin .less (.slot .base) (.slot .theirs))].map Sm.dat) :=
    .cons (d6.up S9) (.cons (d2.up S9) (.cons (d3.up S9) (.cons (d8.up S9) .nil)))
  have m9 := m8.same S9
  generalize upd H8 L (.lst [.ref t6, .ref t2, .ref t3, .ref t8]) = H9 at eL fx m9
  -- the list of sums
  refine ⟨_, rfl, _, rfl, φ, 4, rfl, m9.F1, by decide, by decide, fun H1 i m1 i0 i1 => ⟨1, i, rfl, rfl, _, rfl, φ, 2, rfl, m1.F1, by decide, by decide, fun H2 j m2 _ _ => ?_⟩⟩
  have e1i : (((1 + i).toNat : Nat) : Int) = 1 + i := Int.toNat_of_nonneg (by omega)
  refine ⟨rfl, φ, (1 + i).toNat, decide (V.int j = V.int 0), by rw [e1i]; rfl, m2.F1, by omega, by omega, fun H3 v1 s1 m3 dv c1 => ?_⟩
  have m13 := (m1.trans m2).trans m3
  have eL3 := m13.at_ eL nf
  refine ⟨(by show 1 ≤ sizeLine; decide), fun p np => ⟨p, 4, [v1], rfl, rfl, upd_same, by decide, by decide, (by show 4 ≤ sizeLine; decide), fun p2 np2 => ?_⟩⟩
  have Sp := same_new (o := .lst [v1]) np
  have Sp2 := Sp.trans (same_new (o := .lst (List.replicate (4 : Int).toNat [v1]).flatten) np2)
  refine ⟨_, rfl, p2, L, _, _, rfl, rfl, upd_same, Sp2 _ _ eL3, (by show 8 ≤ sizeLine; decide), fun p3 np3 => ?_⟩
  have Sp3 := Sp2.trans (same_new (o := .lst ((List.replicate (4 : Int).toNat [v1]).flatten ++ [.ref t6, .ref t2, .ref t3, .ref t8])) np3)
  have fx3 := (m13.dpa fx).up Sp3
  have dv3 := dv.up Sp3
  have ds : DpAll K _ ((List.replicate (4 : Int).toNat [v1]).flatten ++ [.ref t6, .ref t2, .ref t3, .ref t8]) (([s1, s1, s1, s1] ++ [Sm.bin .plus (.slot .mine) (.bin .minus (.slot .theirs) (.slot .base)), .slot .mine, .slot .theirs, .bin .plus (.slot .mine) (.bin .less (.slot .base) (.slot .theirs))]).map Sm.dat) :=
    .cons dv3 (.cons dv3 (.cons dv3 (.cons dv3 fx3)))
  have m := (m9.trans m13).same Sp3
  refine ⟨_, rfl, _, rfl, φ, 8, rfl, m.F1, by decide, by decide, fun H5 i5 m5 a5 b5 => ?_⟩
  obtain ⟨v5, s5, e5, h5, d5⟩ := atI_dpa (m5.dpa ds) a5 b5
  have c5 : s5.depth ≤ 6 := by
    rcases List.mem_append.mp h5 with h | h
    · have : s5 = s1 := by
        rcases List.mem_cons.mp h with h | h
        · exact h
        rcases List.mem_cons.mp h with h | h
        · exact h
        rcases List.mem_cons.mp h with h | h
        · exact h
        exact List.mem_singleton.mp h
      rw [this]
      omega
    · rcases List.mem_cons.mp h with rfl | h
      · decide
      rcases List.mem_cons.mp h with rfl | h
      · decide
      rcases List.mem_cons.mp h with rfl | h
      · decide
      rcases List.mem_singleton.mp h with rfl
      decide
  have m := m.trans m5
  refine ⟨p3, _, i5, v5, rfl, rfl, m5.lst (SqL.of upd_same), e5, (by show 2 ≤ sizeLine; decide), fun t nt => ⟨(by show 6 ≤ sizeLine; decide), fun r nr => ?_⟩⟩
  have dO : Dp K _ (.ref t) (Kd.own s5).dat := dp_new nt (.cons (.str _) (.cons d5 .nil))
  have Sr := same_new (o := .lst [.str "plain", .str "sum", .str "most", .str "set", .str "list", .ref t]) nr
  have dk : DpAll K _ [.str "plain", .str "sum", .str "most", .str "set", .str "list", .ref t] ([Kd.plain, .sum, .most, .set, .list, .own s5].map Kd.dat) := .cons (.str _) (.cons (.str _) (.cons (.str _) (.cons (.str _) (.cons (.str _) (.cons (dO.up Sr) .nil)))))
  have m := (m.new (o := .tup [.str "own", v5]) nt).same Sr
  refine ⟨_, rfl, φ, 6, rfl, m.F1, by decide, by decide, fun H6 i6 m6 a6 b6 => ?_⟩
  obtain ⟨v6, k6, e6, h6, d6⟩ := atI_dpa (m6.dpa dk) a6 b6
  refine ⟨r, _, i6, v6, rfl, rfl, m6.lst (SqL.of upd_same), e6, q H6 v6 k6 (m.trans m6) d6 ?_⟩
  rcases List.mem_cons.mp h6 with rfl | h
  · decide
  rcases List.mem_cons.mp h with rfl | h
  · decide
  rcases List.mem_cons.mp h with rfl | h
  · decide
  rcases List.mem_cons.mp h with rfl | h
  · decide
  rcases List.mem_cons.mp h with rfl | h
  · decide
  rcases List.mem_singleton.mp h with rfl
  exact c5
end
end FJ

/-! FJt: set(list of ints); not in a tuple display of data. -/
namespace FJ
open PySem PySem.Spec PyProof.Rows L2
/-- a set that is just laid -/
abbrev noneYet (w : World) : Obj := { cls := .type "set", dict := none, data := .set #[] 0 (.fresh 0 0 (!w.params.followText "set-order")) }
section
variable {P : Program} {w : World} {A : Around} {E : Value → Shared → Prop} {s : Shared}
/-- the new set at the heap's end is filled from the list -/
abbrev Filled (w : World) (s : Shared) (ns : List Int) (s2 : Shared) : Prop := ∃ h' tk c, s2 = { s with heap := h', toks := tk } ∧ SetR w h' s.heap.objs.size (fun j => decide (j ∈ ns)) c ∧ c ≤ ns.length ∧ ∀ b o, s.heap.get? b = some o → h'.get? b = some o
/-- set.__init__ from a list: what its loop over the list leaves -/
theorem init_list {l : Addr} {items : Array Value} {ns : List Int} (hh : A.handled = none) (hl : s.heap.IsList l items) (hi : IntsAre items.toList ns) (hb : ns.length + 1 < scanBound) :
    codeAny (model P w) A (.call (.builtin "set.__init__") ⟨[.ref s.heap.objs.size, .ref l], []⟩) (wants (fun r s2 => r = .none ∧ Filled w s ns s2) E) { s with heap := s.heap.push (noneYet w) } := by
  have hn : items.size = ns.length := by
    have := IntsAre.length hi
    rwa [Array.length_toList] at this
  have hS : (s.heap.push (noneYet w)).get? s.heap.objs.size = some (noneYet w) := Heap.get?_push_size _ rfl
  refine codeAny_call_builtin F.called_set.init.plain F.entry_set_init (check_set_init_1 ⟨_, hS, rfl⟩ ?_)
  obtain ⟨⟨ocls, odict, odata, oslots⟩, hol, hcl, nl, hdl⟩ := hl
  simp only at hcl hdl
  subst hcl
  subst hdl
  have hlt : l < s.heap.objs.size := Heap.lt_size hol
  have hol2 := Heap.get?_push_of_some (noneYet w) hol
  have L1 : (s.heap.push (noneYet w)).IsList l items := ⟨_, hol2, rfl, nl, rfl⟩
  have h1 := F.sub_list_set
  have h2 := F.sub_list_frozenset
  have h3 : (Value.type "list" == Value.type "dict") = false := by decide
  have hq : A.in1.in1.handled = none := by simp [hh]
  have sz : (s.heap.push (noneYet w)).objs.size = s.heap.objs.size + 1 := Heap.size_push ..
  unfold Builtin.«set.__init__» noKeywords Builtin.Frozenset.updateFrom
  generalize hit : pyIter = it
  wp_walk
  subst hit
  refine wpAny_pyIter_list L1 (wpAny_bind (wpAny_runValue ?_))
  have ne1 : l ≠ (s.heap.push (noneYet w)).objs.size := by rw [sz]; exact Nat.ne_of_lt (Nat.lt_succ_of_lt hlt)
  have ne2 : s.heap.objs.size ∉ [(s.heap.push (noneYet w)).objs.size, l] := by rw [sz]; simp only [List.mem_cons, List.mem_singleton, List.not_mem_nil, or_false, not_or]; exact ⟨Nat.ne_of_lt (Nat.lt_succ_self _), Nat.ne_of_gt hlt⟩
  have hS2 : ((s.heap.push (noneYet w)).push { cls := .type "list_iterator", data := .fields #[.ref l, .int 0 0] }).get? s.heap.objs.size = some (noneYet w) := Heap.get?_push_of_some _ hS
  refine set_update_ints ((Walks.list hq _ l ne1 items).toS) s.heap.objs.size ne2 ns hn hb ?hv (items.size - 0) 0 _ (by omega) (Nat.zero_le _)
    ?st ?hS0 ?hR
  case st => exact ⟨⟨_, Heap.get?_push_size _ rfl, rfl, rfl⟩, L1.push _⟩
  case hS0 => exact ⟨0, Nat.le_refl 0, setR_new_at hS2⟩
  case hv =>
    intro i v hv
    have hlt2 : i < ns.length := by rw [← hn]; exact (Array.getElem?_eq_some_iff.mp hv).1
    obtain ⟨t, e⟩ := PyProof.Rows.IntsAre.int_at hi i v (by rw [Array.getElem?_toList]; exact hv)
    refine ⟨ns[i], t, List.getElem?_eq_getElem hlt2, ?_⟩
    rw [e, List.getD_eq_getElem?_getD, List.getElem?_eq_getElem hlt2]
    rfl
  case hR =>
    intro s2 c hm hc hR
    obtain ⟨h2', g2, d2, t2, o2⟩ := s2
    obtain rfl : g2 = s.gens := hm.gens
    obtain rfl : d2 = s.drawn := hm.drawn
    obtain rfl : o2 = s.os := hm.os
    show wpAny _ _ _ _ _ _
    refine wpAny_pure ?_
    show wpAny _ _ (ret Value.none) _ _ _
    refine wpAny_pure ⟨rfl, h2', t2, c, rfl, hR, by rw [← hn]; exact hc, fun b o e => ?_⟩
    have b0 := Heap.lt_size e
    exact hm.heap b o (by rw [sz]; simp only [List.mem_cons, List.mem_singleton, List.not_mem_nil, or_false, not_or]; exact ⟨Nat.ne_of_lt b0, Nat.ne_of_lt (Nat.lt_succ_of_lt b0)⟩) (Heap.get?_push_of_some _ (Heap.get?_push_of_some _ e))
theorem set_of_list {l : Addr} {items : Array Value} {ns : List Int} {Q : Value → Shared → Prop} (hh : A.handled = none) (hl : s.heap.IsList l items) (hi : IntsAre items.toList ns) (hb : ns.length + 1 < scanBound)
    (h : ∀ s2, Filled w s ns s2 → Q (.ref s.heap.objs.size) s2) : wpAny (model P w) A (call (.type "set") [.ref l]) Q E s := by
  obtain ⟨c, tl, hmro⟩ := F.called_set.mro
  have k1 := F.called_set.made
  have k2 := F.called_set.sub
  have k3 := F.called_set.notType
  have k4 := F.called_set.canCreate
  have k5 := F.typeCall_set_1 (.ref l)
  refine wpAny_call (codeAny_of_tree ?_)
  show wpAny _ _ (callAny (.type "set") _) _ _ _
  refine wpAny_pure ⟨Code.quiet_builtin _ (by decide +kernel), codeAny_builtin F.entry_type_call ?_⟩
  rw [Around.under_plain (weight_type_call_type "set" [.ref l] []) rfl]
  repeat (any_goals (first | assumption | wp_step))
  refine codeAny_mono (code_set_led1 (.ref l) (E := E) (Q₁ := fun v s1 => v = .ref s.heap.objs.size ∧ s1 = { s with heap := s.heap.push (noneYet w) }) ⟨rfl, rfl⟩) fun r s1 hr => ?_
  cases r with
  | error e => exact hr
  | ok fl =>
    cases fl with
    | ret v =>
      obtain ⟨rfl, rfl⟩ := hr
      have hT : Shared.TypeIs { s with heap := s.heap.push (noneYet w) } (.ref s.heap.objs.size) "set" := ⟨_, Heap.get?_push_size _ rfl, rfl⟩
      have k6 := F.called_set.init.lookup
      have k7 := F.called_set.init.bind (.ref s.heap.objs.size)
      repeat (any_goals (first | assumption | wp_step))
      refine codeAny_mono (init_list (E := E) (by simp [hh]) hl hi hb) fun r2 s2 hr2 => ?_
      cases r2 with
      | error e => exact hr2
      | ok fl2 =>
        cases fl2 with
        | ret r =>
          obtain ⟨rfl, hf⟩ := hr2
          repeat (any_goals (first | assumption | wp_step))
          exact h _ hf
        | _ => exact hr2.elim
    | _ => exact hr.elim
end
section
variable {X : Cx}
/-- set(xs), xs a list or a tuple of ints -/
def rSetL (K : PySem.W.Frag) (w : World) : List V → Hp → VK → Prop := fun vs H Q => ∃ (p : Addr) (ns : List Int), vs = [.ref p] ∧ (SqL K H p (ns.map V.int) ∨ SqT K H p (ns.map V.int)) ∧ ns.length ≤ 1000 ∧
  ∀ q c, H q = none → (∃ ks : List Int, ks.Nodup ∧ ks.length = c ∧ ∀ j, j ∈ ks ↔ j ∈ ns) → Q (.ref q) (upd H q (SetO w q (fun j => decide (j ∈ ns)) c))
theorem setR_keys {w : World} {h : Heap} {a : Addr} {ns : List Int} {c : Nat} (R : SetR w h a (fun j => decide (j ∈ ns)) c) : ∃ ks : List Int, ks.Nodup ∧ ks.length = c ∧ ∀ j, j ∈ ks ↔ j ∈ ns := by
  obtain ⟨o, es, ep, t, ho, hex, hdt, g, nd, hm, hb, hf, hn, hr, hl⟩ := R
  refine ⟨_, nd, by rw [List.length_map, Array.length_toList]; exact hn, fun j => ?_⟩
  rw [← hm j]
  exact decide_eq_true_iff
theorem cr_setL (hc : X.calm = true) : CallR X (.type "set") (rSetL X.K X.w) := by
  intro pins s σ H vs us Q I r h
  obtain ⟨p, ns, rfl, hq, hl, q⟩ := h
  rw [Vals.ref1 r]
  have hn : H s.heap.objs.size = none := I.hok.fresh (Nat.le_refl _)
  have sb : ns.length + 1 < scanBound := by
    unfold scanBound
    omega
  rcases hq with hq | hq
  · obtain ⟨its, rv, pt, hz⟩ := I.list hq
    refine set_of_list (I.ok.hd hc) pt.isList (by simpa using ints_of_vals rv) sb fun s2 hf => ?_
    obtain ⟨h', tk, c, rfl, R, hcl, k⟩ := hf
    exact ⟨.ref _, _, I.laid (t' := tk) k (Nat.le_refl _) (setO_new R), rfl, q _ c hn (setR_keys R)⟩
  · obtain ⟨its, rv, pt, hz⟩ := I.tuple hq
    refine call_set_tupI ns (I.ok.hd hc) (show s.heap.IsTuple p its.toArray from pt) (by simpa using ints_of_vals rv) sb fun h' tk c R hcl k => ?_
    exact ⟨.ref _, _, I.laid (t' := tk) k (Nat.le_refl _) (setO_new R), rfl, q _ c hn (setR_keys R)⟩
/-- x not in a tuple of data -/
def rNotInT (K : PySem.W.Frag) : R2 := fun x y H Q => ∃ d ds, Dp K H x d ∧ Dp K H y (.tuple ds) ∧ SeqAt.shaped d = true ∧ SeqAt.shaped (.tuple ds) = true ∧ Q (.bl (!ds.any fun z => PyData.eqv z d)) H
theorem op_notInT (hu : X.A.units + 65 < cLine) : OpR X (compareOp .NotIn) (rNotInT X.K) := by
  intro pins s σ H x y v u Q I rx ry h
  obtain ⟨d, ds, hd, he, sd, se, q⟩ := h
  obtain ⟨as, r1⟩ := Dp.reads I d x v hd rx
  obtain ⟨bs, r2⟩ := Dp.reads I (.tuple ds) y u he ry
  exact SeqAt.notIn_tuple_reads r2 r1 (SeqAt.canLay_of_shaped se) (SeqAt.canLay_of_shaped sd) (room_in_shaped sd hu) ⟨.bl _, H, I, rfl, q⟩
end
theorem len_nodup : ∀ l : List Int, l.Nodup → (sortU l).length = l.length
  | [], _ => rfl
  | x :: r, h => by
    have h1 := List.nodup_cons.mp h
    show (insU x (sortU r)).length = r.length + 1
    rw [insU_len _ _ (rising_sortU r), if_neg fun z => h1.1 ((mem_sortU x r).mp z), len_nodup r h1.2]
theorem few_keys {ks ns : List Int} (h : ks.Nodup) (e : ∀ j, j ∈ ks ↔ j ∈ ns) (hb : ∀ x ∈ ns, -1 ≤ x ∧ x ≤ 40) : ks.length ≤ 42 := by
  rw [← len_nodup ks h]
  exact rising_few (rising_sortU ks) fun x hx => hb x ((e x).mp ((mem_sortU x ks).mp hx))
end FJ

/-! FJu: _law_has. -/
namespace FJ
open PySem PySem.Spec PyProof.Rows L2
def rLen (K : PySem.W.Frag) : List V → Hp → VK → Prop := fun xs H Q => ∃ p ys, xs = [.ref p] ∧ (SqL K H p ys ∨ SqT K H p ys) ∧ Q (.int ys.length) H
def isSL : Kd → Bool
  | .set => true
  | .list => true
  | _ => false
theorem sl_any (k : Kd) : ([PyData.str "set", .str "list"].any fun z => PyData.eqv z k.dat) = isSL k := by
  cases k with
  | own s => rfl
  | _ => decide +kernel
theorem num_fits {k : Kd} (h : isSL k = false) (i : Int) : Fits k (.int i) := by
  cases k with
  | set => cases h
  | list => cases h
  | _ => exact trivial
theorem many_at (x y z : Int) (x0 : 0 ≤ x) (x1 : x < 5) (y0 : 0 ≤ y) (y1 : y < 5) (z0 : 0 ≤ z) (z1 : z < 9) : ∃ j : Int, atI [V.int x, .int y, .int 40] (z / 4) = some (.int j) ∧ 0 ≤ j ∧ j ≤ 40 := by
  have c : z / 4 = 0 ∨ z / 4 = 1 ∨ z / 4 = 2 := by omega
  rcases c with e | e | e
  · rw [e]; exact ⟨x, rfl, x0, by omega⟩
  · rw [e]; exact ⟨y, rfl, y0, by omega⟩
  · rw [e]; exact ⟨40, rfl, by decide, by decide⟩
section
variable {P : Program} {w : World} {K : PySem.W.Frag} {mg : Str → Option Value} {base : Heap}
abbrev nHs : List Str := ["_law_feed_here", "_law_kind_here", "_law_many", "_law_some", "_law_k", "_law_number_here"]
def spHs (K : PySem.W.Frag) : Sp := fun vs H Q _ => ∃ (φ : Fe) (vk : V) (k : Kd), vs = [.ref φ.f, vk] ∧ Feed K φ H ∧ Dp K H vk k.dat ∧ k.depth ≤ 6 ∧ ∀ H' v h, Mv K φ H H' → Dp K H' v (HV.dat h) → Fits k h → h.len ≤ 42 → Q v H'
theorem sc_hs : FnScope nHs ["_law_feed_here", "_law_kind_here"] (defScope (topS 40)) := ⟨rfl, rfl, rfl, by decide +kernel, rfl, by decide +kernel, by decide +kernel⟩
theorem ok_hs (T : Txt K mg) : OkD P w K mg base CX0 3 "_law_has" (topS 40) [] ["_law_feed_here", "_law_kind_here"] (spHs K) := by
  obtain ⟨fD, dD, aD, GD⟩ := (ok_dr (P := P) (w := w) (base := base) T).mono (k := 2) (by omega)
  have bD : Binds K dD ["_law_feed_here", "_law_many"] [] := aD.F.bindsN fun _ _ _ _ _ _ us hl => match us, hl with | [_, _], _ => rfl
  obtain ⟨fN, dN, aN, GN⟩ := ok_nu (P := P) (w := w) (base := base) T
  have bN : Binds K dN ["_law_feed_here"] [] := aN.F.bindsN fun _ _ _ _ _ _ us hl => match us, hl with | [_], _ => rfl
  refine okD T.law_has sc_hs (fun vs H Q E h => ?_) fun f cdv A outer s H vs Q E hr h => ?_
  · obtain ⟨φ, vk, k, rfl, _⟩ := h
    rfl
  obtain ⟨φ, vk, k, rfl, hF, hk, kd, q⟩ := h
  have hu := units64 hr
  have hu65 := units65 hr
  have sk := shaped_kd k (by omega)
  let X : Cx := (cxOf CX0 P w K mg base nHs "_law_has" (defScope (topS 40)) f cdv A outer s H E).nox
  -- the list is made, then the answer
  have tail : ∃ tb, PSs X ((defBody (topS 40)).drop 1) tb ∧ ∀ (H1 : Hp), Mv K φ H H1 → isSL k = true → tb { nx := fun _ H' => Q .non H', rt := Q } [some (.ref φ.f), some vk, none, none, none, none] H1 := by
    refine ⟨_, pss_cons (ps_set (i := 2) sc_hs.nd rfl (.inl rfl) (pe_lst (pa_cons (pe_call GD hr (by rfl) aD.g aD.F.kp bD .nil pass0 (pa_cons (pv 0) (pa_cons pe_int pa_nil))) (pa_cons (pe_call GD hr (by rfl) aD.g aD.F.kp bD .nil pass0 (pa_cons (pv 0) (pa_cons pe_int pa_nil))) (pa_cons pe_int pa_nil)))))
      (pss_cons (ps_set (i := 3) sc_hs.nd rfl (.inr rfl) (pe_l1 (own := [("_law_k", 4)]) rfl sc_hs.nd (pi_range1 (by rfl) T.z_range (pa_cons (pe_ix ix_list (pv 2) (pe_op op_fdiv (pe_call GD hr (by rfl) aD.g aD.F.kp bD .nil pass0 (pa_cons (pv 0) (pa_cons pe_int pa_nil))) pe_int) (fun _ _ => rfl)) pa_nil)) (blkOk_by (N := nHs) (sc := defScope (topS 40)) (by decide +kernel))
        (fun _ _ _ _ _ => pg_name (i := 4) sc_hs.nd rfl (Or.inl rfl)) (fun _ _ _ _ _ => pts_nil) (fun _ _ _ _ _ => pe_op op_sub (pe_call (X := _) GD hr (by rfl) aD.g aD.F.kp bD .nil pass0 (pa_cons (pv 0) (pa_cons pe_int pa_nil))) pe_int)))
      (pss_cons (ps_set (i := 3) sc_hs.nd rfl (.inr rfl) (pe_l1 (own := [("_law_k", 4), ("_law_number_here", 5)]) (g1 := gTup K 2 (gCons (gName 4) (gCons (gName 5) gNil))) rfl sc_hs.nd (pi_enum (by rfl) T.z_enumerate (pa_cons (pv 3) pa_nil)) (blkOk_by (N := nHs) (sc := defScope (topS 40)) (by decide +kernel))
        (fun _ _ _ _ _ => pg_tup rfl (pgs_cons (pg_name (i := 4) sc_hs.nd rfl (Or.inl rfl)) (pgs_cons (pg_name (i := 5) sc_hs.nd rfl (Or.inl rfl)) pgs_nil))) (fun _ _ _ _ _ => pts_nil)
        (fun _ _ _ _ _ => pe_op op_add (pv 5) (pe_op op_mul (pe_op op_fdiv (pv 4) pe_int) (pe_callTy call_int1 (by rfl) T.z_int (by decide +kernel) (pa_cons (pe_cmpR op_gt (pe_callB (show CallR _ (.builtin "len") (rLen K) from call_len_seq) (by rfl) T.z_len (by decide +kernel) (pa_cons (pv 3) pa_nil)) pe_int (nomark _)) pa_nil))))))
      (pss_one (ps_ret (pe_ifExp (pt_cmpR (op_eqD hu) (pv 1) pe_str (nomark _)) (pe_callTy call_tuple_of (by rfl) T.z_tuple (by decide +kernel) (pa_cons (pv 3) pa_nil))
        (pe_callTy call_tuple_of (by rfl) T.z_tuple (by decide +kernel) (pa_cons (pe_callB (cr_sortedSet rfl) (by rfl) T.z_sorted (by decide +kernel) (pa_cons (pe_callTy (cr_setL rfl) (by rfl) T.z_set (by decide +kernel) (pa_cons (pv 3) pa_nil)) pa_nil)) pa_nil))))))), fun H1 m1 hsl => ?_⟩
    refine ⟨_, rfl, φ, 5, rfl, m1.F1, by decide, by decide, fun H2 x m2 x0 x1 => ⟨_, rfl, φ, 5, rfl, m2.F1, by decide, by decide, fun H3 y m3 y0 y1 => ⟨(by show 3 ≤ sizeLine; decide), fun p np => ?_⟩⟩⟩
    have m := ((m1.trans m2).trans m3).new (o := .lst [.int x, .int y, .int 40]) np
    refine ⟨_, rfl, _, rfl, φ, 9, rfl, m.F1, by decide, by decide, fun H4 z m4 z0 z1 => ⟨z, 4, rfl, rfl, ⟨by decide, by decide⟩, ?_⟩⟩
    obtain ⟨j, ej, j0, j1⟩ := many_at x y z x0 x1 y0 y1 z0 z1
    refine ⟨p, _, z / 4, _, rfl, rfl, m4.lst (SqL.of upd_same), ej, j, rfl, by omega, by omega, fun D nD => ?_⟩
    have m := m.trans m4
    refine wk_y j.toNat (fun i H' => ∃ acc : List Int, MInv K φ H4 D (acc.map V.int) H' ∧ acc.length = i ∧ ∀ x ∈ acc, -1 ≤ x ∧ x ≤ 4) ⟨[], MInv.init m.F1 nD, rfl, fun _ h => by cases h⟩ (fun i H' hi _ => hi) (fun H' hP => ⟨Nat.le_refl _, ?_⟩) (fun i H' u H5 hi hP hy => ?_)
    rotate_left
    · obtain ⟨acc, hM, hl, hb⟩ := hP
      obtain ⟨rfl, rfl⟩ := hy
      refine ⟨rfl, _, rfl, φ, 6, rfl, hM.mv.F1, by decide, by decide, fun H6 d m6 d0 d1 => ⟨d, 1, rfl, rfl, ?_⟩⟩
      obtain ⟨hD, hM2⟩ := hM.push (y := .int (d - 1)) m6
      refine ⟨_, hD, (by rw [List.length_map]; exact small1000 (by omega)), acc ++ [d - 1], ?_, by rw [List.length_append, hl]; rfl, fun x hx => ?_⟩
      · rw [List.map_append]
        exact hM2
      · rcases List.mem_append.mp hx with h | h
        · exact hb x h
        · rw [List.mem_singleton.mp h]
          omega
    · obtain ⟨ns, hM, hl, hb⟩ := hP
      have m := m.trans hM.mv
      have hD := hM.lst
      have lj : ns.length ≤ 40 := by omega
      refine ⟨_, rfl, D, _, rfl, SqL.of hD, fun D2 nD2 => ?_⟩
      refine wk_y ns.length (fun i H5 => ∃ acc : List Int, FInv H' D2 (acc.map V.int) H5 ∧ acc.length = i ∧ ∀ x ∈ acc, -1 ≤ x ∧ x ≤ 10) ⟨[], FInv.init nD2, rfl, fun _ h => by cases h⟩ (fun i H5 hi hP => ?_) (fun H5 hP => ?_) (fun i H5 u H6 hi hP hy => ?_)
      rotate_left 2
      · obtain ⟨acc, hM2, hl2, hb2⟩ := hP
        obtain ⟨U, xu, rfl, nU, rfl, fx⟩ := hy
        have gx := fx _ (SqL.of (hM2.same _ _ hD))
        rw [List.getElem?_map, List.getElem?_eq_getElem hi] at gx
        have gx : V.int ns[i] = xu := Option.some.inj gx
        subst gx
        have bx := hb ns[i] (List.getElem_mem hi)
        have sU : Same H5 (upd H5 U (.tup [.int i, .int ns[i]])) := same_new nU
        refine ⟨U, _, rfl, SqT.of upd_same, rfl, _, _, rfl, _, _, rfl, rfl, rfl, ?_⟩
        refine ⟨_, rfl, _, rfl, i, 6, rfl, rfl, ⟨by decide, by decide⟩, _, rfl, D, _, rfl, .inl (SqL.of (sU _ _ (hM2.same _ _ hD))), _, 9, rfl, rfl, .inr ⟨_, rfl, _, _, rfl, rfl, .inr ?_, _, _, rfl, rfl, ?_⟩⟩
        · split <;> decide
        · generalize ec : decide ((9 : Int) < ((ns.map V.int).length : Int)) = b
          obtain ⟨hD3, hM3⟩ := hM2.push (y := .int (ns[i] + (i : Int) / 6 * (if b = true then 1 else 0))) sU
          refine ⟨_, hD3, (by rw [List.length_map]; exact small1000 (by omega)), acc ++ [ns[i] + (i : Int) / 6 * (if b = true then 1 else 0)], ?_, by rw [List.length_append, hl2]; rfl, fun x hx => ?_⟩
          · rw [List.map_append]
            exact hM3
          · rcases List.mem_append.mp hx with h | h
            · exact hb2 x h
            · rw [List.mem_singleton.mp h]
              cases b
              · rw [if_neg Bool.false_ne_true, Int.mul_zero]
                omega
              · rw [if_pos rfl, Int.mul_one]
                omega
      · obtain ⟨acc, hM2, hl2, hb2⟩ := hP
        exact ⟨_, _, SqL.of (hM2.same _ _ hD), by rw [List.getElem?_map, List.getElem?_eq_getElem hi]; rfl⟩
      · obtain ⟨acc, hM2, hl2, hb2⟩ := hP
        refine ⟨⟨_, SqL.of (hM2.same _ _ hD), by rw [List.length_map]; exact Nat.le_refl _⟩, ?_⟩
        have m := m.same hM2.same
        refine ⟨_, rfl, k.dat, .str "list", m.dp hk, .str _, sk, shaped_str _ (by decide +kernel), _, rfl, ?_⟩
        cases k with
        | list =>
          refine bT ((eqv_kd _ _).trans (by decide +kernel)) ?_
          refine ⟨_, rfl, D2, _, rfl, .inl ⟨SqL.of hM2.lst, fun t nt => ?_⟩⟩
          exact q _ _ (.tup acc) (m.new nt) (dp_of_ht (SqT.of upd_same)) trivial (by show acc.length ≤ 42; omega)
        | set =>
          refine bF ((eqv_kd _ _).trans (by decide +kernel)) ?_
          refine ⟨_, rfl, D2, acc, rfl, .inl (SqL.of hM2.lst), by omega, fun e c ne hks => ?_⟩
          obtain ⟨ks, nd, ek, mk⟩ := hks
          have hc := few_keys nd mk (fun x hx => by have := hb2 x hx; omega)
          have m := m.new (o := SetO w e (fun j => decide (j ∈ acc)) c) ne
          refine ⟨e, _, c, rfl, upd_same, by omega, fun ms p2 asc mem len np2 => ?_⟩
          have m := m.new (o := .lst (ms.map V.int)) np2
          refine ⟨p2, _, rfl, .inl ⟨SqL.of upd_same, fun t nt => ?_⟩⟩
          refine q _ _ (.tup ms) (m.new nt) (dp_of_ht (SqT.of upd_same)) ⟨asc, fun x hx => ?_⟩ (by show ms.length ≤ 42; omega)
          have := hb2 x (of_decide_eq_true ((mem x).mp hx))
          omega
        | plain => cases hsl
        | sum => cases hsl
        | most => cases hsl
        | own s => cases hsl
  obtain ⟨tT, pT, rT⟩ := tail
  refine ⟨_, pss_cons (ps_if (pt_cmpR (op_notInT hu65) (pv 1) (pe_tup (pa_cons pe_str (pa_cons pe_str pa_nil))) (by rfl)) (pss_one (ps_ret (pe_call GN hr (by rfl) aN.g aN.F.kp bN .nil pass0 (pa_cons (pv 0) pa_nil)))) pss_nil) pT, ?_⟩
  refine ⟨_, rfl, (by show 2 ≤ sizeLine; decide), fun t nt => ⟨k.dat, [.str "set", .str "list"], hk.up (same_new nt), dp_new nt (.cons (.str _) (.cons (.str _) .nil)), sk, by decide +kernel, _, rfl, ?_⟩⟩
  rw [sl_any]
  have m := (Mv.refl hF).new (o := .tup [.str "set", .str "list"]) nt
  cases c : isSL k with
  | false =>
    refine iteT ?_
    exact ⟨_, rfl, φ, rfl, m.F1, fun H' i m' => q H' (.int i) (.int i) (m.trans m') (.int i) (num_fits c i) (Nat.zero_le _)⟩
  | true =>
    refine iteF ?_
    exact rT _ m c
end
end FJ

/-! FJv: _law_joins. -/
namespace FJ
open PySem PySem.Spec PyProof.Rows L2
def forBody : Stmt → List Stmt
  | .For (body := b) .. => b
  | _ => []
section
variable {K : PySem.W.Frag} {H0 H1 H2 : Hp} {φ : Fe} {D : Addr} {o : HO} {v : V} {acc : List V} {h : HV} {a : Addr} {xs : List V}
theorem Mv.put (m : Mv K φ H0 H1) (n : H0 D = none) : Mv K φ H0 (upd H1 D o) := by
  have ne : D ≠ φ.f := Ne.symm (m.F0.ne n)
  have s1 : SF φ.f H0 (upd H1 D o) := fun b u q => by
    by_cases hb : b = φ.f
    · rw [hb, cut_same] at q
      cases q
    · have q2 := m.sf b u q
      rw [cut_ne hb] at q q2 ⊢
      rw [upd_ne (ne_of_none q n)]
      exact q2
  obtain ⟨x, l, k, h1⟩ := m.F1.at_
  exact ⟨s1, m.F0, feed_of (a := x) (l := l) (n := k) (by rw [upd_ne (Ne.symm ne)]; exact h1) m.F0.cs s1 m.F0.few⟩
theorem cut_comm (D f : Addr) (H : Hp) : cut f (cut D H) = cut D (cut f H) := by
  funext b
  unfold cut
  by_cases h1 : b = f <;> by_cases h2 : b = D <;> simp [h1, h2]
theorem Mv.cut (m : Mv K φ H1 H2) (hF : Feed K φ (cut D H1)) : Mv K φ (cut D H1) (cut D H2) := by
  have s : SF φ.f (FJ.cut D H1) (FJ.cut D H2) := by
    show Same (FJ.cut φ.f (FJ.cut D H1)) (FJ.cut φ.f (FJ.cut D H2))
    rw [cut_comm D φ.f H1, cut_comm D φ.f H2]
    exact cut_up m.sf
  obtain ⟨x, l, k, h1⟩ := m.F1.at_
  obtain ⟨x0, l0, k0, h0⟩ := hF.at_
  have ne : φ.f ≠ D := fun z => by
    rw [z, cut_same] at h0
    cases h0
  exact ⟨s, hF, feed_of (a := x) (l := l) (n := k) (by rw [cut_ne ne]; exact h1) hF.cs s hF.few⟩
theorem sqT_cutL (e : H1 D = some (.lst acc)) (t : SqT K H1 a xs) : SqT K (FJ.cut D H1) a xs := by
  have ne : ∀ {u : HO}, H1 a = some u → u ≠ .lst acc → a ≠ D := fun {u} q n z => by
    rw [z, e] at q
    exact n (Option.some.inj q).symm
  rcases t with (t | ⟨u, t⟩) | t
  · exact .inl (.inl (by rw [cut_ne (ne t (fun z => by cases z))]; exact t))
  · exact .inl (.inr ⟨u, by rw [cut_ne (ne t (fun z => by cases z))]; exact t⟩)
  · exact .inr t
theorem hv_cutL (e : H1 D = some (.lst acc)) (t : Dp K H1 v h.dat) : Dp K (FJ.cut D H1) v h.dat := by
  cases h with
  | int i =>
    have q := dp_hi t
    subst q
    exact .int i
  | tup ns =>
    obtain ⟨a, rfl, ta⟩ := dp_ht t
    exact dp_of_ht (sqT_cutL e ta)
/-- the list of joins, being filled -/
structure JInv (K : PySem.W.Frag) (φ : Fe) (H0 : Hp) (D : Addr) (js : List Jn) (vb : V) (b : HV) (H' : Hp) : Prop where
  new : H0 D = none
  F : Feed K φ (FJ.cut D H')
  mv : Mv K φ H0 H'
  lst : ∃ acc, H' D = some (.lst acc) ∧ DpAll K (FJ.cut D H') acc (js.map Jn.dat)
  base : Dp K (FJ.cut D H') vb b.dat
theorem JInv.go {js : List Jn} {vb : V} {b : HV} (j : JInv K φ H0 D js vb b H1) (m : Mv K φ H1 H2) : JInv K φ H0 D js vb b H2 := by
  obtain ⟨acc, e, d⟩ := j.lst
  have ne : D ≠ φ.f := Ne.symm (j.mv.F0.ne j.new)
  have mc := m.cut j.F
  exact ⟨j.new, mc.F1, j.mv.trans m, ⟨acc, m.at_ e ne, mc.dpa d⟩, mc.dp j.base⟩
theorem JInv.rebase {js : List Jn} {vb vc : V} {b c : HV} (j : JInv K φ H0 D js vb b H1) (d : Dp K H1 vc c.dat) : JInv K φ H0 D js vc c H1 := by
  obtain ⟨acc, e, _⟩ := id j.lst
  exact ⟨j.new, j.F, j.mv, j.lst, hv_cutL e d⟩
theorem JInv.push {js : List Jn} {vb vt : V} {b t : HV} {q : Addr} (j : JInv K φ H0 D js vb b H1) (d : Dp K H1 vt t.dat) (nq : H1 q = none) : ∃ acc, (upd H1 q (.tup [vb, vt])) D = some (.lst acc) ∧ acc.length = js.length ∧
    JInv K φ H0 D (js ++ [⟨b, t⟩]) vb b (upd (upd H1 q (.tup [vb, vt])) D (.lst (acc ++ [.ref q]))) := by
  obtain ⟨acc, e, hd⟩ := id j.lst
  have s := same_new (o := .tup [vb, vt]) nq
  have eq : q ≠ D := fun z => by
    rw [z, e] at nq
    cases nq
  have sc := cut_up (D := D) s
  refine ⟨acc, s _ _ e, by rw [dpa_len hd, List.length_map], j.new, ?_, (j.mv.same s).put j.new, ⟨_, upd_same, ?_⟩, ?_⟩
  · rw [cut_upd]
    exact j.F.up sc
  · rw [cut_upd, List.map_append]
    refine dpa_snoc (hd.up sc) ?_
    have nc : FJ.cut D H1 q = none := by rw [cut_ne eq]; exact nq
    have := dp_new nc (.cons j.base (.cons (hv_cutL e d) .nil))
    refine this.up fun b' o' z => ?_
    by_cases hb : b' = q
    · subst hb
      rw [upd_same] at z
      rw [cut_ne eq, upd_same]
      exact z
    · rw [upd_ne hb] at z
      by_cases hD : b' = D
      · rw [hD, cut_same] at z
        cases z
      · rw [cut_ne hD] at z ⊢
        rw [upd_ne hb]
        exact z
  · rw [cut_upd]
    exact j.base.up sc
end
section
variable {P : Program} {w : World} {K : PySem.W.Frag} {mg : Str → Option Value} {base : Heap}
abbrev nJo : List Str := ["_law_feed_here", "_law_kind_here", "_law_many", "_law_same", "_law_base", "_law_found", "_law_k", "_law_theirs"]
def Jn.Ok (k : Kd) (j : Jn) : Prop := j.Fits k ∧ j.base.len ≤ 42 ∧ j.theirs.len ≤ 42
def spJo (K : PySem.W.Frag) : Sp := fun vs H Q _ => ∃ (φ : Fe) (vk : V) (k : Kd) (same : Bool), vs = [.ref φ.f, vk, .int 2, .bl same] ∧ Feed K φ H ∧ Dp K H vk k.dat ∧ k.depth ≤ 6 ∧
  ∀ H' v p r, Mv K φ H H' → Dp K H' v (.tuple [Jn.dat p, Jn.dat r]) → p.Ok k → r.Ok k → (same = true → p.base = r.base) → Q v H'
theorem sc_jo : FnScope nJo ["_law_feed_here", "_law_kind_here", "_law_many", "_law_same"] (defScope (topS 42)) := ⟨rfl, rfl, rfl, by decide +kernel, rfl, by decide +kernel, by decide +kernel⟩
theorem ok_jo (T : Txt K mg) : OkD P w K mg base CX0 4 "_law_joins" (topS 42) [] ["_law_feed_here", "_law_kind_here", "_law_many", "_law_same"] (spJo K) := by
  obtain ⟨fD, dD, aD, GD⟩ := (ok_dr (P := P) (w := w) (base := base) T).mono (k := 3) (by omega)
  have bD : Binds K dD ["_law_feed_here", "_law_many"] [] := aD.F.bindsN fun _ _ _ _ _ _ us hl => match us, hl with | [_, _], _ => rfl
  obtain ⟨fH, dH, aH, GH⟩ := ok_hs (P := P) (w := w) (base := base) T
  have bH : Binds K dH ["_law_feed_here", "_law_kind_here"] [] := aH.F.bindsN fun _ _ _ _ _ _ us hl => match us, hl with | [_, _], _ => rfl
  refine okD T.law_joins sc_jo (fun vs H Q E h => ?_) fun f cdv A outer s H vs Q E hr h => ?_
  · obtain ⟨φ, vk, k, same, rfl, _⟩ := h
    rfl
  obtain ⟨φ, vk, k, same, rfl, hF, hk, kd, q⟩ := h
  have hu := units64 hr
  have sk := shaped_kd k (by omega)
  let X : Cx := (cxOf CX0 P w K mg base nJo "_law_joins" (defScope (topS 42)) f cdv A outer s H E).nox
  -- the last of a turn: the pair goes into the list
  have last : ∃ tb, PSs X ((forBody ((defBody (topS 42)).getD 2 (.Pass ⟨0, 0, 0, 0⟩))).drop 4) tb ∧ ∀ (N : Ends) (H0 H1 : Hp) (D : Addr) (js : List Jn) (vb vt : V) (b t : HV) (y : Option V), JInv K φ H0 D js vb b H1 → Dp K H1 vt t.dat → js.length ≤ 2 →
      (∀ H2, JInv K φ H0 D (js ++ [⟨b, t⟩]) vb b H2 → N.nx [some (.ref φ.f), some vk, some (.int 2), some (.bl same), some vb, some (.ref D), y, some vt] H2) →
      tb N [some (.ref φ.f), some vk, some (.int 2), some (.bl same), some vb, some (.ref D), y, some vt] H1 := by
    refine ⟨_, pss_one (ps_expr (pe_bm PySem.F.plainAttrs_list PySem.F.slot_list_append PySem.F.type_list_append mt_append (pv 5) (pa_cons (pe_tup (pa_cons (pv 4) (pa_cons (pv 7) pa_nil))) pa_nil))), fun N H0 H1 D js vb vt b t y j d hl hN => ?_⟩
    obtain ⟨acc0, e0, _⟩ := id j.lst
    refine ⟨_, rfl, .inl ⟨rfl, _, SqL.of e0⟩, _, rfl, _, rfl, (by show 2 ≤ sizeLine; decide), fun q nq => ?_⟩
    obtain ⟨acc, e, l, j2⟩ := j.push d nq
    exact ⟨D, acc, .ref q, rfl, rfl, e, (by rw [l]; exact small1000 (by omega)), hN _ j2⟩
  obtain ⟨tL, pL, rL⟩ := last
  have test : ∀ (H1 : Hp) (x : Str) (A B : Prop), Dp K H1 vk k.dat → PyData.strOk x = true → (if PyData.eqv k.dat (.str x) = true then A else B) → ∃ d e, Dp K H1 vk d ∧ Dp K H1 (.str x) e ∧ SeqAt.shaped d = true ∧ SeqAt.shaped e = true ∧ ∃ c, V.bl (PyData.eqv d e) = .bl c ∧ if c = true then A else B :=
    fun H1 x A B hk hx h => ⟨_, _, hk, .str x, sk, shaped_str x hx, _, rfl, h⟩
  -- a set: now and then both together
  have mid2 : ∃ tb, PSs X ((forBody ((defBody (topS 42)).getD 2 (.Pass ⟨0, 0, 0, 0⟩))).drop 3) tb ∧ ∀ (N : Ends) (H0 H1 : Hp) (D : Addr) (js : List Jn) (vb vt : V) (b t : HV) (y : Option V), JInv K φ H0 D js vb b H1 → Dp K H0 vk k.dat → Dp K H1 vt t.dat → Fits k b → b.len ≤ 42 → Fits k t → t.len ≤ 42 → js.length ≤ 2 →
      (∀ H2 vt2 t2, JInv K φ H0 D (js ++ [⟨b, t2⟩]) vb b H2 → Fits k t2 → t2.len ≤ 42 → N.nx [some (.ref φ.f), some vk, some (.int 2), some (.bl same), some vb, some (.ref D), y, some vt2] H2) →
      tb N [some (.ref φ.f), some vk, some (.int 2), some (.bl same), some vb, some (.ref D), y, some vt] H1 := by
    refine ⟨_, pss_cons (ps_if (PW.pt (pw_and (pt_cmpR (op_eqD hu) (pv 1) pe_str (nomark _)) (pw_and1 (pt_cmpR op_eq (pe_call GD hr (by rfl) aD.g aD.F.kp bD .nil pass0 (pa_cons (pv 0) (pa_cons pe_int pa_nil))) pe_int (nomark _)))))
      (pss_one (ps_set (i := 7) sc_jo.nd rfl (.inl rfl) (pe_callTy call_tuple_of (by rfl) T.z_tuple (by decide +kernel) (pa_cons (pe_callB (cr_sortedSet rfl) (by rfl) T.z_sorted (by decide +kernel) (pa_cons (pe_callTy (cr_setL rfl) (by rfl) T.z_set (by decide +kernel) (pa_cons (pe_op op_catA (pv 4) (pv 7)) pa_nil)) pa_nil)) pa_nil)))) pss_nil) pL, fun N H0 H1 D js vb vt b t y j hk0 d fb lb ft lt hl hN => ?_⟩
    have hk1 := j.mv.dp hk0
    cases k with
    | set =>
      refine ⟨_, rfl, test H1 "set" _ _ hk1 (by decide +kernel) (bT ((eqv_kd _ _).trans (by decide +kernel)) ?_)⟩
      refine ⟨_, rfl, φ, 2, rfl, j.mv.F1, by decide, by decide, fun H2 i m2 _ _ => ⟨rfl, _, rfl, ?_⟩⟩
      have j2 := j.go m2
      have d2 := m2.dp d
      by_cases ci : V.int i = V.int 0
      · refine dT ci ?_
        cases b with
        | int _ => exact fb.elim
        | tup bs =>
        cases t with
        | int _ => exact ft.elim
        | tup ts =>
        have lb : bs.length ≤ 42 := lb
        have lt : ts.length ≤ 42 := lt
        obtain ⟨ab, rfl, tb⟩ := dp_ht (j2.base.up cut_to)
        obtain ⟨at_, rfl, tt⟩ := dp_ht d2
        have setIt : ∀ (Q3 : VK) (H' : Hp) (r : Addr), Same H2 H' → SqT K H' r ((bs ++ ts).map V.int) → (∀ H4 p ms, Same H2 H4 → SqT K H4 p (ms.map V.int) → Rising ms → (∀ x ∈ ms, -1 ≤ x ∧ x ≤ 40) → Q3 (.ref p) H4) →
            rSetL K w [.ref r] H' (fun y3 H3 => rSortedSet w [y3] H3 (fun z H4 => ∃ p ys, [z] = [V.ref p] ∧ ((SqL K H4 p ys ∧ ∀ l, H4 l = none → Q3 (.ref l) (upd H4 l (.tup ys))) ∨ (SqT K H4 p ys ∧ Q3 (.ref p) H4)))) := fun Q3 H' r s' hr' h3 => by
          refine ⟨r, bs ++ ts, rfl, .inr hr', by rw [List.length_append]; omega, fun e c ne hks => ?_⟩
          obtain ⟨ks, nd, ek, mk⟩ := hks
          have hb : ∀ x ∈ bs ++ ts, -1 ≤ x ∧ x ≤ 40 := fun x hx => by
            rcases List.mem_append.mp hx with h | h
            · exact fb.2 x h
            · exact ft.2 x h
          have hc := few_keys nd mk hb
          refine ⟨e, _, c, rfl, upd_same, by omega, fun ms p2 asc mem len np2 => ?_⟩
          refine ⟨p2, _, rfl, .inl ⟨SqL.of upd_same, fun l nl => ?_⟩⟩
          refine h3 _ l ms (s'.trans ((same_new ne).trans ((same_new np2).trans (same_new nl)))) (SqT.of upd_same) asc fun x hx => ?_
          exact hb x (of_decide_eq_true ((mem x).mp hx))
        have fin : ∀ (H4 : Hp) (p : Addr) (ms : List Int), Same H2 H4 → SqT K H4 p (ms.map V.int) → Rising ms → (∀ x ∈ ms, -1 ≤ x ∧ x ≤ 40) → tL N [some (.ref φ.f), some vk, some (.int 2), some (.bl same), some (.ref ab), some (.ref D), y, some (.ref p)] H4 := fun H4 p ms s4 hp asc hb => by
          have fm : Fits .set (.tup ms) := ⟨asc, hb⟩
          have lm : (HV.tup ms).len ≤ 42 := rising_few asc hb
          exact rL N H0 H4 D js (.ref ab) (.ref p) (.tup bs) (.tup ms) y (j2.go (.of m2.F1 s4)) (dp_of_ht hp) hl fun H5 j5 => hN H5 (.ref p) (.tup ms) j5 fm lm
        let Q3 : VK := fun v H4 => tL N [some (.ref φ.f), some vk, some (.int 2), some (.bl same), some (.ref ab), some (.ref D), y, some v] H4
        refine ⟨_, rfl, _, rfl, ab, at_, _, _, rfl, rfl, tb, tt, (by rw [List.length_map, List.length_map]; exact Nat.le_of_lt (small1000 (by omega))), fun e => ?_, fun _ e => ?_, fun _ _ p np => ?_⟩
        · have e0 : bs = [] := List.map_eq_nil_iff.mp e
          exact setIt Q3 H2 at_ (Same.refl _) (by rw [e0]; exact tt) fin
        · have e0 : ts = [] := List.map_eq_nil_iff.mp e
          exact setIt Q3 H2 ab (Same.refl _) (by rw [e0, List.append_nil]; exact tb) fin
        · exact setIt Q3 _ p (same_new np) (by rw [List.map_append]; exact SqT.of upd_same) fin
      · refine dF ci ?_
        exact rL N H0 H2 D js vb vt b t y j2 d2 hl fun H5 j5 => hN H5 vt t j5 ft lt
    | _ =>
      refine ⟨_, rfl, test H1 "set" _ _ hk1 (by decide +kernel) (bF (by first | exact eqv_kd _ _ | exact (eqv_kd _ _).trans (by decide +kernel)) ?_)⟩
      exact rL N H0 H1 D js vb vt b t y j d hl fun H5 j5 => hN H5 vt t j5 ft lt
  obtain ⟨tM, pM, rM⟩ := mid2
  -- a list: theirs behind the base
  have mid1 : ∃ tb, PSs X ((forBody ((defBody (topS 42)).getD 2 (.Pass ⟨0, 0, 0, 0⟩))).drop 2) tb ∧ ∀ (N : Ends) (H0 H1 : Hp) (D : Addr) (js : List Jn) (vb vt : V) (b t : HV) (y : Option V), JInv K φ H0 D js vb b H1 → Dp K H0 vk k.dat → Dp K H1 vt t.dat → Fits k b → b.len ≤ 42 → Fits k t → t.len ≤ 42 → js.length ≤ 2 →
      (∀ H2 vt2 t2, JInv K φ H0 D (js ++ [⟨b, t2⟩]) vb b H2 → Fits k t2 → t2.len ≤ 42 → N.nx [some (.ref φ.f), some vk, some (.int 2), some (.bl same), some vb, some (.ref D), y, some vt2] H2) →
      tb N [some (.ref φ.f), some vk, some (.int 2), some (.bl same), some vb, some (.ref D), y, some vt] H1 := by
    refine ⟨_, pss_cons (ps_if (pt_cmpR (op_eqD hu) (pv 1) pe_str (nomark _)) (pss_one (ps_set (i := 7) sc_jo.nd rfl (.inl rfl) (pe_slice sl_tupA (pe_op op_catA (pv 4) (pv 7)) po_none (po_some pe_int)))) pss_nil) pM, fun N H0 H1 D js vb vt b t y j hk0 d fb lb ft lt hl hN => ?_⟩
    have hk1 := j.mv.dp hk0
    cases k with
    | list =>
      refine ⟨_, rfl, test H1 "list" _ _ hk1 (by decide +kernel) (bT ((eqv_kd _ _).trans (by decide +kernel)) ?_)⟩
      cases b with
      | int _ => exact fb.elim
      | tup bs =>
      cases t with
      | int _ => exact ft.elim
      | tup ts =>
      have lb : bs.length ≤ 42 := lb
      have lt : ts.length ≤ 42 := lt
      obtain ⟨ab, rfl, tb⟩ := dp_ht (j.base.up cut_to)
      obtain ⟨at_, rfl, tt⟩ := dp_ht d
      have fin : ∀ (H4 : Hp) (p : Addr) (ms : List Int), Same H1 H4 → SqT K H4 p (ms.map V.int) → ms.length ≤ 40 → tM N [some (.ref φ.f), some vk, some (.int 2), some (.bl same), some (.ref ab), some (.ref D), y, some (.ref p)] H4 := fun H4 p ms s4 hp lm =>
        rM N H0 H4 D js (.ref ab) (.ref p) (.tup bs) (.tup ms) y (j.go (.of j.mv.F1 s4)) hk0 (dp_of_ht hp) fb lb trivial (by show ms.length ≤ 42; omega) hl hN
      have ec : cutV ((bs ++ ts).map V.int) none (some 40) = ((bs ++ ts).take (min 40 (bs ++ ts).length)).map V.int := by
        unfold cutV
        rw [HT.sIx_none, show (some (40 : Int)) = some ((40 : Nat) : Int) from rfl, HT.sIx_nat, List.drop_zero, Nat.sub_zero, List.length_map, List.map_take]
      have slice : ∀ (H' : Hp) (r : Addr), Same H1 H' → SqT K H' r ((bs ++ ts).map V.int) → rSlA K (.ref r) none (some 40) H' (fun v H4 => tM N [some (.ref φ.f), some vk, some (.int 2), some (.bl same), some (.ref ab), some (.ref D), y, some v] H4) := fun H' r s' hr' => by
        refine ⟨r, _, rfl, hr', fun e => ?_, fun _ p np => ?_⟩
        · have e2 := e.2
          rw [show (some (40 : Int)) = some ((40 : Nat) : Int) from rfl, HT.sIx_nat, List.length_map] at e2
          exact fin H' r (bs ++ ts) s' hr' (by omega)
        · rw [ec]
          exact fin _ p _ (s'.trans (same_new np)) (SqT.of upd_same) (by rw [List.length_take]; omega)
      have look : ∀ (H' : Hp) (r : Addr), Same H1 H' → SqT K H' r ((bs ++ ts).map V.int) → ∃ vl : V, vl = .int 40 ∧ rSlA K (.ref r) none (some 40) H' (fun v H4 => tM N [some (.ref φ.f), some vk, some (.int 2), some (.bl same), some (.ref ab), some (.ref D), y, some v] H4) := fun H' r s' hr' => ⟨_, rfl, slice H' r s' hr'⟩
      refine ⟨_, rfl, _, rfl, ab, at_, _, _, rfl, rfl, tb, tt, (by rw [List.length_map, List.length_map]; exact Nat.le_of_lt (small1000 (by omega))), fun e => ?_, fun _ e => ?_, fun _ _ p np => ?_⟩
      · have e0 : bs = [] := List.map_eq_nil_iff.mp e
        exact ⟨_, rfl, slice H1 at_ (Same.refl _) (by rw [e0]; exact tt)⟩
      · have e0 : ts = [] := List.map_eq_nil_iff.mp e
        exact ⟨_, rfl, slice H1 ab (Same.refl _) (by rw [e0, List.append_nil]; exact tb)⟩
      · exact ⟨_, rfl, slice _ p (same_new np) (by rw [List.map_append]; exact SqT.of upd_same)⟩
    | _ =>
      refine ⟨_, rfl, test H1 "list" _ _ hk1 (by decide +kernel) (bF (by first | exact eqv_kd _ _ | exact (eqv_kd _ _).trans (by decide +kernel)) ?_)⟩
      exact rM N H0 H1 D js vb vt b t y j hk0 d fb lb ft lt hl hN
  obtain ⟨tN, pN, rN⟩ := mid1
  refine ⟨_, pss_cons (ps_set (i := 4) sc_jo.nd rfl (.inl rfl) (pe_call GH hr (by rfl) aH.g aH.F.kp bH .nil pass0 (pa_cons (pv 0) (pa_cons (pv 1) pa_nil))))
    (pss_cons (ps_set (i := 5) sc_jo.nd rfl (.inl rfl) (pe_lst pa_nil))
    (pss_cons (ps_for PassesOwn.never rfl (pi_range1 (by rfl) T.z_range (pa_cons (pv 2) pa_nil)) (pg_name (i := 6) sc_jo.nd rfl (.inl rfl))
      (pss_cons (ps_set (i := 4) sc_jo.nd rfl (.inl rfl) (pe_ifExp (pt_val (pv 3)) (pv 4) (pe_call GH hr (by rfl) aH.g aH.F.kp bH .nil pass0 (pa_cons (pv 0) (pa_cons (pv 1) pa_nil)))))
      (pss_cons (ps_set (i := 7) sc_jo.nd rfl (.inl rfl) (pe_call GH hr (by rfl) aH.g aH.F.kp bH .nil pass0 (pa_cons (pv 0) (pa_cons (pv 1) pa_nil)))) pN)))
    (pss_one (ps_ret (pe_callTy call_tuple_of (by rfl) T.z_tuple (by decide +kernel) (pa_cons (pv 5) pa_nil)))))), ?_⟩
  refine ⟨_, rfl, _, rfl, φ, vk, k, rfl, hF, hk, kd, fun H1 v1 h1 m1 d1 f1 l1 => ?_⟩
  refine ⟨Nat.zero_le _, fun D nD => ?_⟩
  have hk1 := m1.dp hk
  have sD : Same H1 (cut D (upd H1 D (.lst []))) := to_cut nD (same_new nD)
  have j0 : JInv K φ H1 D [] v1 h1 (upd H1 D (.lst [])) := ⟨nD, m1.F1.up sD, (Mv.refl m1.F1).new nD, ⟨[], upd_same, .nil⟩, d1.up sD⟩
  refine ⟨_, rfl, 2, rfl, by decide, by decide, ?_⟩
  refine for_range (lo := 0) (n := 2) (fun i σ H' => ∃ (vb : V) (b : HV) (y6 y7 : Option V) (js : List Jn), σ = [some (.ref φ.f), some vk, some (.int 2), some (.bl same), some vb, some (.ref D), y6, y7] ∧ JInv K φ H1 D js vb b H' ∧ Fits k b ∧ b.len ≤ 42 ∧ js.length = i ∧
    (∀ j ∈ js, j.Ok k) ∧ (same = true → ∀ j ∈ js, j.base = b)) ⟨v1, h1, none, none, [], rfl, j0, f1, l1, rfl, (fun j h => nomatch h), (fun _ j h => nomatch h)⟩ (fun i σ H2 hi hP => ?_) (fun σ H2 hP => ?_)
  · obtain ⟨vb, b, y6, y7, js, rfl, j, fb, lb, hl, ok, sb⟩ := hP
    -- the last of a turn, from base and theirs
    have turn : ∀ (H4 : Hp) (vb vt : V) (b t : HV), JInv K φ H1 D js vb b H4 → Dp K H4 vt t.dat → Fits k b → b.len ≤ 42 → Fits k t → t.len ≤ 42 → (same = true → ∀ j ∈ js, j.base = b) →
        ∀ N : Ends, N.nx = (fun σ H' => ∃ (vb : V) (b : HV) (y6 y7 : Option V) (js : List Jn), σ = [some (.ref φ.f), some vk, some (.int 2), some (.bl same), some vb, some (.ref D), y6, y7] ∧ JInv K φ H1 D js vb b H' ∧ Fits k b ∧ b.len ≤ 42 ∧ js.length = i + 1 ∧
    (∀ j ∈ js, j.Ok k) ∧ (same = true → ∀ j ∈ js, j.base = b)) → tN N [some (.ref φ.f), some vk, some (.int 2), some (.bl same), some vb, some (.ref D), some (.int (0 + (i : Int))), some vt] H4 := fun H4 vb vt b t j4 dt fb lb ft lt sb N eN => by
      refine rN N H1 H4 D js vb vt b t _ j4 hk1 dt fb lb ft lt (by omega) fun H5 vt2 t2 j5 ft2 lt2 => ?_
      rw [eN]
      refine ⟨vb, b, _, _, _, rfl, j5, fb, lb, by rw [List.length_append, hl]; rfl, fun j hj => ?_, fun hs j hj => ?_⟩
      · rcases List.mem_append.mp hj with h | h
        · exact ok j h
        · rw [List.mem_singleton.mp h]
          exact ⟨⟨fb, ft2⟩, lb, lt2⟩
      · rcases List.mem_append.mp hj with h | h
        · exact sb hs j h
        · rw [List.mem_singleton.mp h]
    refine ⟨_, rfl, same, rfl, ?_⟩
    by_cases hs : same = true
    · refine bT hs ?_
      refine ⟨_, rfl, _, rfl, _, rfl, φ, vk, k, rfl, j.mv.F1, j.mv.dp hk1, kd, fun H3 vt t m3 dt ft lt => ?_⟩
      exact turn H3 vb vt b t (j.go m3) dt fb lb ft lt sb _ rfl
    · refine bF (by simpa using hs) ?_
      refine ⟨_, rfl, _, rfl, φ, vk, k, rfl, j.mv.F1, j.mv.dp hk1, kd, fun H3 vc c m3 dc fc lc => ?_⟩
      have j3 := (j.go m3).rebase dc
      refine ⟨_, rfl, _, rfl, φ, vk, k, rfl, j3.mv.F1, j3.mv.dp hk1, kd, fun H4 vt t m4 dt ft lt => ?_⟩
      exact turn H4 vc vt c t (j3.go m4) dt fc lc ft lt (fun z => absurd z hs) _ rfl
  · obtain ⟨vb, b, y6, y7, js, rfl, j, fb, lb, hl, ok, sb⟩ := hP
    match js, hl, j, ok, sb with
    | [p, r], _, j, ok, sb =>
      obtain ⟨acc, e, hd⟩ := id j.lst
      refine ⟨_, rfl, D, acc, rfl, .inl ⟨SqL.of e, fun t nt => ?_⟩⟩
      refine q _ _ p r ((m1.trans j.mv).new nt) (dp_new nt (hd.up cut_to)) (ok p List.mem_cons_self) (ok r (List.mem_cons_of_mem _ List.mem_cons_self)) fun hs => ?_
      rw [sb hs p List.mem_cons_self, sb hs r (List.mem_cons_of_mem _ List.mem_cons_self)]
end
end FJ

/-! FJw: _law_let. -/
namespace FJ
open PySem PySem.Spec PyProof.Rows L2
/-- f(e, .., k = v, ..) where what is raised is wished for at the caller's slots -/
def tCallNS (n m : Nat) (sp : Sp) (gV : List V → List V → List V) (E : L2.St → XK) (t tk : TA) : TE := fun σ H Q => t σ H fun vs H1 => tk σ H1 fun zs H2 => vs.length = n ∧ zs.length = m ∧ sp (gV vs zs) H2 Q (E σ)
theorem pe_callNS {X : Cx} {CX : CXT} {k n : Nat} {f : Addr} {fd : FuncData} {ps ks : List Str} {sp : Sp} {E : L2.St → XK} {x : Str} {p pos : Pos} {e : Expr} {es : List Expr} {kws : List Keyword} {t tk : TA} {g : List Value → List Value → List Value} {gV : List V → List V → List V}
    (F : FnOk X.prog X.w X.K X.mg X.base CX k f fd ps sp) (hr : Room k X.A) (hg : Gl X x) (hm : X.mg x = some (.ref f)) (hk : PySem.W.keepIn X.K (.ref f) = true) (hb : KBn X.K fd ps n ks g gV) (hx : ∀ σ, PassesAt CX X σ (E σ)) (ha : PA X (e :: es) t) (hkw : PK X kws tk)
    (hall : (backToKw pos (keywordEach kws X.env)).all (·.1.isSome) = true := by rfl) (hks : (backToKw pos (keywordEach kws X.env)).filterMap (·.1) = ks := by rfl) (hdb : (x == ("__debug__" : Str)) = false := by decide)
    (he : starEach (e :: es) X.env = (false, eval e X.env) :: starEach es X.env := by rfl) (hpl : ((backTo pos (starEach (e :: es) X.env)).any (·.1) || (backToKw pos (keywordEach kws X.env)).any (·.1.isNone)) = false := by rfl) :
    PE X (.Call (.Name x p) (e :: es) kws pos) (tCallNS n ks.length sp gV E t tk) := by
  refine ⟨fun pins s σ H Q I h => wpAny_Call_Name_kw (ld_glob I hg hm ?_ hdb)⟩
  refine PySem.W.callWith_KW (h₀ := X.base) I.ok.mod.kin hk hall (thn (ha.run pos pins s σ H _ I h) fun us s1 ⟨vs, H1, I1, r, q⟩ => thn (hkw.run pos pins s1 σ H1 _ I1 q) fun ws s2 ⟨zs, H2, I2, rz, l1, l2, q2⟩ => ⟨I2.kIn, ?_⟩) hpl he
  rw [hks]
  refine wpAny_call (codeAny_mono (F.run X.A X.stack s2 H2 ⟨us, ks.zip ws⟩ (g us ws) (gV vs zs) Q (E σ) hr I2.env0 (hb.to s2 us ws I2.kIn (r.length.symm.trans l1) (rz.length.symm.trans l2)) (hb.rel r rz) q2) fun r s' hq => ?_)
  cases r with
  | error e => exact hx σ pins H2 s2 e s' I2 hq
  | ok fl =>
    cases fl with
    | ret u => exact I2.after hq
    | _ => exact False.elim hq
def letW : Option Wd → Str
  | none => "no"
  | some w => w.word
section
variable {P : Program} {w : World} {K : PySem.W.Frag} {mg : Str → Option Value} {base : Heap} {C CP fI : Addr}
abbrev nLe : List Str := ["_law_kind_here", "_law_thing", "_law_same", "_law_found"]
def spLe (K : PySem.W.Frag) : Sp := fun vs H Q _ => ∃ (vk vt : V) (k : Kd) (t : Th) (same : Bool), vs = [vk, vt, .bl same] ∧ Dp K H vk k.dat ∧ Dp K H vt t.dat ∧ k.depth ≤ 6 ∧ t.Fits k ∧ t.Few ∧ ∀ H', Same H H' → Q (.str (letW (lets k same t))) H'
theorem sc_le : FnScope nLe ["_law_kind_here", "_law_thing", "_law_same"] (defScope (topS 43)) := ⟨rfl, rfl, rfl, by decide +kernel, rfl, by decide +kernel, by decide +kernel⟩
theorem ok_le (T : Txt K mg) (N : NoP K mg C CP fI) : OkD P w K mg base CX0 13 "_law_let" (topS 43) [] ["_law_kind_here", "_law_thing", "_law_same"] (spLe K) := by
  obtain ⟨fL, dL, aL, GL⟩ := ok_lo (P := P) (w := w) (base := base) T N
  have bL : KBn K dL ["kind", "thing", "same_base"] 2 ["same_base"] (· ++ ·) (· ++ ·) := kb_all aL.F fun _ _ _ _ _ _ us ws h1 h2 => match us, ws, h1, h2 with | [_, _], [_], _, _ => rfl
  refine okD T.law_let sc_le (fun vs H Q E h => ?_) fun f cdv A outer s H vs Q E hr h => ?_
  · obtain ⟨vk, vt, k, t, same, rfl, _⟩ := h
    rfl
  obtain ⟨vk, vt, k, t, same, rfl, hk, ht, kd, ft, fw, q⟩ := h
  refine ⟨_, pss_cons (ps_set (i := 3) sc_le.nd rfl (.inl rfl) pe_non)
    (pss_cons (ps_try_only (c := .ref C) (Wout := fun _ _ _ _ => False) rfl rfl ⟨by rfl, by decide, .inl N.g⟩ (fun u s' ⟨_, _, _, _, _, _, _, _, _, _, _, _, _, _, _, _, z⟩ => z.elim)
      (fun W pn xe tk po => pss_one (ps_set (i := 3) sc_le.nd rfl (.inl rfl) (pe_callNS GL hr (by rfl) aL.g aL.F.kp bL (fun σ => passAt tk σ) (pa_cons (pv 0) (pa_cons (pv 1) pa_nil)) (pk_cons (pv 2) pk_nil))))
      (fun a oe cls d pn hz hd => pss_one (ps_set (i := 3) sc_le.nd rfl (.inl rfl) pe_str)))
    (pss_one (ps_ret (pv 3)))), ?_⟩
  refine ⟨_, rfl, _, rfl, _, rfl, rfl, rfl, vk, vt, k, t, same, rfl, hk, ht, kd, ft, fw, fun wd e H1 s1 => ?_, fun e d H1 s1 => ⟨true, N.exm, fun _ a na => ?_, fun z => by cases z⟩⟩
  · refine ⟨_, rfl, ?_⟩
    rw [e] at q
    exact q H1 s1
  · refine ⟨_, rfl, ?_⟩
    rw [e] at q
    exact q H1 s1
end
end FJ

/-! FJx: _law_papers. -/
namespace FJ
open PySem PySem.Spec PyProof.Rows L2
section
variable {P : Program} {w : World} {K : PySem.W.Frag} {mg : Str → Option Value} {base : Heap}
abbrev nPa : List Str := ["_law_feed_here", "_law_kind_here", "_law_own", "_law_some", "_law_numbers", "_law_drawn", "_law_found", "_law_k"]
def Th.Ok (k : Kd) (t : Th) : Prop := t.Fits k ∧ t.Few
def spPa (K : PySem.W.Frag) : Sp := fun vs H Q _ => ∃ (φ : Fe) (vk vo vj : V) (k : Kd) (m : HV) (p r : Jn), vs = [.ref φ.f, vk, vo, vj] ∧ Feed K φ H ∧ Dp K H vk k.dat ∧ Dp K H vo m.dat ∧ Dp K H vj (.tuple [p.dat, r.dat]) ∧ k.depth ≤ 6 ∧
  Fits k m ∧ m.len ≤ 42 ∧ p.Ok k ∧ r.Ok k ∧ ∀ H' a xs (ts : List Th), Mv K φ H H' → H' a = some (.lst xs) → DpAll K H' xs (ts.map Th.dat) → ts.length = 6 → (∀ t ∈ ts, Th.Ok k t) → Q (.ref a) H'
theorem sc_pa : FnScope nPa ["_law_feed_here", "_law_kind_here", "_law_own", "_law_some"] (defScope (topS 44)) := ⟨rfl, rfl, rfl, by decide +kernel, rfl, by decide +kernel, by decide +kernel⟩
theorem ok_pa (T : Txt K mg) : OkD P w K mg base CX0 8 "_law_papers" (topS 44) [] ["_law_feed_here", "_law_kind_here", "_law_own", "_law_some"] (spPa K) := by
  obtain ⟨fD, dD, aD, GD⟩ := (ok_dr (P := P) (w := w) (base := base) T).mono (k := 7) (by omega)
  have bD : Binds K dD ["_law_feed_here", "_law_many"] [] := aD.F.bindsN fun _ _ _ _ _ _ us hl => match us, hl with | [_, _], _ => rfl
  obtain ⟨fN, dN, aN, GN⟩ := (ok_num (P := P) (w := w) (base := base) T 6).mono (k := 7) (by decide)
  have bN : Binds K dN ["amount"] [] := aN.F.bindsN fun _ _ _ _ _ _ us hl => match us, hl with | [_], _ => rfl
  refine okD T.law_papers sc_pa (fun vs H Q E h => ?_) fun f cdv A outer s H vs Q E hr h => ?_
  · obtain ⟨φ, vk, vo, vj, k, m, p, r, rfl, _⟩ := h
    rfl
  obtain ⟨φ, vk, vo, vj, k, m, p1, r1, rfl, hF, hk, ho, hj, kd, fm, lm, okp, okr, q⟩ := h
  let X : Cx := (cxOf CX0 P w K mg base nPa "_law_papers" (defScope (topS 44)) f cdv A outer s H E).nox
  have tail : ∃ tb, PSs X ((defBody (topS 44)).drop 1) tb ∧ ∀ (H1 : Hp) (vn : V) (o : Option N4), Mv K φ H H1 → Dp K H1 vn (optN o) → tb { nx := fun _ H' => Q .non H', rt := Q } [some (.ref φ.f), some vk, some vo, some vj, some vn, none, none, none] H1 := by
    refine ⟨_, pss_cons (ps_set (i := 5) sc_pa.nd rfl (.inl rfl) (pe_callTy call_tuple_of (by rfl) T.z_tuple (by decide +kernel) (pa_cons (pe_l1 (own := [("_law_k", 7)]) rfl sc_pa.nd (pi_range1 (by rfl) T.z_range (pa_cons pe_int pa_nil)) (blkOk_by (N := nPa) (sc := defScope (topS 44)) (by decide +kernel))
        (fun _ _ _ _ _ => pg_name (i := 7) sc_pa.nd rfl (Or.inl rfl)) (fun _ _ _ _ _ => pts_nil) (fun _ _ _ _ _ => pe_op op_sub (pe_call (X := _) GD hr (by rfl) aD.g aD.F.kp bD .nil pass0 (pa_cons (pv 0) (pa_cons pe_int pa_nil))) pe_int)) pa_nil)))
      (pss_cons (ps_set (i := 6) sc_pa.nd rfl (.inl rfl) (pe_lst (pa_cons (pe_tup (pa_cons pe_str (pa_cons pe_non pa_nil))) (pa_cons (pe_tup (pa_cons pe_str (pa_cons (pv 5) pa_nil))) (pa_cons (pe_tup (pa_cons pe_str (pa_cons (pe_tup (pa_cons (pv 2) (pa_cons (pe_ix ix_tup (pv 3) pe_int (fun _ _ => rfl)) (pa_cons (pe_ix ix_tup (pv 3) pe_int (fun _ _ => rfl)) pa_nil)))) pa_nil)))
        (pa_cons (pe_tup (pa_cons pe_str (pa_cons (pe_call GD hr (by rfl) aD.g aD.F.kp bD .nil pass0 (pa_cons (pv 0) (pa_cons pe_int pa_nil))) pa_nil))) pa_nil))))))
      (pss_cons (ps_expr (pe_bm PySem.F.plainAttrs_list PySem.F.slot_list_append PySem.F.type_list_append mt_append (pv 6) (pa_cons (pe_tup (pa_cons pe_str (pa_cons (pe_tup (pa_cons (pv 2) (pa_cons (pe_ix ix_tup (pv 3) pe_int (fun _ _ => rfl)) (pa_cons (pe_ix ix_tup (pv 3) pe_int (fun _ _ => rfl)) pa_nil)))) pa_nil))) pa_nil)))
      (pss_one (ps_ret (pe_op op_cat (pv 6) (pe_lst (pa_cons (pe_tup (pa_cons pe_str (pa_cons (pe_ifExp (pt_cmpR op_isN (pv 4) pe_non (nomark _)) (pe_tup (pa_cons pe_int (pa_cons pe_int (pa_cons pe_int (pa_cons pe_int pa_nil))))) (pv 4)) pa_nil))) pa_nil))))))), fun H1 vn o m1 hn => ?_⟩
    refine ⟨4, rfl, by decide, by decide, fun D nD => ?_⟩
    refine wk_y 4 (fun i H' => ∃ acc : List Int, MInv K φ H1 D (acc.map V.int) H' ∧ acc.length = i) ⟨[], MInv.init m1.F1 nD, rfl⟩ (fun i H' hi _ => hi) (fun H' hP => ⟨Nat.le_refl _, ?_⟩) (fun i H' u H5 hi hP hy => ?_)
    rotate_left
    · obtain ⟨acc, hM, hl⟩ := hP
      obtain ⟨rfl, rfl⟩ := hy
      refine ⟨rfl, _, rfl, φ, 3, rfl, hM.mv.F1, by decide, by decide, fun H6 d m6 d0 d1 => ⟨d, 1, rfl, rfl, ?_⟩⟩
      obtain ⟨hD, hM2⟩ := hM.push (y := .int (d - 1)) m6
      refine ⟨_, hD, (by rw [List.length_map]; exact small1000 (by omega)), acc ++ [d - 1], ?_, by rw [List.length_append, hl]; rfl⟩
      rw [List.map_append]
      exact hM2
    · obtain ⟨acc, hM, hl⟩ := hP
      match acc, hl, hM with
      | [x1, x2, x3, x4], _, hM =>
      refine ⟨D, _, rfl, .inl ⟨SqL.of hM.lst, fun t0 n0 => ?_⟩⟩
      have mc := (m1.trans hM.mv).new (o := .tup ([x1, x2, x3, x4].map V.int)) n0
      have hn := (hM.mv.new (o := .tup ([x1, x2, x3, x4].map V.int)) n0).dp hn
      let dn : N4 := (x1, x2, x3, x4)
      have hd : Dp K (upd H' t0 (.tup ([x1, x2, x3, x4].map V.int))) (.ref t0) dn.dat := dp_of_ht (ns := [x1, x2, x3, x4]) (SqT.of upd_same)
      generalize upd H' t0 (.tup ([x1, x2, x3, x4].map V.int)) = Hc at mc hn hd
      have ho := mc.dp ho
      have hj := mc.dp hj
      obtain ⟨a, js, rfl, ta, hx⟩ := dp_tup hj
      obtain ⟨u1, u2, rfl, d1, d2⟩ := dpa_2 hx
      refine ⟨(by show 2 ≤ sizeLine; decide), fun t1 n1 => ⟨_, rfl, (by show 2 ≤ sizeLine; decide), fun t2 n2 => ⟨_, rfl, ?_⟩⟩⟩
      have s1 := same_new (o := .tup [.str "alike", .non]) n1
      have s2 := s1.trans (same_new (o := .tup [.str "alike", .ref t0]) n2)
      have e1 : Dp K _ (.ref t1) Th.alikeN.dat := (dp_new (vs := [.str "alike", .non]) n1 (.cons (.str _) (.cons .non .nil))).up (same_new (o := .tup [.str "alike", .ref t0]) n2)
      have e2 : Dp K _ (.ref t2) (Th.alike dn).dat := dp_new (vs := [.str "alike", .ref t0]) n2 (.cons (.str _) (.cons (hd.up s1) .nil))
      generalize upd (upd Hc t1 _) t2 _ = H2 at s2 e1 e2
      refine ⟨_, rfl, a, _, 0, u1, rfl, rfl, s2.tupT ta, rfl, _, rfl, a, _, 1, u2, rfl, rfl, s2.tupT ta, rfl, (by show 3 ≤ sizeLine; decide), fun t3 n3 => ⟨(by show 2 ≤ sizeLine; decide), fun t4 n4 => ?_⟩⟩
      have s3 := same_new (o := .tup [vo, u1, u2]) n3
      have e3 : Dp K _ (.ref t3) (.tuple [m.dat, p1.dat, r1.dat]) := dp_new n3 (.cons (ho.up s2) (.cons (d1.up s2) (.cons (d2.up s2) .nil)))
      have s4 := same_new (o := .tup [.str "parted", .ref t3]) n4
      have e4 : Dp K _ (.ref t4) (Th.parted m p1 r1).dat := dp_new (vs := [.str "parted", .ref t3]) n4 (.cons (.str _) (.cons e3 .nil))
      have s34 := s3.trans s4
      have e1 := e1.up s34
      have e2 := e2.up s34
      have m4 := mc.same (s2.trans s34)
      have hcm := (Mv.of mc.F1 (s2.trans s34))
      generalize upd (upd H2 t3 _) t4 _ = H4 at s34 e1 e2 e4 m4 hcm
      refine ⟨_, rfl, φ, 2, rfl, m4.F1, by decide, by decide, fun H5 i m5 i0 i1 => ⟨(by show 2 ≤ sizeLine; decide), fun t6 n6 => ⟨(by show 4 ≤ sizeLine; decide), fun L nL => ?_⟩⟩⟩
      have ei : (i : Int) = ((i.toNat : Nat) : Int) := (Int.toNat_of_nonneg i0).symm
      have s6 := same_new (o := .tup [.str "within", .int i]) n6
      have e6 : Dp K (upd H5 t6 (.tup [.str "within", .int i])) (.ref t6) (Th.within i.toNat).dat := by
        have z := dp_new (K := K) (vs := [.str "within", .int i]) (ds := [.str "within", .int i]) n6 (.cons (.str _) (.cons (.int i) .nil))
        show Dp K _ _ (.tuple [.str "within", .int ((i.toNat : Nat) : Int)])
        rw [← ei]
        exact z
      have mb := m5.same s6
      have e1 := mb.dp e1
      have e2 := mb.dp e2
      have e4 := mb.dp e4
      have hb := hcm.trans mb
      have ho := hb.dp ho
      have hn := hb.dp hn
      have d1 := hb.dp d1
      have d2 := hb.dp d2
      have ta := hb.tup ta
      have mB := m4.trans mb
      generalize upd H5 t6 _ = HB at e1 e2 e4 e6 ho hn d1 d2 ta mB nL
      have sL := same_new (o := .lst [.ref t1, .ref t2, .ref t4, .ref t6]) nL
      have sc := to_cut (D := L) nL sL
      have I : LInv K HB L ([Th.alikeN, .alike dn, .parted m p1 r1, .within i.toNat].map Th.dat) (upd HB L (.lst [.ref t1, .ref t2, .ref t4, .ref t6])) := ⟨nL, sL, _, upd_same, .cons (e1.up sc) (.cons (e2.up sc) (.cons (e4.up sc) (.cons (e6.up sc) .nil)))⟩
      have eL0 : (upd HB L (.lst [.ref t1, .ref t2, .ref t4, .ref t6])) L = some (.lst [.ref t1, .ref t2, .ref t4, .ref t6]) := upd_same
      have nf : φ.f ≠ L := mB.F1.ne nL
      refine ⟨_, rfl, .inl ⟨rfl, _, SqL.of eL0⟩, _, rfl, _, rfl, a, _, 1, u2, rfl, rfl, sL.tupT ta, rfl, _, rfl, a, _, 0, u1, rfl, rfl, sL.tupT ta, rfl, (by show 3 ≤ sizeLine; decide), fun t7 n7 => ⟨(by show 2 ≤ sizeLine; decide), fun t8 n8 => ?_⟩⟩
      have s78 := (same_new (o := .tup [vo, u2, u1]) n7).trans (same_new (o := .tup [.str "parted", .ref t7]) n8)
      have q7 : SqT K (upd (upd (upd HB L (.lst [.ref t1, .ref t2, .ref t4, .ref t6])) t7 (.tup [vo, u2, u1])) t8 (.tup [.str "parted", .ref t7])) t7 [vo, u2, u1] := SqT.of (same_new n8 _ _ upd_same)
      have q8 : SqT K (upd (upd (upd HB L (.lst [.ref t1, .ref t2, .ref t4, .ref t6])) t7 (.tup [vo, u2, u1])) t8 (.tup [.str "parted", .ref t7])) t8 [.str "parted", .ref t7] := SqT.of upd_same
      have eL8 := s78 _ _ eL0
      have sc8 := to_cut (D := L) nL (sL.trans s78)
      have d8 : Dp K (FJ.cut L (upd (upd (upd HB L (.lst [.ref t1, .ref t2, .ref t4, .ref t6])) t7 (.tup [vo, u2, u1])) t8 (.tup [.str "parted", .ref t7]))) (.ref t8) (Th.parted m r1 p1).dat :=
        .tup (sqT_cutL eL8 q8) (.cons (.str _) (.cons (.tup (sqT_cutL eL8 q7) (.cons (ho.up sc8) (.cons (d2.up sc8) (.cons (d1.up sc8) .nil)))) .nil))
      obtain ⟨acc, eA, lA, I2⟩ := I.push s78 d8
      refine ⟨L, acc, .ref t8, rfl, rfl, eA, (by rw [lA]; exact small1000 (by show 4 ≤ 1000; decide)), ?_⟩
      have m8 : Mv K φ H (upd (upd (upd (upd HB L (.lst [.ref t1, .ref t2, .ref t4, .ref t6])) t7 (.tup [vo, u2, u1])) t8 (.tup [.str "parted", .ref t7])) L (.lst (acc ++ [.ref t8]))) := mB.trans (((Mv.refl mB.F1).same (sL.trans s78)).put nL)
      have hn := hn.up I2.same
      obtain ⟨ys, eL, dY⟩ := I2.at
      have lx : ys.length = 5 := by rw [dpa_len dY]; rfl
      have hT : ∀ (t : Th) (nz : N4), t ∈ ([.alikeN, .alike dn, .parted m p1 r1, .within i.toNat, .parted m r1 p1] : List Th) ++ [.alike nz] → Th.Ok k t := fun t nz ht => by
        have fp : p1.Few := ⟨by have := okp.2.1; omega, by have := okp.2.2; omega⟩
        have fr : r1.Few := ⟨by have := okr.2.1; omega, by have := okr.2.2; omega⟩
        have c : t = .alikeN ∨ t = .alike dn ∨ t = .parted m p1 r1 ∨ t = .within i.toNat ∨ t = .parted m r1 p1 ∨ t = .alike nz := by simpa using ht
        rcases c with rfl | rfl | rfl | rfl | rfl | rfl
        · exact ⟨trivial, trivial⟩
        · exact ⟨trivial, trivial⟩
        · exact ⟨⟨fm, okp.1, okr.1⟩, by omega, fp, fr⟩
        · exact ⟨trivial, by show i.toNat ≤ 2; omega⟩
        · exact ⟨⟨fm, okr.1, okp.1⟩, by omega, fr, fp⟩
        · exact ⟨trivial, trivial⟩
      generalize upd (upd (upd (upd HB L _) t7 _) t8 _) L _ = H8 at m8 hn eL dY
      refine ⟨_, rfl, ?_⟩
      cases o with
      | none =>
        have e := dp_non hn
        subst e
        refine ⟨_, rfl, rfl, _, rfl, dT rfl ⟨(by show 4 ≤ sizeLine; decide), fun t9 n9 => ?_⟩⟩
        let nz : N4 := (0, 1, 0, 0)
        have sZ := same_new (o := .tup [.int 0, .int 1, .int 0, .int 0]) n9
        have dz : Dp K (upd H8 t9 (.tup [.int 0, .int 1, .int 0, .int 0])) (.ref t9) nz.dat := dp_of_ht (ns := [0, 1, 0, 0]) (SqT.of upd_same)
        generalize ev : V.ref t9 = vz at dz
        refine ⟨(by show 2 ≤ sizeLine; decide), fun t10 n10 => ⟨(by show 1 ≤ sizeLine; decide), fun L2_ nL2 => ?_⟩⟩
        have sA := sZ.trans (same_new (o := .tup [.str "alike", vz]) n10)
        have dA : Dp K _ (.ref t10) (Th.alike nz).dat := dp_new n10 (.cons (.str _) (.cons dz .nil))
        have sB := sA.trans (same_new (o := .lst [.ref t10]) nL2)
        have dB := dA.up (same_new (o := .lst [.ref t10]) nL2)
        refine ⟨L, L2_, _, _, rfl, rfl, sB _ _ eL, upd_same, (by rw [lx]; show 5 + 1 ≤ sizeLine; decide), fun p np => ?_⟩
        have sC := same_new (o := .lst (ys ++ [.ref t10])) np
        exact q _ p _ (([.alikeN, .alike dn, .parted m p1 r1, .within i.toNat, .parted m r1 p1] : List Th) ++ [.alike nz]) ((m8.same sB).same sC) upd_same (by rw [List.map_append]; exact dpa_app ((dY.up sB).up sC) (.cons (dB.up sC) .nil)) rfl fun t ht => hT t nz ht
      | some nz =>
        obtain ⟨an, e, tn⟩ := dp_ht (ns := [nz.1, nz.2.1, nz.2.2.1, nz.2.2.2]) hn
        have dz : Dp K H8 vn nz.dat := hn
        have sZ := Same.refl H8
        have nn : vn ≠ .non := fun z => by rw [e] at z; cases z
        refine ⟨_, rfl, rfl, _, rfl, dF nn ⟨_, rfl, ?_⟩⟩
        generalize ev : vn = vz at dz
        refine ⟨(by show 2 ≤ sizeLine; decide), fun t10 n10 => ⟨(by show 1 ≤ sizeLine; decide), fun L2_ nL2 => ?_⟩⟩
        have sA := sZ.trans (same_new (o := .tup [.str "alike", vz]) n10)
        have dA : Dp K _ (.ref t10) (Th.alike nz).dat := dp_new n10 (.cons (.str _) (.cons dz .nil))
        have sB := sA.trans (same_new (o := .lst [.ref t10]) nL2)
        have dB := dA.up (same_new (o := .lst [.ref t10]) nL2)
        refine ⟨L, L2_, _, _, rfl, rfl, sB _ _ eL, upd_same, (by rw [lx]; show 5 + 1 ≤ sizeLine; decide), fun p np => ?_⟩
        have sC := same_new (o := .lst (ys ++ [.ref t10])) np
        exact q _ p _ (([.alikeN, .alike dn, .parted m p1 r1, .within i.toNat, .parted m r1 p1] : List Th) ++ [.alike nz]) ((m8.same sB).same sC) upd_same (by rw [List.map_append]; exact dpa_app ((dY.up sB).up sC) (.cons (dB.up sC) .nil)) rfl fun t ht => hT t nz ht
  obtain ⟨tT, pT, rT⟩ := tail
  refine ⟨_, pss_cons (ps_set (i := 4) sc_pa.nd rfl (.inl rfl) (pe_ifExp (pt_val (pe_isd "str" (pv 1) T.z_isinstance T.z_str)) pe_non (pe_call GN hr (by rfl) aN.g aN.F.kp bN .nil pass0 (pa_cons (pe_ix ix_tup (pv 1) pe_int (fun _ _ => rfl)) pa_nil)))) pT, ?_⟩
  by_cases hw : ∃ sm, k = .own sm
  · obtain ⟨sm, rfl⟩ := hw
    obtain ⟨b, ys, rfl, tb, hy⟩ := dp_tup (ds := [.str "own", sm.dat]) hk
    obtain ⟨z1, z2, rfl, g1, g2⟩ := dpa_2 hy
    refine ⟨_, rfl, .ref b, "str", (Kd.own sm).dat, false, rfl, hk, kit_tup_str, _, rfl, iteF ?_⟩
    exact ⟨_, rfl, b, _, 1, z2, rfl, rfl, tb, rfl, z2, sm, rfl, g2, kd, fun H2 vd s2 dd => rT H2 vd _ (.of hF s2) dd⟩
  · have word : ∃ x, k.dat = .str x := by
      cases k with
      | own s => exact absurd ⟨s, rfl⟩ hw
      | _ => exact ⟨_, rfl⟩
    obtain ⟨x, ex⟩ := word
    have hk' := hk
    rw [ex] at hk'
    have e := dp_str hk'
    subst e
    refine ⟨_, rfl, .str x, "str", .str x, true, rfl, hk', kit_str_str, _, rfl, iteT ?_⟩
    exact rT H .non none (Mv.refl hF) .non
end
end FJ

/-! FJy: _law_right. -/
namespace FJ
open PySem PySem.Spec PyProof.Rows L2
theorem flat_words : ∀ ws : List Str, (ws.map V.str).all flatV = true
  | [] => rfl
  | n :: r => by
    show (flatV (.str n) && (r.map V.str).all flatV) = true
    rw [flat_words r]
    rfl
theorem inV_words (x : Str) : ∀ ws : List Str, inV (.str x) (ws.map V.str) = decide (x ∈ ws)
  | [] => by simp [inV]
  | n :: r => by
    have ih := inV_words x r
    have e : eqV (.str n) (.str x) = decide (n = x) := Bool.beq_eq_decide_eq n x
    unfold inV at ih ⊢
    rw [List.map_cons, List.any_cons, ih, e]
    by_cases h1 : n = x <;> by_cases h2 : x ∈ r <;> simp [h1, h2, eq_comm]
    · exact fun e => h1 e.symm
section
variable {P : Program} {w : World} {K : PySem.W.Frag} {mg : Str → Option Value} {base : Heap} {C CP fI : Addr}
abbrev nRi : List Str := ["_law_kind_here", "_law_thing", "_law_same", "_law_own", "_law_some", "_law_words", "_law_let_here", "_law_first", "_law_second", "_law_uno", "_law_duo"]
def spRi (K : PySem.W.Frag) : Sp := fun vs H Q _ => ∃ (vk vt vo vj : V) (aw : Addr) (k : Kd) (t : Th) (m : HV) (p r : Jn) (same : Bool) (ws : List Str), vs = [vk, vt, .bl same, vo, vj, .ref aw] ∧ Dp K H vk k.dat ∧ Dp K H vt t.dat ∧ Dp K H vo m.dat ∧ Dp K H vj (.tuple [p.dat, r.dat]) ∧ SqL K H aw (ws.map V.str) ∧
  k.depth ≤ 6 ∧ t.Ok k ∧ Fits k m ∧ m.len ≤ 42 ∧ p.Ok k ∧ r.Ok k ∧ (same = true → p.base = r.base) ∧ (lets k same t = some .alike → ("parted" : Str) ∉ ws) ∧ (lets k same t = some .parted → ("alike" : Str) ∉ ws) ∧ ∀ H', Same H H' → Q (.bl true) H'
theorem sc_ri : FnScope nRi ["_law_kind_here", "_law_thing", "_law_same", "_law_own", "_law_some", "_law_words"] (defScope (topS 45)) := ⟨rfl, rfl, rfl, by decide +kernel, rfl, by decide +kernel, by decide +kernel⟩
theorem ok_ri (T : Txt K mg) (B : PTab K w mg) (N : NoP K mg C CP fI) : OkD P w K mg base CX0 14 "_law_right" (topS 45) [] ["_law_kind_here", "_law_thing", "_law_same", "_law_own", "_law_some", "_law_words"] (spRi K) := by
  obtain ⟨fL, dL, aL, GL⟩ := ok_le (P := P) (w := w) (base := base) T N
  have bL : Binds K dL ["_law_kind_here", "_law_thing", "_law_same"] [] := aL.F.bindsN fun _ _ _ _ _ _ us hl => match us, hl with | [_, _, _], _ => rfl
  obtain ⟨fB, dB, aB, GB⟩ := (ok_bo (P := P) (w := w) (base := base) T).mono (k := 13) (by decide)
  have bB : KBn K dB nBO 1 ["mine", "one", "other"] (· ++ ·) (· ++ ·) := kb_all aB.F fun _ _ _ _ _ _ us ws h1 h2 => match us, ws, h1, h2 with | [_], [_, _, _], _, _ => rfl
  obtain ⟨fO, dO, aO, GO⟩ := (ok_ord (P := P) (w := w) (base := base) T B).mono (k := 13) (by decide)
  have bO : KBn K dO ["kind", "same_base", "reach"] 1 ["same_base", "reach"] (· ++ ·) (· ++ ·) := kb_all aO.F fun _ _ _ _ _ _ us ws h1 h2 => match us, ws, h1, h2 with | [_], [_, _], _, _ => rfl
  refine okD T.law_right sc_ri (fun vs H Q E h => ?_) fun f cdv A outer s H vs Q E hr h => ?_
  · obtain ⟨vk, vt, vo, vj, aw, k, t, m, p, r, same, ws, rfl, _⟩ := h
    rfl
  obtain ⟨vk, vt, vo, vj, aw, k, t, m, p, r, same, ws, rfl, hk, ht, ho, hj, hw, kd, okt, fm, lm, okp, okr, hb, wA, wP, q⟩ := h
  have hu := units64 hr
  refine ⟨_, pss_cons (ps_set (i := 6) sc_ri.nd rfl (.inl rfl) (pe_call GL hr (by rfl) aL.g aL.F.kp bL .nil pass0 (pa_cons (pv 0) (pa_cons (pv 1) (pa_cons (pv 2) pa_nil)))))
    (pss_cons (ps_if (pt_cmpR op_eq (pv 6) pe_str (nomark _)) (pss_one (ps_ret pe_bl)) pss_nil)
    (pss_cons (ps_asg (pe_callN GB hr (by rfl) aB.g aB.F.kp bB pass0 (pa_cons (pv 0) pa_nil) (pk_cons (pv 3) (pk_cons (pe_ix ix_tup (pv 4) pe_int (fun _ _ => rfl)) (pk_cons (pe_ix ix_tup (pv 4) pe_int (fun _ _ => rfl)) pk_nil)))) (pg_tup rfl (pgs_cons (pg_name (i := 7) sc_ri.nd rfl (.inl rfl)) (pgs_cons (pg_name (i := 8) sc_ri.nd rfl (.inl rfl)) pgs_nil))))
    (pss_cons (ps_if (pt_cmpR op_eq (pv 6) pe_str (nomark _)) (pss_one (ps_ret (pe_and (pe_cmpR (op_eqD hu) (pv 7) (pv 8) (nomark _)) (pe_one (pe_cmpR op_notIn_seq pe_str (pv 5) (by rfl)))))) pss_nil)
    (pss_cons (ps_if (pt_cmpR op_eq (pv 6) pe_str (nomark _))
      (pss_cons (ps_asg (pe_callN GB hr (by rfl) aB.g aB.F.kp bB pass0 (pa_cons (pv 0) pa_nil) (pk_cons (pe_ix ix_tup (pe_ix ix_tup (pv 1) pe_int (fun _ _ => rfl)) pe_int (fun _ _ => rfl)) (pk_cons (pe_ix ix_tup (pe_ix ix_tup (pv 1) pe_int (fun _ _ => rfl)) pe_int (fun _ _ => rfl)) (pk_cons (pe_ix ix_tup (pe_ix ix_tup (pv 1) pe_int (fun _ _ => rfl)) pe_int (fun _ _ => rfl)) pk_nil))))
        (pg_tup rfl (pgs_cons (pg_name (i := 9) sc_ri.nd rfl (.inl rfl)) (pgs_cons (pg_name (i := 10) sc_ri.nd rfl (.inl rfl)) pgs_nil))))
      (pss_one (ps_ret (pe_and (pe_cmpR (op_neD hu) (pv 9) (pv 10) (nomark _)) (pe_one (pe_cmpR op_notIn_seq pe_str (pv 5) (by rfl))))))) pss_nil)
    (pss_one (ps_ret (pe_and (pe_cmpR op_eq (pv 6) pe_str (nomark _)) (pe_one (pe_cmpR op_eq (pe_ix ix_tup (pe_callN GO hr (by rfl) aO.g aO.F.kp bO pass0 (pa_cons (pv 0) pa_nil) (pk_cons (pv 2) (pk_cons (pe_ix ix_tup (pv 1) pe_int (fun _ _ => rfl)) pk_nil))) pe_int (fun _ _ => rfl)) pe_str (nomark _)))))))))), ?_⟩
  refine ⟨_, rfl, _, rfl, _, rfl, vk, vt, k, t, same, rfl, hk, ht, kd, okt.1, okt.2, fun H1 s1 => ?_⟩
  cases e : lets k same t with
  | none => exact ⟨_, rfl, rfl, _, rfl, dT rfl (q H1 s1)⟩
  | some wd =>
    refine ⟨_, rfl, rfl, _, rfl, dF (by cases wd <;> decide +kernel) ?_⟩
    obtain ⟨a, js, rfl, ta, hx⟩ := dp_tup (hj.up s1)
    obtain ⟨u1, u2, rfl, d1, d2⟩ := dpa_2 hx
    refine ⟨_, rfl, _, rfl, _, rfl, a, _, 0, u1, rfl, rfl, ta, rfl, _, rfl, a, _, 1, u2, rfl, rfl, ta, rfl, rfl, rfl, vk, vo, u1, u2, k, m, p, r, rfl, hk.up s1, ho.up s1, d1, d2, kd, fm, okp.1, okr.1, by omega, by have := okp.2.2; omega, by have := okr.2.2; omega, fun H2 x2 s2 dx => ?_⟩
    obtain ⟨b, ys, rfl, tb, hy⟩ := dp_tup dx
    obtain ⟨y1, y2, rfl, g1, g2⟩ := dpa_2 hy
    have s12 := s1.trans s2
    refine ⟨b, _, rfl, tb, rfl, _, _, rfl, _, _, rfl, rfl, ?_⟩
    cases wd with
    | alike =>
      refine ⟨_, rfl, rfl, _, rfl, dT rfl ?_⟩
      refine ⟨_, rfl, _, rfl, (two k m p r).dat, (two k m r p).dat, g1, g2, shaped_hv _, shaped_hv _, _, rfl, bT (by rw [eqv_hv]; exact decide_eq_true (alike_two e fm okp.1 okr.1 hb)) ?_⟩
      refine ⟨_, rfl, aw, _, rfl, .inl (s12.seq hw), rfl, flat_words ws, ?_⟩
      show Q (.bl (!inV (.str "parted") (ws.map V.str))) H2
      rw [inV_words, decide_eq_false (wA e)]
      exact q H2 s12
    | parted =>
      refine ⟨_, rfl, rfl, _, rfl, dF (show ¬ V.str Wd.parted.word = V.str "alike" by decide +kernel) ?_⟩
      refine ⟨_, rfl, rfl, _, rfl, dT rfl ?_⟩
      obtain ⟨m', p', r', rfl, hb', ne⟩ := lets_parted e
      obtain ⟨c, zs, rfl, tc, hz⟩ := dp_tup (ds := [.str "parted", .tuple [m'.dat, p'.dat, r'.dat]]) (ht.up s12)
      obtain ⟨z1, z2, rfl, f1, f2⟩ := dpa_2 hz
      obtain ⟨c2, zs2, rfl, tc2, hz2⟩ := dp_tup f2
      obtain ⟨x1, x2, x3, rfl, h1, h2, h3⟩ := dpa_3 hz2
      have fw := okt.2
      have ff := okt.1
      refine ⟨_, rfl, _, rfl, c, _, 1, .ref c2, rfl, rfl, tc, rfl, c2, _, 0, x1, rfl, rfl, tc2, rfl, _, rfl, c, _, 1, .ref c2, rfl, rfl, tc, rfl, c2, _, 1, x2, rfl, rfl, tc2, rfl, _, rfl, c, _, 1, .ref c2, rfl, rfl, tc, rfl, c2, _, 2, x3, rfl, rfl, tc2, rfl, rfl, rfl,
        vk, x1, x2, x3, k, m', p', r', rfl, hk.up s12, h1, h2, h3, kd, ff.1, ff.2.1, ff.2.2, fw.1, fw.2.1.2, fw.2.2.2, fun H3 x4 s3 dx4 => ?_⟩
      obtain ⟨b2, ys2, rfl, tb2, hy2⟩ := dp_tup dx4
      obtain ⟨v1, v2, rfl, l1, l2⟩ := dpa_2 hy2
      refine ⟨b2, _, rfl, tb2, rfl, _, _, rfl, _, _, rfl, rfl, ?_⟩
      refine ⟨_, rfl, _, rfl, (two k m' p' r').dat, (two k m' r' p').dat, l1, l2, shaped_hv _, shaped_hv _, _, rfl, bT (by rw [eqv_hv, decide_eq_false ne]; rfl) ?_⟩
      refine ⟨_, rfl, aw, _, rfl, .inl ((s12.trans s3).seq hw), rfl, flat_words ws, ?_⟩
      show Q (.bl (!inV (.str "alike") (ws.map V.str))) H3
      rw [inV_words, decide_eq_false (wP e)]
      exact q H3 (s12.trans s3)
    | within =>
      refine ⟨_, rfl, rfl, _, rfl, dF (show ¬ V.str Wd.within.word = V.str "alike" by decide +kernel) ?_⟩
      refine ⟨_, rfl, rfl, _, rfl, dF (show ¬ V.str Wd.within.word = V.str "parted" by decide +kernel) ?_⟩
      refine ⟨_, rfl, rfl, _, rfl, dT rfl ?_⟩
      obtain ⟨sm, n, rfl, rfl, _⟩ := lets_within e
      obtain ⟨c, zs, rfl, tc, hz⟩ := dp_tup (ds := [.str "within", .int n]) (ht.up s12)
      obtain ⟨z1, z2, rfl, f1, f2⟩ := dpa_2 hz
      have e2 := dp_int f2
      subst e2
      refine ⟨_, rfl, _, rfl, _, rfl, c, _, 1, .int n, rfl, rfl, tc, rfl, rfl, rfl, vk, .own sm, n, same, rfl, hk.up s12, kd, okt.2, fun H3 x3 s3 dx3 => ?_⟩
      rw [th_dat, within_paper e] at dx3
      obtain ⟨b2, ys2, rfl, tb2, hy2⟩ := dp_tup dx3
      obtain ⟨v1, v2, rfl, l1, l2⟩ := dpa_2 hy2
      have e3 := dp_str l1
      subst e3
      exact ⟨b2, _, 0, _, rfl, rfl, tb2, rfl, rfl, q H3 (s12.trans s3)⟩
end
end FJ

/-! FJz: law. -/
namespace FJ
open PySem PySem.Spec PyProof.Rows L2
theorem ofPart_ok (s : Sm) (p : Part) : (ofPart p).Ok (.own s) := ⟨⟨trivial, ⟨trivial, trivial⟩, trivial, trivial⟩, Nat.zero_le _, ⟨Nat.zero_le _, Nat.zero_le _⟩, Nat.zero_le _, Nat.zero_le _⟩
theorem paper_ok (k : Kd) (same : Bool) : (orderPaper k same 1).Ok k := by
  cases k with
  | plain => exact ⟨⟨trivial, ⟨trivial, trivial⟩, trivial, trivial⟩, by decide, ⟨by decide, by decide⟩, by decide, by decide⟩
  | sum => exact ⟨trivial, trivial⟩
  | most => exact ⟨trivial, trivial⟩
  | list => exact ⟨⟨trivial, ⟨trivial, trivial⟩, trivial, trivial⟩, by decide, ⟨by decide, by decide⟩, by decide, by decide⟩
  | set =>
    cases same with
    | true => exact ⟨trivial, trivial⟩
    | false =>
      have h0 : Fits .set (.tup []) := ⟨List.Pairwise.nil, fun x h => nomatch h⟩
      have h1 : Fits .set (.tup [1]) := ⟨List.pairwise_singleton .., fun x h => by rw [List.mem_singleton.mp h]; decide⟩
      exact ⟨⟨h0, ⟨h0, h1⟩, h1, h0⟩, by decide, ⟨by decide, by decide⟩, by decide, by decide⟩
  | own s =>
    show (ownPaper s same 1).Ok (.own s)
    unfold ownPaper
    cases numbersOf s with
    | some n =>
      dsimp only
      by_cases c : isAlike n same = true
      · rw [if_pos c]
        exact ⟨trivial, trivial⟩
      · rw [if_neg c]
        cases parting (.own s) 1 same with
        | some p => exact ofPart_ok s p
        | none => exact ⟨trivial, by show 1 ≤ 2; decide⟩
    | none =>
      dsimp only
      cases parting (.own s) 1 same with
      | some p => exact ofPart_ok s p
      | none => exact ⟨trivial, by show 1 ≤ 2; decide⟩
theorem letW_alike {o : Option Wd} (h : letW o = "alike") : o = some .alike := by
  cases o with
  | none => exact absurd h (by decide +kernel)
  | some w => cases w with
    | alike => rfl
    | parted => exact absurd h (by decide +kernel)
    | within => exact absurd h (by decide +kernel)
theorem letW_parted {o : Option Wd} (h : letW o = "parted") : o = some .parted := by
  cases o with
  | none => exact absurd h (by decide +kernel)
  | some w => cases w with
    | alike => exact absurd h (by decide +kernel)
    | parted => rfl
    | within => exact absurd h (by decide +kernel)
/-- over a list to a name, with tests -/
theorem wk_lany {K : PySem.W.Frag} {a : Addr} {xs : List V} {i0 : Nat} {tt : TT} {b : TB} {vs : List Nat} {σ : L2.St} {H1 : Hp} {k : Hp → Prop} (σ2 : V → L2.St) (Pv : Nat → Hp → Prop) (h0 : Pv 0 H1) (hL : ∀ i H, Pv i H → SqL K H a xs) (hk : ∀ H, Pv xs.length H → k H)
    (hs : ∀ i H (hi : i < xs.length), Pv i H → tt (σ2 xs[i]) H fun c H3 => if c = true then b (σ2 xs[i]) H3 (Pv (i + 1)) else Pv (i + 1) H3) (h2 : ∀ x, (wipe σ vs).set i0 (some x) = σ2 x := by intro _; rfl) (h3 : ∀ x, wipe (σ2 x) vs = wipe σ vs := by intro _; rfl) : Wk (Itl K a) (gName i0) tt b vs σ H1 k := by
  refine wk_lst Pv h0 hL hk fun i H hi p => ?_
  show wipe ((wipe σ vs).set i0 (some xs[i])) vs = _ ∧ tt ((wipe σ vs).set i0 (some xs[i])) H _
  rw [h2]
  exact ⟨h3 _, hs i H hi p⟩
theorem wk_lanyy {K : PySem.W.Frag} {a : Addr} {xs : List V} {i0 : Nat} {b : TB} {vs : List Nat} {σ : L2.St} {H1 : Hp} {k : Hp → Prop} (σ2 : V → L2.St) (Pv : Nat → Hp → Prop) (h0 : Pv 0 H1) (hL : ∀ i H, Pv i H → SqL K H a xs) (hk : ∀ H, Pv xs.length H → k H)
    (hs : ∀ i H (hi : i < xs.length), Pv i H → b (σ2 xs[i]) H (Pv (i + 1))) (h2 : ∀ x, (wipe σ vs).set i0 (some x) = σ2 x := by intro _; rfl) (h3 : ∀ x, wipe (σ2 x) vs = wipe σ vs := by intro _; rfl) : Wk (Itl K a) (gName i0) tYes b vs σ H1 k := wk_lany σ2 Pv h0 hL hk hs h2 h3
section
variable {P : Program} {w : World} {K : PySem.W.Frag} {mg : Str → Option Value} {base : Heap} {C CP fI : Addr}
abbrev nLw : List Str := ["_law_script", "_law_feed_here", "_law_less", "_law_turn", "_law_kind_here", "_law_same", "_law_own", "_law_some", "_law_things", "_law_words", "_law_thing"]
def spLw (K : PySem.W.Frag) : Sp := fun vs H Q _ => ∃ (a : Addr) (ns : List Int), vs = [.ref a] ∧ SqL K H a (ns.map V.int) ∧ ns.length ≤ 63 ∧ ∀ H', Q (.bl true) H'
theorem sc_lw : FnScope nLw ["_law_script"] (defScope (topS 46)) := ⟨rfl, rfl, rfl, by decide +kernel, rfl, by decide +kernel, by decide +kernel⟩
theorem ok_lw (T : Txt K mg) (B : PTab K w mg) (N : NoP K mg C CP fI) : OkD P w K mg base CX0 15 "law" (topS 46) [] ["_law_script"] (spLw K) := by
  obtain ⟨fF, dFe, aF, GF⟩ := (ok_fe (P := P) (w := w) (base := base) T).mono (k := 14) (by decide)
  have bFe : Binds K dFe ["_law_script"] [] := aF.F.bindsN fun _ _ _ _ _ _ us hl => match us, hl with | [_], _ => rfl
  obtain ⟨fD, dD, aD, GD⟩ := (ok_dr (P := P) (w := w) (base := base) T).mono (k := 14) (by decide)
  have bD : Binds K dD ["_law_feed_here", "_law_many"] [] := aD.F.bindsN fun _ _ _ _ _ _ us hl => match us, hl with | [_, _], _ => rfl
  obtain ⟨fK, dK_, aK, GK⟩ := (ok_kd (P := P) (w := w) (base := base) T).mono (k := 14) (by decide)
  have bK : Binds K dK_ ["_law_feed_here"] [] := aK.F.bindsN fun _ _ _ _ _ _ us hl => match us, hl with | [_], _ => rfl
  obtain ⟨fH, dH, aH, GH⟩ := (ok_hs (P := P) (w := w) (base := base) T).mono (k := 14) (by decide)
  have bH : Binds K dH ["_law_feed_here", "_law_kind_here"] [] := aH.F.bindsN fun _ _ _ _ _ _ us hl => match us, hl with | [_, _], _ => rfl
  obtain ⟨fJ, dJ, aJ, GJ⟩ := (ok_jo (P := P) (w := w) (base := base) T).mono (k := 14) (by decide)
  have bJ : Binds K dJ ["_law_feed_here", "_law_kind_here", "_law_many", "_law_same"] [] := aJ.F.bindsN fun _ _ _ _ _ _ us hl => match us, hl with | [_, _, _, _], _ => rfl
  obtain ⟨fP, dP, aP, GP⟩ := (ok_pa (P := P) (w := w) (base := base) T).mono (k := 14) (by decide)
  have bP : Binds K dP ["_law_feed_here", "_law_kind_here", "_law_own", "_law_some"] [] := aP.F.bindsN fun _ _ _ _ _ _ us hl => match us, hl with | [_, _, _, _], _ => rfl
  obtain ⟨fO, dO, aO, GO⟩ := (ok_ord (P := P) (w := w) (base := base) T B).mono (k := 14) (by decide)
  obtain ⟨mv, bO⟩ := kb_lack aO.F 1 ["same_base"] [("reach", .int 1)] (fun us mv ws => us ++ (ws ++ mv)) (by decide) (fun q h => h) (fun r1 r2 r3 => r1.append (r3.append r2)) (ps := ["kind", "same_base", "reach"]) (fun D doc pm an cdv ct us mv ws h1 h2 h3 => match us, mv, ws, h1, h2, h3 with
    | [_], [_], [_], _, _, _ => ⟨_, _, _, _, _, _, rfl, rfl, rfl⟩)
  obtain ⟨fL, dL, aL, GL⟩ := (ok_le (P := P) (w := w) (base := base) T N).mono (k := 14) (by decide)
  have bL : Binds K dL ["_law_kind_here", "_law_thing", "_law_same"] [] := aL.F.bindsN fun _ _ _ _ _ _ us hl => match us, hl with | [_, _, _], _ => rfl
  obtain ⟨fR, dR, aR, GR⟩ := ok_ri (P := P) (w := w) (base := base) T B N
  have bR : Binds K dR ["_law_kind_here", "_law_thing", "_law_same", "_law_own", "_law_some", "_law_words"] [] := aR.F.bindsN fun _ _ _ _ _ _ us hl => match us, hl with | [_, _, _, _, _, _], _ => rfl
  obtain ⟨fN, dN, aN, GN⟩ := (ok_num (P := P) (w := w) (base := base) T 6).mono (k := 14) (by decide)
  have bN : Binds K dN ["amount"] [] := aN.F.bindsN fun _ _ _ _ _ _ us hl => match us, hl with | [_], _ => rfl
  refine okD T.law sc_lw (fun vs H Q E h => ?_) fun f cdv A outer s H vs Q E hr h => ?_
  · obtain ⟨a, ns, rfl, _⟩ := h
    rfl
  obtain ⟨a, ns, rfl, ha, hl, q⟩ := h
  have hu := units64 hr
  let X : Cx := (cxOf CX0 P w K mg base nLw "law" (defScope (topS 46)) f cdv A outer s H E).nox
  -- the last two checks of a turn
  have checks2 : ∃ tb, PSs X ((forBody ((defBody (topS 46)).getD 2 (.Pass ⟨0, 0, 0, 0⟩))).drop 7) tb ∧ ∀ (N : Ends) (H8 : Hp) (φ : Fe) (vl vk vo vj : V) (y3 : Option V) (c D : Addr) (k : Kd) (m : HV) (p r : Jn) (same : Bool) (tt : List Th) (xs : List V) (W : List Str), Dp K H8 vk k.dat → k.depth ≤ 6 → Dp K H8 vo m.dat →
      Dp K H8 vj (.tuple [p.dat, r.dat]) → SqL K H8 c xs → DpAll K H8 xs (tt.map Th.dat) → SqL K H8 D (W.map V.str) → (∀ t ∈ tt, t.Ok k) → Fits k m → m.len ≤ 42 → p.Ok k → r.Ok k → (same = true → p.base = r.base) →
      (∀ t : Th, t.Ok k → lets k same t = some .alike → ("parted" : Str) ∉ W) → (∀ t : Th, t.Ok k → lets k same t = some .parted → ("alike" : Str) ∉ W) → atI (W.map V.str) (-1) = some (.str (orderPaper k same 1).wd.word) →
      tt.length ≤ 10 → (∀ H' y10, Same H8 H' → N.nx [some (.ref a), some (.ref φ.f), some vl, y3, some vk, some (.bl same), some vo, some vj, some (.ref c), some (.ref D), y10] H') → ∀ y10, tb N [some (.ref a), some (.ref φ.f), some vl, y3, some vk, some (.bl same), some vo, some vj, some (.ref c), some (.ref D), y10] H8 := by
    refine ⟨_, pss_cons (ps_if (pt_cmpR (op_neD hu) (pe_l1 (own := [("_law_thing", 10)]) rfl sc_lw.nd (pi_list (pv 8)) (blkOk_by (N := nLw) (sc := defScope (topS 46)) (by decide +kernel)) (fun _ _ _ _ _ => pg_name (i := 10) sc_lw.nd rfl (Or.inl rfl))
          (fun _ _ _ _ _ => pts_one (pt_not (pt_val (pe_call (X := _) GR hr (by rfl) aR.g aR.F.kp bR .nil pass0 (pa_cons (pv 4) (pa_cons (pv 10) (pa_cons (pv 5) (pa_cons (pv 6) (pa_cons (pv 7) (pa_cons (pv 9) pa_nil))))))))) ) (fun _ _ _ _ _ => pv 10)) (pe_lst pa_nil) (nomark _)) (pss_one (ps_ret pe_bl)) pss_nil)
      (pss_one (ps_if (PW.pt (pw_and (PW.pt (pw_or (pt_val (pe_isd "str" (pv 4) T.z_isinstance T.z_str)) (pw_or1 (pt_cmpR op_notN (pe_call GN hr (by rfl) aN.g aN.F.kp bN .nil pass0 (pa_cons (pe_ix ix_tup (pv 4) pe_int (fun _ _ => rfl)) pa_nil)) pe_non (nomark _))))) (pw_and1 (pt_cmpR op_notIn_seq (pe_ix ix_list (pv 9) (pe_un un_neg pe_int) (fun _ _ => rfl)) (pe_tup (pa_cons pe_str (pa_cons pe_str pa_nil))) (by rfl))))) (pss_one (ps_ret pe_bl)) pss_nil)),
      fun N H8 φ vl vk vo vj y3 c D k m p r same tt xs W hk kd ho hj hc dx hD okA fm lm okp okr hb wA wP last lts hN y10 => ?_⟩
    -- every paper is right
    refine ⟨_, rfl, c, rfl, ⟨_, hc⟩, fun Dd nDd => ?_⟩
    refine wk_lany (xs := xs) (fun x => [some (.ref a), some (.ref φ.f), some vl, y3, some vk, some (.bl same), some vo, some vj, some (.ref c), some (.ref D), some x]) (fun i H' => FInv H8 Dd [] H') (FInv.init nDd) (fun i H' hP => hP.same.seq hc) (fun H' hP => ?_) (fun i H' hi hP => ?_)
    rotate_left
    · have hi2 : i < tt.length := by
        have := dpa_len dx
        rw [List.length_map] at this
        omega
      obtain ⟨d, e2, dd⟩ := dpa_get dx (List.getElem?_eq_getElem hi)
      rw [List.getElem?_map, List.getElem?_eq_getElem hi2] at e2
      have e2 : (tt[i]).dat = d := Option.some.inj e2
      subst e2
      have oi := okA tt[i] (List.getElem_mem hi2)
      refine ⟨_, rfl, _, rfl, _, rfl, _, rfl, _, rfl, _, rfl, vk, xs[i], vo, vj, D, k, tt[i], m, p, r, same, W, rfl, hk.up hP.same, dd.up hP.same, ho.up hP.same, hj.up hP.same, hP.same.seq hD, kd, oi, fm, lm, okp, okr, hb, wA _ oi, wP _ oi, fun H5 s5 => ⟨true, rfl, ?_⟩⟩
      exact bF rfl ⟨hP.new, hP.same.trans s5, s5 _ _ hP.lst⟩
    · refine ⟨Nat.zero_le _, fun q2 nq2 => ?_⟩
      have s2 := same_new (o := .lst []) nq2
      refine ⟨.list [], .list [], .lst (SqL.of (s2 _ _ hP.lst)) .nil, dp_newL nq2 .nil, shaped_lstI [], shaped_lstI [], _, rfl, bF (by rfl) ?_⟩
      have s3 := hP.same.trans s2
      generalize upd H' q2 (.lst []) = H9 at s3
      have hk9 := hk.up s3
      by_cases hw : ∃ sm, k = .own sm
      · obtain ⟨sm, ek⟩ := hw
        have hk9' := hk9
        rw [ek] at hk9'
        obtain ⟨b, ys, rfl, tb, hy⟩ := dp_tup (ds := [.str "own", sm.dat]) hk9'
        obtain ⟨z1, z2, rfl, g1, g2⟩ := dpa_2 hy
        refine ⟨_, rfl, .ref b, "str", (Kd.own sm).dat, false, rfl, hk9', kit_tup_str, _, rfl, iteF ?_⟩
        refine ⟨_, rfl, b, _, 1, z2, rfl, rfl, tb, rfl, z2, sm, rfl, g2, by rw [ek] at kd; exact kd, fun H5 vd s5 dd => ⟨rfl, _, rfl, ?_⟩⟩
        have s35 := s3.trans s5
        cases en : numbersOf sm with
        | none =>
          rw [en] at dd
          have e := dp_non dd
          subst e
          exact bF (by rfl) (iteF (hN H5 y10 s35))
        | some n =>
          rw [en] at dd
          obtain ⟨an, rfl, tn⟩ := dp_ht (ns := [n.1, n.2.1, n.2.2.1, n.2.2.2]) dd
          refine bT (by rw [decide_eq_false (fun z => by cases z)]; rfl) ?_
          have nw : (orderPaper k same 1).wd ≠ .within := paper_sharp same fun s2 e2 => by
            rw [ek] at e2
            cases e2
            exact ⟨n, en⟩
          refine ⟨_, rfl, 1, rfl, D, _, -1, _, rfl, rfl, s35.seq hD, last, (by show 2 ≤ sizeLine; decide), fun t nt => ⟨t, [.str "alike", .str "parted"], rfl, .inr (SqT.of upd_same), rfl, rfl, _, rfl, bF ?_ (hN _ y10 (s35.trans (same_new nt)))⟩⟩
          show (!inV (.str (orderPaper k same 1).wd.word) ([("alike" : Str), "parted"].map V.str)) = false
          rw [inV_words]
          cases e : (orderPaper k same 1).wd with
          | alike => decide +kernel
          | parted => decide +kernel
          | within => exact absurd e nw
      · have word : ∃ x, k.dat = .str x := by
          cases k with
          | own s => exact absurd ⟨s, rfl⟩ hw
          | _ => exact ⟨_, rfl⟩
        obtain ⟨x, ex⟩ := word
        have hk9' := hk9
        rw [ex] at hk9'
        have e := dp_str hk9'
        subst e
        refine ⟨_, rfl, .str x, "str", .str x, true, rfl, hk9', kit_str_str, _, rfl, iteT (iteT ?_)⟩
        have nw : (orderPaper k same 1).wd ≠ .within := paper_sharp same fun s2 e2 => absurd ⟨s2, e2⟩ hw
        refine ⟨_, rfl, 1, rfl, D, _, -1, _, rfl, rfl, s3.seq hD, last, (by show 2 ≤ sizeLine; decide), fun t nt => ⟨t, [.str "alike", .str "parted"], rfl, .inr (SqT.of upd_same), rfl, rfl, _, rfl, bF ?_ (hN _ y10 (s3.trans (same_new nt)))⟩⟩
        show (!inV (.str (orderPaper k same 1).wd.word) ([("alike" : Str), "parted"].map V.str)) = false
        rw [inV_words]
        cases e : (orderPaper k same 1).wd with
        | alike => decide +kernel
        | parted => decide +kernel
        | within => exact absurd e nw
  obtain ⟨tC, pC, rC⟩ := checks2
  -- the three checks of a turn
  have checks : ∃ tb, PSs X ((forBody ((defBody (topS 46)).getD 2 (.Pass ⟨0, 0, 0, 0⟩))).drop 6) tb ∧ ∀ (N : Ends) (H8 : Hp) (φ : Fe) (vl vk vo vj : V) (y3 : Option V) (c D : Addr) (k : Kd) (m : HV) (p r : Jn) (same : Bool) (ts : List Th) (xs : List V) (vp : V), Dp K H8 vk k.dat → k.depth ≤ 6 → Dp K H8 vo m.dat →
      Dp K H8 vj (.tuple [p.dat, r.dat]) → SqL K H8 c (xs ++ [vp]) → DpAll K H8 (xs ++ [vp]) ((ts ++ [orderPaper k same 1]).map Th.dat) → SqL K H8 D (((ts ++ [orderPaper k same 1]).map fun t => letW (lets k same t)).map V.str) → (∀ t ∈ ts, t.Ok k) → Fits k m → m.len ≤ 42 → p.Ok k → r.Ok k → (same = true → p.base = r.base) →
      ts.length = 6 → (∀ H' y10, Same H8 H' → N.nx [some (.ref a), some (.ref φ.f), some vl, y3, some vk, some (.bl same), some vo, some vj, some (.ref c), some (.ref D), y10] H') → ∀ y10, tb N [some (.ref a), some (.ref φ.f), some vl, y3, some vk, some (.bl same), some vo, some vj, some (.ref c), some (.ref D), y10] H8 := by
    refine ⟨_, pss_cons (ps_if (PW.pt (pw_or (pt_cmpR op_ne (pe_ix ix_list (pv 9) (pe_un un_neg pe_int) (fun _ _ => rfl)) (pe_ix ix_tup (pe_ix ix_list (pv 8) (pe_un un_neg pe_int) (fun _ _ => rfl)) pe_int (fun _ _ => rfl)) (nomark _)) (pw_or1 (PW.pt (pw_and (pt_cmpR op_in_seq pe_str (pv 9) (by rfl)) (pw_and1 (pt_cmpR op_in_seq pe_str (pv 9) (by rfl)))))))) (pss_one (ps_ret pe_bl)) pss_nil) pC,
      fun N H8 φ vl vk vo vj y3 c D k m p r same ts xs vp hk kd ho hj hc dx hD okt fm lm okp okr hb lts hN y10 => ?_⟩
    have okop := paper_ok k same
    have okA : ∀ t ∈ ts ++ [orderPaper k same 1], t.Ok k := fun t ht => by
      rcases List.mem_append.mp ht with h | h
      · exact okt t h
      · rw [List.mem_singleton.mp h]
        exact okop
    have elast : letW (lets k same (orderPaper k same 1)) = (orderPaper k same 1).wd.word := by rw [lets_paper]; rfl
    generalize eW : (ts ++ [orderPaper k same 1]).map (fun t => letW (lets k same t)) = W at hD
    have hW : ∀ x, x ∈ W → ∃ t, t.Ok k ∧ letW (lets k same t) = x := fun x hx => by
      rw [← eW] at hx
      obtain ⟨t, ht, e⟩ := List.mem_map.mp hx
      exact ⟨t, okA t ht, e⟩
    have noB : ∀ t1 t2 : Th, lets k same t1 = some .alike → lets k same t2 = some .parted → t2.Ok k → False := fun t1 t2 h1 h2 h3 => not_both h1 h2 h3.1
    have eWl : W.map V.str = (ts.map fun t => letW (lets k same t)).map V.str ++ [.str (orderPaper k same 1).wd.word] := by
      rw [← eW, List.map_append, List.map_append, ← elast]
      rfl
    have last : atI (W.map V.str) (-1) = some (.str (orderPaper k same 1).wd.word) := by
      rw [eWl]
      exact atI_last _ _
    -- the last paper's word
    have dl : Dp K H8 vp (orderPaper k same 1).dat := by
      have hn : ts.length < (xs ++ [vp]).length := by rw [dpa_len dx, List.length_map, List.length_append]; simp
      have lx : xs.length = ts.length := by
        have := dpa_len dx
        rw [List.length_map, List.length_append, List.length_append] at this
        simpa using this
      have e1 : (xs ++ [vp])[ts.length]? = some vp := by
        rw [← lx]
        simp
      obtain ⟨d, e2, dd⟩ := dpa_get dx e1
      rw [List.getElem?_map, List.getElem?_append_right (Nat.le_refl _), Nat.sub_self] at e2
      have e2 : (orderPaper k same 1).dat = d := Option.some.inj e2
      rw [e2]
      exact dd
    rw [th_dat] at dl
    obtain ⟨b, zs, rfl, tb, hz⟩ := dp_tup dl
    obtain ⟨z1, z2, rfl, f1, f2⟩ := dpa_2 hz
    have ez := dp_str f1
    subst ez
    refine ⟨_, rfl, 1, rfl, D, _, -1, _, rfl, rfl, hD, last, _, rfl, 1, rfl, c, _, -1, _, rfl, rfl, hc, atI_last _ _, b, _, 0, _, rfl, rfl, tb, rfl, rfl, _, rfl, bF (by simp) ?_⟩
    -- never both words
    have wA : ∀ t : Th, t.Ok k → lets k same t = some .alike → ("parted" : Str) ∉ W := fun t _ e h => by
      obtain ⟨t2, o2, e2⟩ := hW _ h
      exact noB t t2 e (letW_parted e2) o2
    have wP : ∀ t : Th, t.Ok k → lets k same t = some .parted → ("alike" : Str) ∉ W := fun t o e h => by
      obtain ⟨t1, o1, e1⟩ := hW _ h
      exact noB t1 t (letW_alike e1) e o
    have go := rC N H8 φ vl vk vo vj y3 c D k m p r same (ts ++ [orderPaper k same 1]) _ W hk kd ho hj hc dx hD okA fm lm okp okr hb wA wP last (by rw [List.length_append, lts, List.length_singleton]; decide) hN y10
    refine ⟨_, rfl, D, _, rfl, .inl hD, rfl, flat_words W, _, rfl, ?_⟩
    by_cases c1 : ("alike" : Str) ∈ W
    · refine bT (by show inV (.str "alike") (W.map V.str) = true; rw [inV_words]; exact decide_eq_true c1) ?_
      obtain ⟨t1, o1, e1⟩ := hW _ c1
      have c2 := wA t1 o1 (letW_alike e1)
      refine ⟨_, rfl, D, _, rfl, .inl hD, rfl, flat_words W, _, rfl, ?_⟩
      exact bF (by show inV (.str "parted") (W.map V.str) = false; rw [inV_words]; exact decide_eq_false c2) go
    · exact bF (by show inV (.str "alike") (W.map V.str) = false; rw [inV_words]; exact decide_eq_false c1) go
  obtain ⟨tK, pK, rK⟩ := checks
  -- a turn behind its kind
  have turn : ∃ tb, PSs X ((forBody ((defBody (topS 46)).getD 2 (.Pass ⟨0, 0, 0, 0⟩))).drop 1) tb ∧ ∀ (N : Ends) (H2 : Hp) (φ : Fe) (vl vk : V) (k : Kd) (y3 y5 y6 y7 y8 y9 y10 : Option V), Feed K φ H2 → Dp K H2 vk k.dat → k.depth ≤ 6 →
      (∀ H' y5 y6 y7 y8 y9 y10, Mv K φ H2 H' → N.nx [some (.ref a), some (.ref φ.f), some vl, y3, some vk, y5, y6, y7, y8, y9, y10] H') → tb N [some (.ref a), some (.ref φ.f), some vl, y3, some vk, y5, y6, y7, y8, y9, y10] H2 := by
    refine ⟨_, pss_cons (ps_set (i := 5) sc_lw.nd rfl (.inr rfl) (pe_cmpR op_eq (pe_call GD hr (by rfl) aD.g aD.F.kp bD .nil pass0 (pa_cons (pv 1) (pa_cons pe_int pa_nil))) pe_int (nomark _)))
      (pss_cons (ps_set (i := 6) sc_lw.nd rfl (.inr rfl) (pe_call GH hr (by rfl) aH.g aH.F.kp bH .nil pass0 (pa_cons (pv 1) (pa_cons (pv 4) pa_nil))))
      (pss_cons (ps_set (i := 7) sc_lw.nd rfl (.inr rfl) (pe_call GJ hr (by rfl) aJ.g aJ.F.kp bJ .nil pass0 (pa_cons (pv 1) (pa_cons (pv 4) (pa_cons pe_int (pa_cons (pv 5) pa_nil))))))
      (pss_cons (ps_set (i := 8) sc_lw.nd rfl (.inl rfl) (pe_op op_cat (pe_call GP hr (by rfl) aP.g aP.F.kp bP .nil pass0 (pa_cons (pv 1) (pa_cons (pv 4) (pa_cons (pv 6) (pa_cons (pv 7) pa_nil)))))
        (pe_lst (pa_cons (pe_callN GO hr (by rfl) aO.g aO.F.kp bO pass0 (pa_cons (pv 4) pa_nil) (pk_cons (pv 5) pk_nil)) pa_nil))))
      (pss_cons (ps_set (i := 9) sc_lw.nd rfl (.inr rfl) (pe_l1 (own := [("_law_thing", 10)]) rfl sc_lw.nd (pi_list (pv 8)) (blkOk_by (N := nLw) (sc := defScope (topS 46)) (by decide +kernel)) (fun _ _ _ _ _ => pg_name (i := 10) sc_lw.nd rfl (Or.inl rfl)) (fun _ _ _ _ _ => pts_nil)
        (fun _ _ _ _ _ => pe_call (X := _) GL hr (by rfl) aL.g aL.F.kp bL .nil pass0 (pa_cons (pv 4) (pa_cons (pv 10) (pa_cons (pv 5) pa_nil)))))) pK)))), fun N H2 φ vl vk k y3 y5 y6 y7 y8 y9 y10 hF hk kd hN => ?_⟩
    refine ⟨_, rfl, φ, 2, rfl, hF, by decide, by decide, fun H3 i m3 _ _ => ⟨rfl, ?_⟩⟩
    generalize decide (V.int i = V.int 0) = same
    refine ⟨_, rfl, _, rfl, φ, vk, k, rfl, m3.F1, m3.dp hk, kd, fun H4 vo m m4 ho fm lm => ?_⟩
    have m34 := m3.trans m4
    refine ⟨_, rfl, _, rfl, _, rfl, φ, vk, k, same, rfl, m34.F1, m34.dp hk, kd, fun H5 vj p r m5 hj okp okr hb => ?_⟩
    have m35 := m34.trans m5
    refine ⟨_, rfl, _, rfl, _, rfl, _, rfl, φ, vk, vo, vj, k, m, p, r, rfl, m35.F1, m35.dp hk, m5.dp ho, hj, kd, fm, lm, okp, okr, fun H6 b xs ts m6 eb dx lts okt => ?_⟩
    have m36 := m35.trans m6
    refine ⟨_, rfl, _, rfl, rfl, rfl, vk, k, 1, same, rfl, m36.dp hk, kd, by decide, fun H7 vp s7 dp => ⟨(by show 1 ≤ sizeLine; decide), fun l nl => ?_⟩⟩
    have sl := s7.trans (same_new (o := .lst [vp]) nl)
    have dp := dp.up (same_new (o := .lst [vp]) nl)
    have lx : xs.length = 6 := by rw [dpa_len dx, List.length_map, lts]
    refine ⟨b, l, _, _, rfl, rfl, sl _ _ eb, upd_same, (by rw [lx]; show 6 + 1 ≤ sizeLine; decide), fun c nc => ?_⟩
    have sc := sl.trans (same_new (o := .lst (xs ++ [vp])) nc)
    have dp := dp.up (same_new (o := .lst (xs ++ [vp])) nc)
    have ec : (upd (upd H7 l (.lst [vp])) c (.lst (xs ++ [vp]))) c = some (.lst (xs ++ [vp])) := upd_same
    generalize upd (upd H7 l (.lst [vp])) c (.lst (xs ++ [vp])) = Hc at sc dp ec
    have mc := m36.same sc
    have hk := mc.dp hk
    have ho := ((m5.trans m6).same sc).dp ho
    have hj := (m6.same sc).dp hj
    have dA : DpAll K Hc (xs ++ [vp]) ((ts ++ [orderPaper k same 1]).map Th.dat) := by
      rw [List.map_append]
      exact dpa_snoc (dx.up sc) dp
    have okA : ∀ t ∈ ts ++ [orderPaper k same 1], t.Ok k := fun t ht => by
      rcases List.mem_append.mp ht with h | h
      · exact okt t h
      · rw [List.mem_singleton.mp h]
        exact paper_ok k same
    have lA : (xs ++ [vp]).length = (ts ++ [orderPaper k same 1]).length := by rw [dpa_len dA, List.length_map]
    refine ⟨_, rfl, c, rfl, ⟨_, SqL.of ec⟩, fun D nD => ?_⟩
    refine wk_lanyy (xs := xs ++ [vp]) (fun x => [some (.ref a), some (.ref φ.f), some vl, y3, some vk, some (.bl same), some vo, some vj, some (.ref c), y9, some x]) (fun i H' => FInv Hc D ((((ts ++ [orderPaper k same 1]).take i).map fun t => letW (lets k same t)).map V.str) H') (FInv.init nD) (fun i H' hP => hP.same.seq (SqL.of ec)) (fun H' hP => ?_) (fun i H' hi hP => ?_)
    rotate_left
    · have hi2 : i < (ts ++ [orderPaper k same 1]).length := by omega
      obtain ⟨d, e2, dd⟩ := dpa_get dA (List.getElem?_eq_getElem hi)
      rw [List.getElem?_map, List.getElem?_eq_getElem hi2] at e2
      have e2 : ((ts ++ [orderPaper k same 1])[i]).dat = d := Option.some.inj e2
      subst e2
      have oi := okA _ (List.getElem_mem hi2)
      refine ⟨_, rfl, _, rfl, _, rfl, vk, _, k, (ts ++ [orderPaper k same 1])[i], same, rfl, hk.up hP.same, dd.up hP.same, kd, oi.1, oi.2, fun H9 s9 => ?_⟩
      obtain ⟨hD, hM⟩ := hP.push (y := .str (letW (lets k same (ts ++ [orderPaper k same 1])[i]))) s9
      refine ⟨_, hD, ?_, ?_⟩
      · rw [List.length_map, List.length_map, List.length_take]
        have : (ts ++ [orderPaper k same 1]).length = 7 := by rw [List.length_append, lts, List.length_singleton]
        exact small1000 (by omega)
      · rw [take_snoc hi2, List.map_append, List.map_append]
        exact hM
    · rw [lA, List.take_length] at hP
      refine rK N H' φ vl vk vo vj y3 c D k m p r same ts xs vp (hk.up hP.same) kd (ho.up hP.same) (hj.up hP.same) (hP.same.seq (SqL.of ec)) (dA.up hP.same) (SqL.of hP.lst) okt fm lm okp okr hb lts (fun H9 z s9 => ?_) y10
      exact hN H9 _ _ _ _ _ _ (mc.same (hP.same.trans s9))
  obtain ⟨tT, pT, rT⟩ := turn
  refine ⟨_, pss_cons (ps_set (i := 1) sc_lw.nd rfl (.inl rfl) (pe_call GF hr (by rfl) aF.g aF.F.kp bFe .nil pass0 (pa_cons (pv 0) pa_nil)))
    (pss_cons (ps_set (i := 2) sc_lw.nd rfl (.inl rfl) (pe_tup (pa_cons pe_str (pa_cons (pe_tup (pa_cons pe_str (pa_cons (pe_tup (pa_cons pe_str (pa_cons pe_str pa_nil))) (pa_cons (pe_tup (pa_cons pe_str (pa_cons pe_str pa_nil))) pa_nil)))) pa_nil))))
    (pss_cons (ps_for PassesOwn.never rfl (pi_range1 (by rfl) T.z_range (pa_cons pe_int pa_nil)) (pg_name (i := 3) sc_lw.nd rfl (.inl rfl))
      (pss_cons (ps_set (i := 4) sc_lw.nd rfl (.inr rfl) (pe_ifExp (pt_cmpR op_eq (pv 3) pe_int (nomark _)) (pv 2) (pe_call GK hr (by rfl) aK.g aK.F.kp bK .nil pass0 (pa_cons (pv 1) pa_nil)))) pT))
    (pss_one (ps_ret pe_bl)))), ?_⟩
  refine ⟨_, rfl, a, ns, rfl, ha, hl, fun φ H1 hF => ?_⟩
  refine ⟨(by show 2 ≤ sizeLine; decide), fun t1 n1 => ⟨(by show 2 ≤ sizeLine; decide), fun t2 n2 => ⟨(by show 3 ≤ sizeLine; decide), fun t3 n3 => ⟨(by show 2 ≤ sizeLine; decide), fun t4 n4 => ?_⟩⟩⟩⟩
  have d1 : Dp K _ (.ref t1) (Sm.slot .mine).dat := dp_new (vs := [.str "slot", .str "mine"]) n1 (.cons (.str _) (.cons (.str _) .nil))
  have S2 := same_new (o := .tup [.str "slot", .str "theirs"]) n2
  have d2 : Dp K _ (.ref t2) (Sm.slot .theirs).dat := dp_new (vs := [.str "slot", .str "theirs"]) n2 (.cons (.str _) (.cons (.str _) .nil))
  have S3 := same_new (o := .tup [.str "less", .ref t1, .ref t2]) n3
  have d3 : Dp K _ (.ref t3) (Sm.bin .less (.slot .mine) (.slot .theirs)).dat := dp_new (vs := [.str "less", .ref t1, .ref t2]) n3 (.cons (.str _) (.cons (d1.up S2) (.cons d2 .nil)))
  have S4 := same_new (o := .tup [.str "own", .ref t3]) n4
  have d4 : Dp K _ (.ref t4) (Kd.own (.bin .less (.slot .mine) (.slot .theirs))).dat := dp_new (vs := [.str "own", .ref t3]) n4 (.cons (.str _) (.cons d3 .nil))
  have S := (same_new (o := .tup [.str "slot", .str "mine"]) n1).trans (S2.trans (S3.trans S4))
  have hF4 := hF.up S
  generalize upd (upd (upd (upd H1 t1 _) t2 _) t3 _) t4 _ = H4 at d4 hF4
  refine ⟨3, rfl, by decide, by decide, ?_⟩
  refine for_range (lo := 0) (n := 3) (fun i σ H' => ∃ y3 y4 y5 y6 y7 y8 y9 y10 : Option V, σ = [some (.ref a), some (.ref φ.f), some (.ref t4), y3, y4, y5, y6, y7, y8, y9, y10] ∧ Mv K φ H4 H') ⟨_, _, _, _, _, _, _, _, rfl, Mv.refl hF4⟩ (fun i σ H2 hi hP => ?_) (fun σ H2 hP => q H2)
  obtain ⟨y3, y4, y5, y6, y7, y8, y9, y10, rfl, m⟩ := hP
  refine ⟨_, rfl, rfl, _, rfl, ?_⟩
  by_cases c : V.int (0 + (i : Int)) = V.int 2
  · refine dT c ⟨_, rfl, ?_⟩
    exact rT _ H2 φ (.ref t4) (.ref t4) _ _ _ _ _ _ _ _ m.F1 (m.dp d4) (by decide) fun H' y5 y6 y7 y8 y9 y10 m' => ⟨_, _, _, _, _, _, _, _, rfl, m.trans m'⟩
  · refine dF c ?_
    refine ⟨_, rfl, φ, rfl, m.F1, fun H3 vk k m3 dk kd => ?_⟩
    exact rT _ H3 φ (.ref t4) vk k _ _ _ _ _ _ _ m3.F1 dk kd fun H' y5 y6 y7 y8 y9 y10 m' => ⟨_, _, _, _, _, _, _, _, rfl, (m.trans m3).trans m'⟩
end
end FJ

/-! FJend: the promise from the facts of the written part. -/
namespace FJ
open PySem PySem.Spec PyProof.Rows L2
/-- what the written part says of a def without defaults -/
structure DefAt (K : PySem.W.Frag) (x : Str) (st : Stmt) (f : Addr) (kV : Value) : Prop where
  a : PySem.W.nsIn K mainGlobals x = some (some (.ref f))
  l : ∃ od an sl oc dc pm cd ct, K.lookup f = some ⟨oc, od, .func (PySem.W.fnOf x x (defArgs st) (defBody st) (defScope st) .none kV dc pm an cd ct), sl⟩ ∧ PySem.W.codeIn K cd x = true
  k : PySem.W.keepIn K (.ref f) = true
theorem DefAt.is {K : PySem.W.Frag} {h : Heap} {mg : Str → Option Value} {x : Str} {st : Stmt} {f : Addr} {kV : Value} {kws : List (Str × V)} (X : K.In h) (G : h.Ns mainGlobals mg) (d : DefAt K x st f kV) (hk : KwdV K kV kws) : IsAt K mg x st kws := by
  obtain ⟨od, an, sl, oc, dc, pm, cd, ct, l, c⟩ := d.l
  exact ⟨f, _, ⟨⟨oc, od, .none, kV, dc, pm, an, cd, ct, sl, rfl, l, c, .inl ⟨rfl, rfl⟩, hk⟩, d.k⟩, PySem.W.mg_of X G d.a⟩
theorem exm_own {K : PySem.W.Frag} {S : Addr} (h1 : PySem.W.subIn K (.ref S) (.type "BaseException") = some true) (h2 : PySem.W.isClsIn K S = true) (h3 : PySem.W.typeIn K (.ref S) = some (.type "type")) (h4 : PySem.W.subIn K (.ref S) (.ref S) = some true) : PySem.W.exmOne K (.ref S) (.ref S) = some true := by
  have e2 : ((PySem.W.clsIn K S).isSome && PySem.W.typeIn K (.ref S) == some (.type "type")) = true := by
    rw [h3, show (PySem.W.clsIn K S).isSome = true from h2]
    rfl
  have e1 : (PySem.W.subIn K (.ref S) (.type "BaseException") == some true) = true := by
    rw [h1]
    rfl
  unfold PySem.W.exmOne
  rw [if_pos e1]
  show (if ((PySem.W.clsIn K S).isSome && PySem.W.typeIn K (.ref S) == some (.type "type")) = true then PySem.W.subIn K (.ref S) (.ref S) else none) = some true
  rw [if_pos e2]
  exact h4
/-- a written tuple, by its items' readings -/
theorem tup_at {K : PySem.W.Frag} {p : Addr} {its : Array Value} {n : Nat} {dd : Option Addr} {sl : Array (Option Value)} {xs : List V} (l : K.lookup p = some ⟨.type "tuple", dd, .seq its n, sl⟩) (h : its.size ≤ sizeLine) (r : Vals xs its.toList) (H : Hp) : SqT K H p xs := .inr ⟨_, its, n, l, rfl, rfl, h, r⟩

theorem all_mk {P : Program} {w : World} {K : PySem.W.Frag} {h : Heap} {mg : Str → Option Value} {fa : Addr} (X : K.In h) (G : h.Ns mainGlobals mg) (hfa : mg "law" = some (.ref fa))
    {f0 : Addr} {kV0 : Value} {od0 an0 : Option Addr} {sl0 : Array (Option Value)} {oc0 dc0 pm0 cd0 ct0 : Value} (a0 : PySem.W.nsIn K mainGlobals "is_number" = some (some (.ref f0))) (l0 : K.lookup f0 = some ⟨oc0, od0, .func (PySem.W.fnOf "is_number" "is_number" (defArgs (topS 5)) (defBody (topS 5)) (defScope (topS 5)) .none kV0 dc0 pm0 an0 cd0 ct0), sl0⟩) (c0 : PySem.W.codeIn K cd0 "is_number" = true) (k0 : PySem.W.keepIn K (.ref f0) = true)
    {f1 : Addr} {kV1 : Value} {od1 an1 : Option Addr} {sl1 : Array (Option Value)} {oc1 dc1 pm1 cd1 ct1 : Value} (a1 : PySem.W.nsIn K mainGlobals "reckoned" = some (some (.ref f1))) (l1 : K.lookup f1 = some ⟨oc1, od1, .func (PySem.W.fnOf "reckoned" "reckoned" (defArgs (topS 7)) (defBody (topS 7)) (defScope (topS 7)) .none kV1 dc1 pm1 an1 cd1 ct1), sl1⟩) (c1 : PySem.W.codeIn K cd1 "reckoned" = true) (k1 : PySem.W.keepIn K (.ref f1) = true)
    {f2 : Addr} {kV2 : Value} {od2 an2 : Option Addr} {sl2 : Array (Option Value)} {oc2 dc2 pm2 cd2 ct2 : Value} (a2 : PySem.W.nsIn K mainGlobals "merged_set" = some (some (.ref f2))) (l2 : K.lookup f2 = some ⟨oc2, od2, .func (PySem.W.fnOf "merged_set" "merged_set" (defArgs (topS 9)) (defBody (topS 9)) (defScope (topS 9)) .none kV2 dc2 pm2 an2 cd2 ct2), sl2⟩) (c2 : PySem.W.codeIn K cd2 "merged_set" = true) (k2 : PySem.W.keepIn K (.ref f2) = true)
    {f3 : Addr} {kV3 : Value} {od3 an3 : Option Addr} {sl3 : Array (Option Value)} {oc3 dc3 pm3 cd3 ct3 : Value} (a3 : PySem.W.nsIn K mainGlobals "merged" = some (some (.ref f3))) (l3 : K.lookup f3 = some ⟨oc3, od3, .func (PySem.W.fnOf "merged" "merged" (defArgs (topS 10)) (defBody (topS 10)) (defScope (topS 10)) .none kV3 dc3 pm3 an3 cd3 ct3), sl3⟩) (c3 : PySem.W.codeIn K cd3 "merged" = true) (k3 : PySem.W.keepIn K (.ref f3) = true)
    {f4 : Addr} {kV4 : Value} {od4 an4 : Option Addr} {sl4 : Array (Option Value)} {oc4 dc4 pm4 cd4 ct4 : Value} (a4 : PySem.W.nsIn K mainGlobals "numbers_of" = some (some (.ref f4))) (l4 : K.lookup f4 = some ⟨oc4, od4, .func (PySem.W.fnOf "numbers_of" "numbers_of" (defArgs (topS 14)) (defBody (topS 14)) (defScope (topS 14)) .none kV4 dc4 pm4 an4 cd4 ct4), sl4⟩) (c4 : PySem.W.codeIn K cd4 "numbers_of" = true) (k4 : PySem.W.keepIn K (.ref f4) = true)
    {f5 : Addr} {kV5 : Value} {od5 an5 : Option Addr} {sl5 : Array (Option Value)} {oc5 dc5 pm5 cd5 ct5 : Value} (a5 : PySem.W.nsIn K mainGlobals "in_order" = some (some (.ref f5))) (l5 : K.lookup f5 = some ⟨oc5, od5, .func (PySem.W.fnOf "in_order" "in_order" (defArgs (topS 15)) (defBody (topS 15)) (defScope (topS 15)) .none kV5 dc5 pm5 an5 cd5 ct5), sl5⟩) (c5 : PySem.W.codeIn K cd5 "in_order" = true) (k5 : PySem.W.keepIn K (.ref f5) = true)
    {f6 : Addr} {kV6 : Value} {od6 an6 : Option Addr} {sl6 : Array (Option Value)} {oc6 dc6 pm6 cd6 ct6 : Value} (a6 : PySem.W.nsIn K mainGlobals "both_orders" = some (some (.ref f6))) (l6 : K.lookup f6 = some ⟨oc6, od6, .func (PySem.W.fnOf "both_orders" "both_orders" (defArgs (topS 16)) (defBody (topS 16)) (defScope (topS 16)) .none kV6 dc6 pm6 an6 cd6 ct6), sl6⟩) (c6 : PySem.W.codeIn K cd6 "both_orders" = true) (k6 : PySem.W.keepIn K (.ref f6) = true)
    {f7 : Addr} {kV7 : Value} {od7 an7 : Option Addr} {sl7 : Array (Option Value)} {oc7 dc7 pm7 cd7 ct7 : Value} (a7 : PySem.W.nsIn K mainGlobals "is_alike" = some (some (.ref f7))) (l7 : K.lookup f7 = some ⟨oc7, od7, .func (PySem.W.fnOf "is_alike" "is_alike" (defArgs (topS 17)) (defBody (topS 17)) (defScope (topS 17)) .none kV7 dc7 pm7 an7 cd7 ct7), sl7⟩) (c7 : PySem.W.codeIn K cd7 "is_alike" = true) (k7 : PySem.W.keepIn K (.ref f7) = true)
    {f8 : Addr} {kV8 : Value} {od8 an8 : Option Addr} {sl8 : Array (Option Value)} {oc8 dc8 pm8 cd8 ct8 : Value} (a8 : PySem.W.nsIn K mainGlobals "all_parts" = some (some (.ref f8))) (l8 : K.lookup f8 = some ⟨oc8, od8, .func (PySem.W.fnOf "all_parts" "all_parts" (defArgs (topS 18)) (defBody (topS 18)) (defScope (topS 18)) .none kV8 dc8 pm8 an8 cd8 ct8), sl8⟩) (c8 : PySem.W.codeIn K cd8 "all_parts" = true) (k8 : PySem.W.keepIn K (.ref f8) = true)
    {f9 : Addr} {kV9 : Value} {od9 an9 : Option Addr} {sl9 : Array (Option Value)} {oc9 dc9 pm9 cd9 ct9 : Value} (a9 : PySem.W.nsIn K mainGlobals "parting" = some (some (.ref f9))) (l9 : K.lookup f9 = some ⟨oc9, od9, .func (PySem.W.fnOf "parting" "parting" (defArgs (topS 19)) (defBody (topS 19)) (defScope (topS 19)) .none kV9 dc9 pm9 an9 cd9 ct9), sl9⟩) (c9 : PySem.W.codeIn K cd9 "parting" = true) (k9 : PySem.W.keepIn K (.ref f9) = true)
    {f10 : Addr} {kV10 : Value} {od10 an10 : Option Addr} {sl10 : Array (Option Value)} {oc10 dc10 pm10 cd10 ct10 : Value} (a10 : PySem.W.nsIn K mainGlobals "own_paper" = some (some (.ref f10))) (l10 : K.lookup f10 = some ⟨oc10, od10, .func (PySem.W.fnOf "own_paper" "own_paper" (defArgs (topS 20)) (defBody (topS 20)) (defScope (topS 20)) .none kV10 dc10 pm10 an10 cd10 ct10), sl10⟩) (c10 : PySem.W.codeIn K cd10 "own_paper" = true) (k10 : PySem.W.keepIn K (.ref f10) = true)
    {f11 D11 : Addr} {od11 an11 : Option Addr} {sl11 : Array (Option Value)} {oc11 dc11 pm11 cd11 ct11 : Value} (a11 : PySem.W.nsIn K mainGlobals "order_paper" = some (some (.ref f11))) (l11 : K.lookup f11 = some ⟨oc11, od11, .func (PySem.W.fnOf "order_paper" "order_paper" (defArgs (topS 22)) (defBody (topS 22)) (defScope (topS 22)) .none (.ref D11) dc11 pm11 an11 cd11 ct11), sl11⟩) (c11 : PySem.W.codeIn K cd11 "order_paper" = true) (k11 : PySem.W.keepIn K (.ref f11) = true)
    {f12 : Addr} {kV12 : Value} {od12 an12 : Option Addr} {sl12 : Array (Option Value)} {oc12 dc12 pm12 cd12 ct12 : Value} (a12 : PySem.W.nsIn K mainGlobals "are_numbers" = some (some (.ref f12))) (l12 : K.lookup f12 = some ⟨oc12, od12, .func (PySem.W.fnOf "are_numbers" "are_numbers" (defArgs (topS 24)) (defBody (topS 24)) (defScope (topS 24)) .none kV12 dc12 pm12 an12 cd12 ct12), sl12⟩) (c12 : PySem.W.codeIn K cd12 "are_numbers" = true) (k12 : PySem.W.keepIn K (.ref f12) = true)
    {f13 : Addr} {kV13 : Value} {od13 an13 : Option Addr} {sl13 : Array (Option Value)} {oc13 dc13 pm13 cd13 ct13 : Value} (a13 : PySem.W.nsIn K mainGlobals "can_have" = some (some (.ref f13))) (l13 : K.lookup f13 = some ⟨oc13, od13, .func (PySem.W.fnOf "can_have" "can_have" (defArgs (topS 25)) (defBody (topS 25)) (defScope (topS 25)) .none kV13 dc13 pm13 an13 cd13 ct13), sl13⟩) (c13 : PySem.W.codeIn K cd13 "can_have" = true) (k13 : PySem.W.keepIn K (.ref f13) = true)
    {f14 : Addr} {kV14 : Value} {od14 an14 : Option Addr} {sl14 : Array (Option Value)} {oc14 dc14 pm14 cd14 ct14 : Value} (a14 : PySem.W.nsIn K mainGlobals "need" = some (some (.ref f14))) (l14 : K.lookup f14 = some ⟨oc14, od14, .func (PySem.W.fnOf "need" "need" (defArgs (topS 28)) (defBody (topS 28)) (defScope (topS 28)) .none kV14 dc14 pm14 an14 cd14 ct14), sl14⟩) (c14 : PySem.W.codeIn K cd14 "need" = true) (k14 : PySem.W.keepIn K (.ref f14) = true)
    {f15 : Addr} {kV15 : Value} {od15 an15 : Option Addr} {sl15 : Array (Option Value)} {oc15 dc15 pm15 cd15 ct15 : Value} (a15 : PySem.W.nsIn K mainGlobals "is_join" = some (some (.ref f15))) (l15 : K.lookup f15 = some ⟨oc15, od15, .func (PySem.W.fnOf "is_join" "is_join" (defArgs (topS 29)) (defBody (topS 29)) (defScope (topS 29)) .none kV15 dc15 pm15 an15 cd15 ct15), sl15⟩) (c15 : PySem.W.codeIn K cd15 "is_join" = true) (k15 : PySem.W.keepIn K (.ref f15) = true)
    {f16 : Addr} {kV16 : Value} {od16 an16 : Option Addr} {sl16 : Array (Option Value)} {oc16 dc16 pm16 cd16 ct16 : Value} (a16 : PySem.W.nsIn K mainGlobals "is_parting" = some (some (.ref f16))) (l16 : K.lookup f16 = some ⟨oc16, od16, .func (PySem.W.fnOf "is_parting" "is_parting" (defArgs (topS 30)) (defBody (topS 30)) (defScope (topS 30)) .none kV16 dc16 pm16 an16 cd16 ct16), sl16⟩) (c16 : PySem.W.codeIn K cd16 "is_parting" = true) (k16 : PySem.W.keepIn K (.ref f16) = true)
    {f17 : Addr} {kV17 : Value} {od17 an17 : Option Addr} {sl17 : Array (Option Value)} {oc17 dc17 pm17 cd17 ct17 : Value} (a17 : PySem.W.nsIn K mainGlobals "is_shaped" = some (some (.ref f17))) (l17 : K.lookup f17 = some ⟨oc17, od17, .func (PySem.W.fnOf "is_shaped" "is_shaped" (defArgs (topS 31)) (defBody (topS 31)) (defScope (topS 31)) .none kV17 dc17 pm17 an17 cd17 ct17), sl17⟩) (c17 : PySem.W.codeIn K cd17 "is_shaped" = true) (k17 : PySem.W.keepIn K (.ref f17) = true)
    {f18 : Addr} {kV18 : Value} {od18 an18 : Option Addr} {sl18 : Array (Option Value)} {oc18 dc18 pm18 cd18 ct18 : Value} (a18 : PySem.W.nsIn K mainGlobals "need_alike" = some (some (.ref f18))) (l18 : K.lookup f18 = some ⟨oc18, od18, .func (PySem.W.fnOf "need_alike" "need_alike" (defArgs (topS 32)) (defBody (topS 32)) (defScope (topS 32)) .none kV18 dc18 pm18 an18 cd18 ct18), sl18⟩) (c18 : PySem.W.codeIn K cd18 "need_alike" = true) (k18 : PySem.W.keepIn K (.ref f18) = true)
    {f19 : Addr} {kV19 : Value} {od19 an19 : Option Addr} {sl19 : Array (Option Value)} {oc19 dc19 pm19 cd19 ct19 : Value} (a19 : PySem.W.nsIn K mainGlobals "need_parted" = some (some (.ref f19))) (l19 : K.lookup f19 = some ⟨oc19, od19, .func (PySem.W.fnOf "need_parted" "need_parted" (defArgs (topS 33)) (defBody (topS 33)) (defScope (topS 33)) .none kV19 dc19 pm19 an19 cd19 ct19), sl19⟩) (c19 : PySem.W.codeIn K cd19 "need_parted" = true) (k19 : PySem.W.keepIn K (.ref f19) = true)
    {f20 : Addr} {kV20 : Value} {od20 an20 : Option Addr} {sl20 : Array (Option Value)} {oc20 dc20 pm20 cd20 ct20 : Value} (a20 : PySem.W.nsIn K mainGlobals "lets_order" = some (some (.ref f20))) (l20 : K.lookup f20 = some ⟨oc20, od20, .func (PySem.W.fnOf "lets_order" "lets_order" (defArgs (topS 34)) (defBody (topS 34)) (defScope (topS 34)) .none kV20 dc20 pm20 an20 cd20 ct20), sl20⟩) (c20 : PySem.W.codeIn K cd20 "lets_order" = true) (k20 : PySem.W.keepIn K (.ref f20) = true)
    {f21 : Addr} {kV21 : Value} {od21 an21 : Option Addr} {sl21 : Array (Option Value)} {oc21 dc21 pm21 cd21 ct21 : Value} (a21 : PySem.W.nsIn K mainGlobals "_law_feed" = some (some (.ref f21))) (l21 : K.lookup f21 = some ⟨oc21, od21, .func (PySem.W.fnOf "_law_feed" "_law_feed" (defArgs (topS 36)) (defBody (topS 36)) (defScope (topS 36)) .none kV21 dc21 pm21 an21 cd21 ct21), sl21⟩) (c21 : PySem.W.codeIn K cd21 "_law_feed" = true) (k21 : PySem.W.keepIn K (.ref f21) = true)
    {f22 : Addr} {kV22 : Value} {od22 an22 : Option Addr} {sl22 : Array (Option Value)} {oc22 dc22 pm22 cd22 ct22 : Value} (a22 : PySem.W.nsIn K mainGlobals "_law_draw" = some (some (.ref f22))) (l22 : K.lookup f22 = some ⟨oc22, od22, .func (PySem.W.fnOf "_law_draw" "_law_draw" (defArgs (topS 37)) (defBody (topS 37)) (defScope (topS 37)) .none kV22 dc22 pm22 an22 cd22 ct22), sl22⟩) (c22 : PySem.W.codeIn K cd22 "_law_draw" = true) (k22 : PySem.W.keepIn K (.ref f22) = true)
    {f23 : Addr} {kV23 : Value} {od23 an23 : Option Addr} {sl23 : Array (Option Value)} {oc23 dc23 pm23 cd23 ct23 : Value} (a23 : PySem.W.nsIn K mainGlobals "_law_number" = some (some (.ref f23))) (l23 : K.lookup f23 = some ⟨oc23, od23, .func (PySem.W.fnOf "_law_number" "_law_number" (defArgs (topS 38)) (defBody (topS 38)) (defScope (topS 38)) .none kV23 dc23 pm23 an23 cd23 ct23), sl23⟩) (c23 : PySem.W.codeIn K cd23 "_law_number" = true) (k23 : PySem.W.keepIn K (.ref f23) = true)
    {f24 : Addr} {kV24 : Value} {od24 an24 : Option Addr} {sl24 : Array (Option Value)} {oc24 dc24 pm24 cd24 ct24 : Value} (a24 : PySem.W.nsIn K mainGlobals "_law_sum" = some (some (.ref f24))) (l24 : K.lookup f24 = some ⟨oc24, od24, .func (PySem.W.fnOf "_law_sum" "_law_sum" (defArgs (topS 39)) (defBody (topS 39)) (defScope (topS 39)) .none kV24 dc24 pm24 an24 cd24 ct24), sl24⟩) (c24 : PySem.W.codeIn K cd24 "_law_sum" = true) (k24 : PySem.W.keepIn K (.ref f24) = true)
    {f25 : Addr} {kV25 : Value} {od25 an25 : Option Addr} {sl25 : Array (Option Value)} {oc25 dc25 pm25 cd25 ct25 : Value} (a25 : PySem.W.nsIn K mainGlobals "_law_has" = some (some (.ref f25))) (l25 : K.lookup f25 = some ⟨oc25, od25, .func (PySem.W.fnOf "_law_has" "_law_has" (defArgs (topS 40)) (defBody (topS 40)) (defScope (topS 40)) .none kV25 dc25 pm25 an25 cd25 ct25), sl25⟩) (c25 : PySem.W.codeIn K cd25 "_law_has" = true) (k25 : PySem.W.keepIn K (.ref f25) = true)
    {f26 : Addr} {kV26 : Value} {od26 an26 : Option Addr} {sl26 : Array (Option Value)} {oc26 dc26 pm26 cd26 ct26 : Value} (a26 : PySem.W.nsIn K mainGlobals "_law_kind" = some (some (.ref f26))) (l26 : K.lookup f26 = some ⟨oc26, od26, .func (PySem.W.fnOf "_law_kind" "_law_kind" (defArgs (topS 41)) (defBody (topS 41)) (defScope (topS 41)) .none kV26 dc26 pm26 an26 cd26 ct26), sl26⟩) (c26 : PySem.W.codeIn K cd26 "_law_kind" = true) (k26 : PySem.W.keepIn K (.ref f26) = true)
    {f27 : Addr} {kV27 : Value} {od27 an27 : Option Addr} {sl27 : Array (Option Value)} {oc27 dc27 pm27 cd27 ct27 : Value} (a27 : PySem.W.nsIn K mainGlobals "_law_joins" = some (some (.ref f27))) (l27 : K.lookup f27 = some ⟨oc27, od27, .func (PySem.W.fnOf "_law_joins" "_law_joins" (defArgs (topS 42)) (defBody (topS 42)) (defScope (topS 42)) .none kV27 dc27 pm27 an27 cd27 ct27), sl27⟩) (c27 : PySem.W.codeIn K cd27 "_law_joins" = true) (k27 : PySem.W.keepIn K (.ref f27) = true)
    {f28 : Addr} {kV28 : Value} {od28 an28 : Option Addr} {sl28 : Array (Option Value)} {oc28 dc28 pm28 cd28 ct28 : Value} (a28 : PySem.W.nsIn K mainGlobals "_law_let" = some (some (.ref f28))) (l28 : K.lookup f28 = some ⟨oc28, od28, .func (PySem.W.fnOf "_law_let" "_law_let" (defArgs (topS 43)) (defBody (topS 43)) (defScope (topS 43)) .none kV28 dc28 pm28 an28 cd28 ct28), sl28⟩) (c28 : PySem.W.codeIn K cd28 "_law_let" = true) (k28 : PySem.W.keepIn K (.ref f28) = true)
    {f29 : Addr} {kV29 : Value} {od29 an29 : Option Addr} {sl29 : Array (Option Value)} {oc29 dc29 pm29 cd29 ct29 : Value} (a29 : PySem.W.nsIn K mainGlobals "_law_papers" = some (some (.ref f29))) (l29 : K.lookup f29 = some ⟨oc29, od29, .func (PySem.W.fnOf "_law_papers" "_law_papers" (defArgs (topS 44)) (defBody (topS 44)) (defScope (topS 44)) .none kV29 dc29 pm29 an29 cd29 ct29), sl29⟩) (c29 : PySem.W.codeIn K cd29 "_law_papers" = true) (k29 : PySem.W.keepIn K (.ref f29) = true)
    {f30 : Addr} {kV30 : Value} {od30 an30 : Option Addr} {sl30 : Array (Option Value)} {oc30 dc30 pm30 cd30 ct30 : Value} (a30 : PySem.W.nsIn K mainGlobals "_law_right" = some (some (.ref f30))) (l30 : K.lookup f30 = some ⟨oc30, od30, .func (PySem.W.fnOf "_law_right" "_law_right" (defArgs (topS 45)) (defBody (topS 45)) (defScope (topS 45)) .none kV30 dc30 pm30 an30 cd30 ct30), sl30⟩) (c30 : PySem.W.codeIn K cd30 "_law_right" = true) (k30 : PySem.W.keepIn K (.ref f30) = true)
    {f31 : Addr} {kV31 : Value} {od31 an31 : Option Addr} {sl31 : Array (Option Value)} {oc31 dc31 pm31 cd31 ct31 : Value} (a31 : PySem.W.nsIn K mainGlobals "law" = some (some (.ref f31))) (l31 : K.lookup f31 = some ⟨oc31, od31, .func (PySem.W.fnOf "law" "law" (defArgs (topS 46)) (defBody (topS 46)) (defScope (topS 46)) .none kV31 dc31 pm31 an31 cd31 ct31), sl31⟩) (c31 : PySem.W.codeIn K cd31 "law" = true) (k31 : PySem.W.keepIn K (.ref f31) = true)
    {uR : Tok} (kw : PySem.W.nsIn K D11 "reach" = some (some (.int 1 uR)))
    {aS : Addr} {dS : Option Addr} {nS : Nat} {sS : Array (Option Value)} {tS0 tS1 tS2 : Tok} (gS : PySem.W.nsIn K mainGlobals "SLOTS" = some (some (.ref aS))) (lS : K.lookup aS = some ⟨.type "tuple", dS, .seq #[.str "base" tS0, .str "mine" tS1, .str "theirs" tS2] nS, sS⟩)
    {tM : Tok} (gM : PySem.W.nsIn K mainGlobals "MOST_REACH" = some (some (.int 2 tM)))
    (z_isinstance : PySem.W.nsIn K mainGlobals "isinstance" = some none)
    (z_int : PySem.W.nsIn K mainGlobals "int" = some none)
    (z_bool : PySem.W.nsIn K mainGlobals "bool" = some none)
    (z_str : PySem.W.nsIn K mainGlobals "str" = some none)
    (z_tuple : PySem.W.nsIn K mainGlobals "tuple" = some none)
    (z_list : PySem.W.nsIn K mainGlobals "list" = some none)
    (z_set : PySem.W.nsIn K mainGlobals "set" = some none)
    (z_sorted : PySem.W.nsIn K mainGlobals "sorted" = some none)
    (z_len : PySem.W.nsIn K mainGlobals "len" = some none)
    (z_all : PySem.W.nsIn K mainGlobals "all" = some none)
    (z_zip : PySem.W.nsIn K mainGlobals "zip" = some none)
    (z_max : PySem.W.nsIn K mainGlobals "max" = some none)
    (z_range : PySem.W.nsIn K mainGlobals "range" = some none)
    (z_enumerate : PySem.W.nsIn K mainGlobals "enumerate" = some none)
    {pT : Addr} {es : Array DictEntry} {nT : Nat} (gT : PySem.W.nsIn K mainGlobals "PARTED" = some (some (.ref pT))) (lT : K.lookup pT = some ⟨.type "dict", none, .dict es nT, #[]⟩) (kT : PySem.W.KeysLit w.params es.toList)
    {Pq : Addr} (gPq : PySem.W.nsIn K pT "plain" = some (some (.ref Pq))) {Pqd : Option Addr} {Pqn : Nat} {Pqs : Array (Option Value)} {Pqt0 : Tok} {P1 : Addr} {P2 : Addr} (lPq : K.lookup Pq = some ⟨.type "tuple", Pqd, .seq #[.int 0 Pqt0, .ref P1, .ref P2] Pqn, Pqs⟩) {P1d : Option Addr} {P1n : Nat} {P1s : Array (Option Value)} {P1t0 : Tok} {P1t1 : Tok} (lP1 : K.lookup P1 = some ⟨.type "tuple", P1d, .seq #[.int 0 P1t0, .int 1 P1t1] P1n, P1s⟩) {P2d : Option Addr} {P2n : Nat} {P2s : Array (Option Value)} {P2t0 : Tok} {P2t1 : Tok} (lP2 : K.lookup P2 = some ⟨.type "tuple", P2d, .seq #[.int 0 P2t0, .int 2 P2t1] P2n, P2s⟩)
    {Lq : Addr} (gLq : PySem.W.nsIn K pT "list" = some (some (.ref Lq))) {Lqd : Option Addr} {Lqn : Nat} {Lqs : Array (Option Value)} {Lt0 : Addr} {Lt1 : Addr} {Lt2 : Addr} (lLq : K.lookup Lq = some ⟨.type "tuple", Lqd, .seq #[.ref Lt0, .ref Lt1, .ref Lt2] Lqn, Lqs⟩) {Lt0d : Option Addr} {Lt0n : Nat} {Lt0s : Array (Option Value)} (lLt0 : K.lookup Lt0 = some ⟨.type "tuple", Lt0d, .seq #[] Lt0n, Lt0s⟩) {Lt1d : Option Addr} {Lt1n : Nat} {Lt1s : Array (Option Value)} {Lt3 : Addr} {Lt4 : Addr} (lLt1 : K.lookup Lt1 = some ⟨.type "tuple", Lt1d, .seq #[.ref Lt3, .ref Lt4] Lt1n, Lt1s⟩) {Lt3d : Option Addr} {Lt3n : Nat} {Lt3s : Array (Option Value)} (lLt3 : K.lookup Lt3 = some ⟨.type "tuple", Lt3d, .seq #[] Lt3n, Lt3s⟩) {Lt4d : Option Addr} {Lt4n : Nat} {Lt4s : Array (Option Value)} {Lt4t0 : Tok} (lLt4 : K.lookup Lt4 = some ⟨.type "tuple", Lt4d, .seq #[.int 1 Lt4t0] Lt4n, Lt4s⟩) {Lt2d : Option Addr} {Lt2n : Nat} {Lt2s : Array (Option Value)} {Lt5 : Addr} {Lt6 : Addr} (lLt2 : K.lookup Lt2 = some ⟨.type "tuple", Lt2d, .seq #[.ref Lt5, .ref Lt6] Lt2n, Lt2s⟩) {Lt5d : Option Addr} {Lt5n : Nat} {Lt5s : Array (Option Value)} (lLt5 : K.lookup Lt5 = some ⟨.type "tuple", Lt5d, .seq #[] Lt5n, Lt5s⟩) {Lt6d : Option Addr} {Lt6n : Nat} {Lt6s : Array (Option Value)} {Lt6t0 : Tok} (lLt6 : K.lookup Lt6 = some ⟨.type "tuple", Lt6d, .seq #[.int 2 Lt6t0] Lt6n, Lt6s⟩)
    {Sq : Addr} (gSq : PySem.W.nsIn K pT "set" = some (some (.ref Sq))) {Sqd : Option Addr} {Sqn : Nat} {Sqs : Array (Option Value)} {S0 : Addr} {S1 : Addr} {S2 : Addr} (lSq : K.lookup Sq = some ⟨.type "tuple", Sqd, .seq #[.ref S0, .ref S1, .ref S2] Sqn, Sqs⟩) {S0d : Option Addr} {S0n : Nat} {S0s : Array (Option Value)} (lS0 : K.lookup S0 = some ⟨.type "tuple", S0d, .seq #[] S0n, S0s⟩) {S1d : Option Addr} {S1n : Nat} {S1s : Array (Option Value)} {S3 : Addr} {S4 : Addr} (lS1 : K.lookup S1 = some ⟨.type "tuple", S1d, .seq #[.ref S3, .ref S4] S1n, S1s⟩) {S3d : Option Addr} {S3n : Nat} {S3s : Array (Option Value)} (lS3 : K.lookup S3 = some ⟨.type "tuple", S3d, .seq #[] S3n, S3s⟩) {S4d : Option Addr} {S4n : Nat} {S4s : Array (Option Value)} {S4t0 : Tok} (lS4 : K.lookup S4 = some ⟨.type "tuple", S4d, .seq #[.int 1 S4t0] S4n, S4s⟩) {S2d : Option Addr} {S2n : Nat} {S2s : Array (Option Value)} {S5 : Addr} {S6 : Addr} (lS2 : K.lookup S2 = some ⟨.type "tuple", S2d, .seq #[.ref S5, .ref S6] S2n, S2s⟩) {S5d : Option Addr} {S5n : Nat} {S5s : Array (Option Value)} {S5t0 : Tok} (lS5 : K.lookup S5 = some ⟨.type "tuple", S5d, .seq #[.int 1 S5t0] S5n, S5s⟩) {S6d : Option Addr} {S6n : Nat} {S6s : Array (Option Value)} (lS6 : K.lookup S6 = some ⟨.type "tuple", S6d, .seq #[] S6n, S6s⟩)
    {C CP fI : Addr} {nm q : Str} {N : Addr} {bs bm : List Value} {sn : List Str} {sub : List Value} {ab : Bool} {col : Option Bool} {dd : Option Addr} {m0 m1 m2 m3 m5 : Option Value} {odI anI : Option Addr} {slI : Array (Option Value)} {ocI kVI dcI pmI cdI ctI : Value}
    (gC : PySem.W.nsIn K mainGlobals "NoPaper" = some (some (.ref C))) (gP : PySem.W.nsIn K mainGlobals "PaperError" = some (some (.ref CP))) (xL : K.lookup C = some (PySem.excClassObj nm q C N bs bm true sn sub ab col dd m0 m1 m2 m3 m5 "ValueError.__new__")) (xR : PySem.HandSPX.refsVE bm = true)
    (sa : PySem.W.findIn K (.ref C) "__setattr__" = some (some (.builtin "object.__setattr__"))) (eC : PySem.W.subIn K (.ref C) (.type "BaseException") = some true) (tC : PySem.W.typeIn K (.ref C) = some (.type "type")) (kC : PySem.W.keepIn K (.ref C) = true) (iC : PySem.W.isClsIn K C = true) (sC : PySem.W.subIn K (.ref C) (.ref C) = some true)
    (aI : PySem.W.findIn K (.ref C) "__init__" = some (some (.ref fI))) (tI : PySem.W.typeIn K (.ref fI) = some (.type "function")) (lI : K.lookup fI = some ⟨ocI, odI, .func (PySem.W.fnOf "__init__" "NoPaper.__init__" (defArgs initS) (defBody initS) (defScope initS) .none kVI dcI pmI anI cdI ctI), slI⟩) (cI : PySem.W.codeIn K cdI "NoPaper.__init__" = true) (kI : PySem.W.keepIn K (.ref fI) = true)
    (noW : PySem.W.findIn K (.ref C) "word" = some none) (noA : PySem.W.findIn K (.ref C) "at" = some none) (gaP : PySem.W.specialIn K (.ref CP) "__getattribute__" = some (some (.builtin "type.__getattribute__"))) (rdP : PySem.W.readsIn K CP (.type "type") = true) (vP : PySem.W.findCls K (.ref CP) (.type "type") "__init__" = some (.val (.builtin "ValueError.__init__")))
    : ∃ fd : FuncData, (∀ (s : Shared) (u : Value), BindsTo s fd ⟨[u], []⟩ [("_law_script", u)]) ∧ ∀ base : Heap, K.In base → base.Ns mainGlobals mg → FnOk P w K mg base CX0 15 fa fd ["_law_script"] (spLw K) := by
  have T : Txt K mg := {
    is_number := DefAt.is X G ⟨a0, ⟨_, _, _, _, _, _, _, _, l0, c0⟩, k0⟩ (.inl rfl)
    reckoned := DefAt.is X G ⟨a1, ⟨_, _, _, _, _, _, _, _, l1, c1⟩, k1⟩ (.inl rfl)
    merged_set := DefAt.is X G ⟨a2, ⟨_, _, _, _, _, _, _, _, l2, c2⟩, k2⟩ (.inl rfl)
    merged := DefAt.is X G ⟨a3, ⟨_, _, _, _, _, _, _, _, l3, c3⟩, k3⟩ (.inl rfl)
    numbers_of := DefAt.is X G ⟨a4, ⟨_, _, _, _, _, _, _, _, l4, c4⟩, k4⟩ (.inl rfl)
    in_order := DefAt.is X G ⟨a5, ⟨_, _, _, _, _, _, _, _, l5, c5⟩, k5⟩ (.inl rfl)
    both_orders := DefAt.is X G ⟨a6, ⟨_, _, _, _, _, _, _, _, l6, c6⟩, k6⟩ (.inl rfl)
    is_alike := DefAt.is X G ⟨a7, ⟨_, _, _, _, _, _, _, _, l7, c7⟩, k7⟩ (.inl rfl)
    all_parts := DefAt.is X G ⟨a8, ⟨_, _, _, _, _, _, _, _, l8, c8⟩, k8⟩ (.inl rfl)
    parting := DefAt.is X G ⟨a9, ⟨_, _, _, _, _, _, _, _, l9, c9⟩, k9⟩ (.inl rfl)
    own_paper := DefAt.is X G ⟨a10, ⟨_, _, _, _, _, _, _, _, l10, c10⟩, k10⟩ (.inl rfl)
    order_paper := DefAt.is X G ⟨a11, ⟨_, _, _, _, _, _, _, _, l11, c11⟩, k11⟩ (.inr ⟨_, rfl, fun q hq => by rw [List.mem_singleton.mp hq]; exact ⟨_, kw, ⟨_, rfl⟩⟩⟩)
    are_numbers := DefAt.is X G ⟨a12, ⟨_, _, _, _, _, _, _, _, l12, c12⟩, k12⟩ (.inl rfl)
    can_have := DefAt.is X G ⟨a13, ⟨_, _, _, _, _, _, _, _, l13, c13⟩, k13⟩ (.inl rfl)
    need := DefAt.is X G ⟨a14, ⟨_, _, _, _, _, _, _, _, l14, c14⟩, k14⟩ (.inl rfl)
    is_join := DefAt.is X G ⟨a15, ⟨_, _, _, _, _, _, _, _, l15, c15⟩, k15⟩ (.inl rfl)
    is_parting := DefAt.is X G ⟨a16, ⟨_, _, _, _, _, _, _, _, l16, c16⟩, k16⟩ (.inl rfl)
    is_shaped := DefAt.is X G ⟨a17, ⟨_, _, _, _, _, _, _, _, l17, c17⟩, k17⟩ (.inl rfl)
    need_alike := DefAt.is X G ⟨a18, ⟨_, _, _, _, _, _, _, _, l18, c18⟩, k18⟩ (.inl rfl)
    need_parted := DefAt.is X G ⟨a19, ⟨_, _, _, _, _, _, _, _, l19, c19⟩, k19⟩ (.inl rfl)
    lets_order := DefAt.is X G ⟨a20, ⟨_, _, _, _, _, _, _, _, l20, c20⟩, k20⟩ (.inl rfl)
    law_feed := DefAt.is X G ⟨a21, ⟨_, _, _, _, _, _, _, _, l21, c21⟩, k21⟩ (.inl rfl)
    law_draw := DefAt.is X G ⟨a22, ⟨_, _, _, _, _, _, _, _, l22, c22⟩, k22⟩ (.inl rfl)
    law_number := DefAt.is X G ⟨a23, ⟨_, _, _, _, _, _, _, _, l23, c23⟩, k23⟩ (.inl rfl)
    law_sum := DefAt.is X G ⟨a24, ⟨_, _, _, _, _, _, _, _, l24, c24⟩, k24⟩ (.inl rfl)
    law_has := DefAt.is X G ⟨a25, ⟨_, _, _, _, _, _, _, _, l25, c25⟩, k25⟩ (.inl rfl)
    law_kind := DefAt.is X G ⟨a26, ⟨_, _, _, _, _, _, _, _, l26, c26⟩, k26⟩ (.inl rfl)
    law_joins := DefAt.is X G ⟨a27, ⟨_, _, _, _, _, _, _, _, l27, c27⟩, k27⟩ (.inl rfl)
    law_let := DefAt.is X G ⟨a28, ⟨_, _, _, _, _, _, _, _, l28, c28⟩, k28⟩ (.inl rfl)
    law_papers := DefAt.is X G ⟨a29, ⟨_, _, _, _, _, _, _, _, l29, c29⟩, k29⟩ (.inl rfl)
    law_right := DefAt.is X G ⟨a30, ⟨_, _, _, _, _, _, _, _, l30, c30⟩, k30⟩ (.inl rfl)
    law := DefAt.is X G ⟨a31, ⟨_, _, _, _, _, _, _, _, l31, c31⟩, k31⟩ (.inl rfl)
    SLOTS := ⟨aS, PySem.W.mg_of X G gS, tup_at lS (by show 3 ≤ sizeLine; decide) (.cons ⟨_, rfl⟩ (.cons ⟨_, rfl⟩ (.cons ⟨_, rfl⟩ .nil)))⟩
    MOST_REACH := ⟨_, PySem.W.mg_of X G gM⟩
    z_isinstance := PySem.W.mg_none_of X G z_isinstance
    z_int := PySem.W.mg_none_of X G z_int
    z_bool := PySem.W.mg_none_of X G z_bool
    z_str := PySem.W.mg_none_of X G z_str
    z_tuple := PySem.W.mg_none_of X G z_tuple
    z_list := PySem.W.mg_none_of X G z_list
    z_set := PySem.W.mg_none_of X G z_set
    z_sorted := PySem.W.mg_none_of X G z_sorted
    z_len := PySem.W.mg_none_of X G z_len
    z_all := PySem.W.mg_none_of X G z_all
    z_zip := PySem.W.mg_none_of X G z_zip
    z_max := PySem.W.mg_none_of X G z_max
    z_range := PySem.W.mg_none_of X G z_range
    z_enumerate := PySem.W.mg_none_of X G z_enumerate }
  have dP : ∀ H, Dp K H (.ref Pq) (triD .plain) := fun H => (.tup (tup_at (xs := [.int 0, .ref P1, .ref P2]) lPq (by show 3 ≤ sizeLine; decide) (.cons ⟨_, rfl⟩ (.cons rfl (.cons rfl .nil))) H) (.cons (.int 0) (.cons (.tup (tup_at (xs := [.int 0, .int 1]) lP1 (by show 2 ≤ sizeLine; decide) (.cons ⟨_, rfl⟩ (.cons ⟨_, rfl⟩ .nil)) H) (.cons (.int 0) (.cons (.int 1) .nil))) (.cons (.tup (tup_at (xs := [.int 0, .int 2]) lP2 (by show 2 ≤ sizeLine; decide) (.cons ⟨_, rfl⟩ (.cons ⟨_, rfl⟩ .nil)) H) (.cons (.int 0) (.cons (.int 2) .nil))) .nil))))
  have dL : ∀ H, Dp K H (.ref Lq) (triD .list) := fun H => (.tup (tup_at (xs := [.ref Lt0, .ref Lt1, .ref Lt2]) lLq (by show 3 ≤ sizeLine; decide) (.cons rfl (.cons rfl (.cons rfl .nil))) H) (.cons (.tup (tup_at (xs := []) lLt0 (by show 0 ≤ sizeLine; decide) .nil H) .nil) (.cons (.tup (tup_at (xs := [.ref Lt3, .ref Lt4]) lLt1 (by show 2 ≤ sizeLine; decide) (.cons rfl (.cons rfl .nil)) H) (.cons (.tup (tup_at (xs := []) lLt3 (by show 0 ≤ sizeLine; decide) .nil H) .nil) (.cons (.tup (tup_at (xs := [.int 1]) lLt4 (by show 1 ≤ sizeLine; decide) (.cons ⟨_, rfl⟩ .nil) H) (.cons (.int 1) .nil)) .nil))) (.cons (.tup (tup_at (xs := [.ref Lt5, .ref Lt6]) lLt2 (by show 2 ≤ sizeLine; decide) (.cons rfl (.cons rfl .nil)) H) (.cons (.tup (tup_at (xs := []) lLt5 (by show 0 ≤ sizeLine; decide) .nil H) .nil) (.cons (.tup (tup_at (xs := [.int 2]) lLt6 (by show 1 ≤ sizeLine; decide) (.cons ⟨_, rfl⟩ .nil) H) (.cons (.int 2) .nil)) .nil))) .nil))))
  have dS' : ∀ H, Dp K H (.ref Sq) (triD .set) := fun H => (.tup (tup_at (xs := [.ref S0, .ref S1, .ref S2]) lSq (by show 3 ≤ sizeLine; decide) (.cons rfl (.cons rfl (.cons rfl .nil))) H) (.cons (.tup (tup_at (xs := []) lS0 (by show 0 ≤ sizeLine; decide) .nil H) .nil) (.cons (.tup (tup_at (xs := [.ref S3, .ref S4]) lS1 (by show 2 ≤ sizeLine; decide) (.cons rfl (.cons rfl .nil)) H) (.cons (.tup (tup_at (xs := []) lS3 (by show 0 ≤ sizeLine; decide) .nil H) .nil) (.cons (.tup (tup_at (xs := [.int 1]) lS4 (by show 1 ≤ sizeLine; decide) (.cons ⟨_, rfl⟩ .nil) H) (.cons (.int 1) .nil)) .nil))) (.cons (.tup (tup_at (xs := [.ref S5, .ref S6]) lS2 (by show 2 ≤ sizeLine; decide) (.cons rfl (.cons rfl .nil)) H) (.cons (.tup (tup_at (xs := [.int 1]) lS5 (by show 1 ≤ sizeLine; decide) (.cons ⟨_, rfl⟩ .nil) H) (.cons (.int 1) .nil)) (.cons (.tup (tup_at (xs := []) lS6 (by show 0 ≤ sizeLine; decide) .nil H) .nil) .nil))) .nil))))
  have B : PTab K w mg := ⟨⟨pT, PySem.W.mg_of X G gT, ⟨.ref Pq, ⟨es, nT, _, lT, kT, gPq, rfl⟩, dP⟩, ⟨.ref Lq, ⟨es, nT, _, lT, kT, gLq, rfl⟩, dL⟩, ⟨.ref Sq, ⟨es, nT, _, lT, kT, gSq, rfl⟩, dS'⟩⟩⟩
  have E : NoP K mg C CP fI := { g := PySem.W.mg_of X G gC, gP := PySem.W.mg_of X G gP, oex := ⟨⟨nm, q, N, bs, bm, sn, sub, ab, col, dd, m0, m1, m2, m3, m5, xL, xR⟩, sa, eC, tC, kC⟩, init := aI, tI := tI, fd := ⟨_, ⟨ocI, odI, .none, kVI, dcI, pmI, anI, cdI, ctI, slI, rfl, lI, cI, .inl ⟨rfl, rfl⟩, .inl rfl⟩, kI⟩, noW := noW, noA := noA, ga := gaP, rd := rdP, at_ := vP, kB := trivial, exm := exm_own eC iC tC sC }
  have e := hfa.symm.trans (PySem.W.mg_of X G a31)
  cases e
  refine ⟨PySem.W.fnOf "law" "law" (defArgs (topS 46)) (defBody (topS 46)) (defScope (topS 46)) .none kV31 dc31 pm31 an31 cd31 ct31, fun s u => .of_eq rfl, fun base _ _ => ?_⟩
  obtain ⟨f, fd, at_, ok⟩ := ok_lw (P := P) (w := w) (base := base) T B E
  have ef := at_.g.symm.trans hfa
  cases ef
  obtain ⟨oc, od, dV, kV, doc, pm, an, cdv, ct, osl, e1, e2, _⟩ := at_.F.ex
  have e3 := e2.symm.trans l31
  cases e3
  exact ok
end FJ

open PySem PySem.W PyProof.Rows
set_option maxHeartbeats 0
open_top head for PySem.Challenge.rw_forkjoins_k13_whole_any_order_paper
theorem PySem.Challenge.cw_forkjoins_k13_whole_any_order_paper_holds : PySem.Challenge.rw_forkjoins_k13_whole_any_order_paper.Holds := by
  exact head (by
    k_fill
    refine L2.walk_of (l := PySem.Challenge.rw_forkjoins_k13_whole_any_order_paper) (n := 63) (k := 15) (x := "_law_script") (CX := fun _ => L2.CX0) (sp := fun w => FJ.spLw _) rfl (by decide) rfl ⟨rfl, by decide, by decide⟩ (fun w h Y => PySem.W.kIn_of Y) ?F (fun _ _ a ns hl _ hS => ⟨a, ns, rfl, hS, hl, fun _ => rfl⟩) (fun _ _ _ _ _ h => h)
    case F =>
      intro w mg fa h KX G hmg
      refine' FJ.all_mk KX G hmg ?a0 ?l0 ?c0 ?k0 ?a1 ?l1 ?c1 ?k1 ?a2 ?l2 ?c2 ?k2 ?a3 ?l3 ?c3 ?k3 ?a4 ?l4 ?c4 ?k4 ?a5 ?l5 ?c5 ?k5 ?a6 ?l6 ?c6 ?k6 ?a7 ?l7 ?c7 ?k7 ?a8 ?l8 ?c8 ?k8 ?a9 ?l9 ?c9 ?k9 ?a10 ?l10 ?c10 ?k10 ?a11 ?l11 ?c11 ?k11 ?a12 ?l12 ?c12 ?k12 ?a13 ?l13 ?c13 ?k13 ?a14 ?l14 ?c14 ?k14 ?a15 ?l15 ?c15 ?k15 ?a16 ?l16 ?c16 ?k16 ?a17 ?l17 ?c17 ?k17 ?a18 ?l18 ?c18 ?k18 ?a19 ?l19 ?c19 ?k19 ?a20 ?l20 ?c20 ?k20 ?a21 ?l21 ?c21 ?k21 ?a22 ?l22 ?c22 ?k22 ?a23 ?l23 ?c23 ?k23 ?a24 ?l24 ?c24 ?k24 ?a25 ?l25 ?c25 ?k25 ?a26 ?l26 ?c26 ?k26 ?a27 ?l27 ?c27 ?k27 ?a28 ?l28 ?c28 ?k28 ?a29 ?l29 ?c29 ?k29 ?a30 ?l30 ?c30 ?k30 ?a31 ?l31 ?c31 ?k31 ?kw ?gS ?lS ?gM ?z_isinstance ?z_int ?z_bool ?z_str ?z_tuple ?z_list ?z_set ?z_sorted ?z_len ?z_all ?z_zip ?z_max ?z_range ?z_enumerate ?gT ?lT ?kT ?gPq ?lPq ?lP1 ?lP2 ?gLq ?lLq ?lLt0 ?lLt1 ?lLt3 ?lLt4 ?lLt2 ?lLt5 ?lLt6 ?gSq ?lSq ?lS0 ?lS1 ?lS3 ?lS4 ?lS2 ?lS5 ?lS6 ?gC ?gP ?xL ?xR ?sa ?eC ?tC ?kC ?iC ?sC ?aI ?tI ?lI ?cI ?kI ?noW ?noA ?gaP ?rdP ?vP
      (case a0 => k_is)
      (case l0 => k_is)
      (case c0 => k_is)
      (case k0 => k_is)
      (case a1 => k_is)
      (case l1 => k_is)
      (case c1 => k_is)
      (case k1 => k_is)
      (case a2 => k_is)
      (case l2 => k_is)
      (case c2 => k_is)
      (case k2 => k_is)
      (case a3 => k_is)
      (case l3 => k_is)
      (case c3 => k_is)
      (case k3 => k_is)
      (case a4 => k_is)
      (case l4 => k_is)
      (case c4 => k_is)
      (case k4 => k_is)
      (case a5 => k_is)
      (case l5 => k_is)
      (case c5 => k_is)
      (case k5 => k_is)
      (case a6 => k_is)
      (case l6 => k_is)
      (case c6 => k_is)
      (case k6 => k_is)
      (case a7 => k_is)
      (case l7 => k_is)
      (case c7 => k_is)
      (case k7 => k_is)
      (case a8 => k_is)
      (case l8 => k_is)
      (case c8 => k_is)
      (case k8 => k_is)
      (case a9 => k_is)
      (case l9 => k_is)
      (case c9 => k_is)
      (case k9 => k_is)
      (case a10 => k_is)
      (case l10 => k_is)
      (case c10 => k_is)
      (case k10 => k_is)
      (case a11 => k_is)
      (case l11 => k_is)
      (case c11 => k_is)
      (case k11 => k_is)
      (case a12 => k_is)
      (case l12 => k_is)
      (case c12 => k_is)
      (case k12 => k_is)
      (case a13 => k_is)
      (case l13 => k_is)
      (case c13 => k_is)
      (case k13 => k_is)
      (case a14 => k_is)
      (case l14 => k_is)
      (case c14 => k_is)
      (case k14 => k_is)
      (case a15 => k_is)
      (case l15 => k_is)
      (case c15 => k_is)
      (case k15 => k_is)
      (case a16 => k_is)
      (case l16 => k_is)
      (case c16 => k_is)
      (case k16 => k_is)
      (case a17 => k_is)
      (case l17 => k_is)
      (case c17 => k_is)
      (case k17 => k_is)
      (case a18 => k_is)
      (case l18 => k_is)
      (case c18 => k_is)
      (case k18 => k_is)
      (case a19 => k_is)
      (case l19 => k_is)
      (case c19 => k_is)
      (case k19 => k_is)
      (case a20 => k_is)
      (case l20 => k_is)
      (case c20 => k_is)
      (case k20 => k_is)
      (case a21 => k_is)
      (case l21 => k_is)
      (case c21 => k_is)
      (case k21 => k_is)
      (case a22 => k_is)
      (case l22 => k_is)
      (case c22 => k_is)
      (case k22 => k_is)
      (case a23 => k_is)
      (case l23 => k_is)
      (case c23 => k_is)
      (case k23 => k_is)
      (case a24 => k_is)
      (case l24 => k_is)
      (case c24 => k_is)
      (case k24 => k_is)
      (case a25 => k_is)
      (case l25 => k_is)
      (case c25 => k_is)
      (case k25 => k_is)
      (case a26 => k_is)
      (case l26 => k_is)
      (case c26 => k_is)
      (case k26 => k_is)
      (case a27 => k_is)
      (case l27 => k_is)
      (case c27 => k_is)
      (case k27 => k_is)
      (case a28 => k_is)
      (case l28 => k_is)
      (case c28 => k_is)
      (case k28 => k_is)
      (case a29 => k_is)
      (case l29 => k_is)
      (case c29 => k_is)
      (case k29 => k_is)
      (case a30 => k_is)
      (case l30 => k_is)
      (case c30 => k_is)
      (case k30 => k_is)
      (case a31 => k_is)
      (case l31 => k_is)
      (case c31 => k_is)
      (case k31 => k_is)
      (case kw => k_is)
      (case gS => k_is)
      (case lS => k_is)
      (case gM => k_is)
      (case z_isinstance => k_is)
      (case z_int => k_is)
      (case z_bool => k_is)
      (case z_str => k_is)
      (case z_tuple => k_is)
      (case z_list => k_is)
      (case z_set => k_is)
      (case z_sorted => k_is)
      (case z_len => k_is)
      (case z_all => k_is)
      (case z_zip => k_is)
      (case z_max => k_is)
      (case z_range => k_is)
      (case z_enumerate => k_is)
      (case gT => k_is)
      (case lT => k_is)
      (case kT => exact ⟨⟨_, _, rfl, rfl⟩, ⟨_, _, rfl, rfl⟩, ⟨_, _, rfl, rfl⟩, trivial⟩)
      (case gPq => k_is)
      (case lPq => k_is)
      (case lP1 => k_is)
      (case lP2 => k_is)
      (case gLq => k_is)
      (case lLq => k_is)
      (case lLt0 => k_is)
      (case lLt1 => k_is)
      (case lLt3 => k_is)
      (case lLt4 => k_is)
      (case lLt2 => k_is)
      (case lLt5 => k_is)
      (case lLt6 => k_is)
      (case gSq => k_is)
      (case lSq => k_is)
      (case lS0 => k_is)
      (case lS1 => k_is)
      (case lS3 => k_is)
      (case lS4 => k_is)
      (case lS2 => k_is)
      (case lS5 => k_is)
      (case lS6 => k_is)
      (case gC => k_is)
      (case gP => k_is)
      (case xL => k_is)
      (case xR => decide +kernel)
      (case sa => k_is)
      (case eC => k_is)
      (case tC => k_is)
      (case kC => k_is)
      (case iC => k_is)
      (case sC => first | rfl | k_is)
      (case aI => k_is)
      (case tI => k_is)
      (case lI => k_is)
      (case cI => k_is)
      (case kI => k_is)
      (case noW => k_is)
      (case noA => k_is)
      (case gaP => k_is)
      (case rdP => k_is)
      (case vP => k_is))

