import PyProof.Rows.All
import Wide.All
import OpenK.AllK
import Wide.FinOn
import PyProof.EqAt
import PyProof.EqKinds
import PyProof.TupleCall
import Open.SpecLaws
import KE.OsGo
import HandS.ForSpec
import HandS.Comp
import HandS.Iter
import HandS.Walk
import HandS.Deep
import HandS.TupAny
import HandS.Style
import HandS.WideBits
import HandS.ExcInit
import HandS.ExcField
import HandS.Text
import KE.IntBitsLaws
import PyFlatLaws
import PySem.Challenge.RW_conceptaxioms_s01_answers
set_option Elab.async false
set_option linter.all false
set_option maxRecDepth 100000
set_option maxHeartbeats 4000000
/-! The given program keeps the specification: plain lemmas, the text by places, each def walked once, the end. Made by join.py of the same claim. -/
/-! Masks: a set of the numbers below n as one number. -/
namespace Ca
open Oc (C Axiom)
def mk : Nat → (Nat → Bool) → Nat
  | 0, _ => 0
  | n + 1, p => mk n p + (if p n = true then 2 ^ n else 0)
theorem mk_succ (n : Nat) (p : Nat → Bool) : mk (n + 1) p = mk n p + (if p n = true then 2 ^ n else 0) := rfl
theorem mk_zero (p : Nat → Bool) : mk 0 p = 0 := rfl
theorem mk_lt (p : Nat → Bool) : ∀ n, mk n p < 2 ^ n
  | 0 => Nat.one_pos
  | n + 1 => by
    have ih := mk_lt p n
    rw [mk_succ]
    rw [Nat.pow_succ]
    split <;> omega
theorem mk_bit (p : Nat → Bool) (t : Nat) : ∀ n, (mk n p).testBit t = (decide (t < n) && p t)
  | 0 => by simp [mk]
  | n + 1 => by
    have ih := mk_bit p t n
    have hl := mk_lt p n
    rw [mk_succ]
    by_cases hp : p n = true
    · rw [if_pos hp, Nat.add_comm]
      rcases Nat.lt_trichotomy t n with h | h | h
      · rw [Nat.testBit_two_pow_add_gt h, ih]
        have a : t < n + 1 := by omega
        simp [h, a]
      · subst h
        rw [Nat.testBit_two_pow_add_eq, ih]
        simp [hp]
      · have a : ¬ t < n + 1 := by omega
        have b : (2 ^ n + mk n p) < 2 ^ t := by
          have : 2 ^ (n + 1) ≤ 2 ^ t := Nat.pow_le_pow_right (by decide) h
          rw [Nat.pow_succ] at this
          omega
        rw [Nat.testBit_lt_two_pow b]
        simp [a]
    · rw [if_neg hp, Nat.add_zero, ih]
      rcases Nat.lt_trichotomy t n with h | h | h
      · have a : t < n + 1 := by omega
        simp [h, a]
      · subst h
        have e : p t = false := by simpa using hp
        simp [e]
      · have a : ¬ t < n + 1 := by omega
        have b : ¬ t < n := by omega
        simp [a, b]
theorem mk_ext {n : Nat} {p q : Nat → Bool} (h : ∀ t, t < n → p t = q t) : mk n p = mk n q := by
  apply Nat.eq_of_testBit_eq
  intro i
  rw [mk_bit, mk_bit]
  by_cases hi : i < n
  · rw [h i hi]
  · simp [hi]
theorem mk_inj {n : Nat} {p q : Nat → Bool} (h : mk n p = mk n q) : ∀ t, t < n → p t = q t := fun t ht => by
  have e : (mk n p).testBit t = (mk n q).testBit t := by rw [h]
  rw [mk_bit, mk_bit] at e
  simpa [ht] using e
theorem mk_and (n : Nat) (p q : Nat → Bool) : mk n p &&& mk n q = mk n (fun t => p t && q t) := by
  apply Nat.eq_of_testBit_eq
  intro i
  rw [Nat.testBit_and, mk_bit, mk_bit, mk_bit]
  cases decide (i < n) <;> simp
theorem mk_or (n : Nat) (p q : Nat → Bool) : mk n p ||| mk n q = mk n (fun t => p t || q t) := by
  apply Nat.eq_of_testBit_eq
  intro i
  rw [Nat.testBit_or, mk_bit, mk_bit, mk_bit]
  cases decide (i < n) <;> simp
theorem mk_true : ∀ n, mk n (fun _ => true) = 2 ^ n - 1
  | 0 => by decide
  | n + 1 => by
    rw [mk_succ, mk_true n, if_pos rfl, Nat.pow_succ]
    have : 0 < 2 ^ n := Nat.pow_pos (by decide)
    omega
theorem mk_false (n : Nat) : mk n (fun _ => false) = 0 := by
  apply Nat.eq_of_testBit_eq
  intro i
  rw [mk_bit]
  simp
/-- all the others -/
theorem mk_not : ∀ (n : Nat) (p : Nat → Bool), mk n p + mk n (fun t => !p t) = mk n (fun _ => true)
  | 0, _ => by simp [mk]
  | n + 1, p => by
    have ih := mk_not n p
    rw [mk_succ, mk_succ, mk_succ]
    cases hp : p n <;> simp [hp] <;> omega
theorem mk_eq_zero {n : Nat} {p : Nat → Bool} : mk n p = 0 ↔ (List.range n).any p = false := by
  constructor
  · intro h
    rw [List.any_eq_false]
    intro t ht
    have e := mk_bit p t n
    rw [h] at e
    have l := List.mem_range.mp ht
    simpa [l] using e
  · intro h
    rw [List.any_eq_false] at h
    rw [← mk_false n]
    apply mk_ext
    intro t ht
    simpa using h t (List.mem_range.mpr ht)
theorem bit_eq (m k : Nat) : Oc.bit m k = m.testBit k := by
  rw [Nat.testBit_eq_decide_div_mod_eq]
  unfold Oc.bit
  by_cases h : m / 2 ^ k % 2 = 1
  · simp [h]
  · simp [h]
/-- the sum of the powers over the members -/
theorem mk_sum (p : Nat → Bool) : ∀ n, (((List.range n).filter p).map fun k => 2 ^ k).sum = mk n p
  | 0 => by simp [mk]
  | n + 1 => by
    have ih := mk_sum p n
    rw [List.range_succ, List.filter_append, List.map_append, List.sum_append_nat, ih]
    rw [mk_succ]
    cases hp : p n <;> simp [hp]
theorem mk_sumI (p : Nat → Bool) (n : Nat) : (((List.range n).filter p).map fun k => (2 : Int) ^ k).sum = ((mk n p : Nat) : Int) := by
  rw [← mk_sum p n]
  generalize (List.range n).filter p = l
  induction l with
  | nil => rfl
  | cons x r ih =>
    rw [List.map_cons, List.map_cons, List.sum_cons, List.sum_cons, ih]
    simp
theorem range_filter {L n : Nat} {q : Nat → Bool} (h : L ≤ n) (hq : ∀ t, L ≤ t → t < n → q t = false) : (List.range L).filter q = (List.range n).filter q := by
  obtain ⟨d, rfl⟩ := Nat.le.dest h
  induction d with
  | zero => rfl
  | succ d ih =>
    have e := ih (by omega) (fun t a b => hq t a (by omega))
    rw [e, ← Nat.add_assoc, List.range_succ, List.filter_append]
    have z := hq (L + d) (by omega) (by omega)
    simp [z]
/-- the members of a mask, counted up to its length -/
theorem members_eq {L n s : Nat} (h : L ≤ n) (hs : s < 2 ^ L) : (List.range L).filter (fun t => s.testBit t) = (List.range n).filter (fun t => s.testBit t) :=
  range_filter h fun t a _ => Nat.testBit_lt_two_pow (Nat.lt_of_lt_of_le hs (Nat.pow_le_pow_right (by decide) a))
theorem mk_members (n : Nat) (p : Nat → Bool) : (List.range n).filter (fun t => (mk n p).testBit t) = (List.range n).filter p := by
  apply List.filter_congr
  intro t ht
  rw [mk_bit]
  simp [List.mem_range.mp ht]
theorem filter_head (l : List Nat) (p q : Nat → Bool) : (l.filter fun t => p t && q t).head? = (l.filter p).find? q := by
  induction l with
  | nil => rfl
  | cons a r ih =>
    cases hp : p a <;> cases hq : q a <;> simp [List.filter_cons, List.find?_cons, hp, hq, ih]
end Ca
namespace Ca
open Oc (C Axiom)
def dep : C → Nat
  | .top => 1
  | .bot => 1
  | .name _ => 1
  | .and c d => 1 + max (dep c) (dep d)
  | .or c d => 1 + max (dep c) (dep d)
  | .not c => 1 + dep c
  | .some _ c => 1 + dep c
  | .all _ c => 1 + dep c
/-- the names of a concept are below 4 -/
def okn : C → Prop
  | .top => True
  | .bot => True
  | .name a => a < 4
  | .and c d => okn c ∧ okn d
  | .or c d => okn c ∧ okn d
  | .not c => okn c
  | .some _ c => okn c
  | .all _ c => okn c
def readMany (n : Nat) : Nat → List Nat → Option (List C × List Nat)
  | 0, l => some ([], l)
  | k + 1, l => match readMany n k l with
    | none => none
    | some (cs, r) => match Oc.read n r with
      | none => none
      | some (c, r') => some (cs ++ [c], r')
theorem rm_zero (n : Nat) (l : List Nat) : readMany n 0 l = some ([], l) := rfl
theorem rm_none {n k : Nat} {l : List Nat} (h : readMany n k l = none) : readMany n (k + 1) l = none := by
  unfold readMany
  rw [h]
theorem rm_none' {n k m : Nat} {l : List Nat} (h : readMany n k l = none) (hk : k ≤ m) : readMany n m l = none := by
  induction m with
  | zero =>
    have : k = 0 := by omega
    subst this; exact h
  | succ m ih =>
    by_cases e : k = m + 1
    · subst e; exact h
    · exact rm_none (ih (by omega))
theorem rm_stop {n k : Nat} {l : List Nat} {cs : List C} {r : List Nat} (h : readMany n k l = some (cs, r)) (g : Oc.read n r = none) : readMany n (k + 1) l = none := by
  unfold readMany
  rw [h]
  dsimp only
  rw [g]
theorem rm_more {n k : Nat} {l : List Nat} {cs : List C} {r r' : List Nat} {c : C} (h : readMany n k l = some (cs, r)) (g : Oc.read n r = some (c, r')) : readMany n (k + 1) l = some (cs ++ [c], r') := by
  unfold readMany
  rw [h]
  dsimp only
  rw [g]
theorem rm_one (n : Nat) (l : List Nat) : readMany n 1 l = (Oc.read n l).map fun x => ([x.1], x.2) := by
  cases h : Oc.read n l with
  | none => exact rm_stop (rm_zero n l) h
  | some x => exact rm_more (rm_zero n l) h
theorem rm_two (n : Nat) (l : List Nat) : readMany n 2 l = match Oc.read n l with
    | none => none
    | some x => (Oc.read n x.2).map fun y => ([x.1, y.1], y.2) := by
  cases h : Oc.read n l with
  | none => exact rm_none (rm_stop (rm_zero n l) h)
  | some x =>
    dsimp only
    have e := rm_more (rm_zero n l) h
    cases g : Oc.read n x.2 with
    | none => exact rm_stop e g
    | some y => exact rm_more e g
theorem read_nil (n : Nat) : Oc.read n [] = none := by cases n <;> rfl
theorem read_0 (n : Nat) (r : List Nat) : Oc.read (n + 1) (0 :: r) = some (.top, r) := rfl
theorem read_1 (n : Nat) (r : List Nat) : Oc.read (n + 1) (1 :: r) = some (.bot, r) := rfl
theorem read_2 (n a : Nat) (r : List Nat) : Oc.read (n + 1) (2 :: a :: r) = if a < 4 then some (.name a, r) else none := rfl
theorem read_2n (n : Nat) : Oc.read (n + 1) [2] = none := rfl
theorem read_3 (n : Nat) (r : List Nat) : Oc.read (n + 1) (3 :: r) = match Oc.read n r with
      | none => none
      | some x => (Oc.read n x.2).map fun y => (.and x.1 y.1, y.2) := rfl
theorem read_4 (n : Nat) (r : List Nat) : Oc.read (n + 1) (4 :: r) = match Oc.read n r with
      | none => none
      | some x => (Oc.read n x.2).map fun y => (.or x.1 y.1, y.2) := rfl
theorem read_5 (n : Nat) (r : List Nat) : Oc.read (n + 1) (5 :: r) = (Oc.read n r).map fun x => (.not x.1, x.2) := rfl
theorem read_6 (n k : Nat) (r : List Nat) : Oc.read (n + 1) (6 :: k :: r) = if k < 2 then (Oc.read n r).map fun x => (.some k x.1, x.2) else none := rfl
theorem read_6n (n : Nat) : Oc.read (n + 1) [6] = none := rfl
theorem read_7 (n k : Nat) (r : List Nat) : Oc.read (n + 1) (7 :: k :: r) = if k < 2 then (Oc.read n r).map fun x => (.all k x.1, x.2) else none := rfl
theorem read_7n (n : Nat) : Oc.read (n + 1) [7] = none := rfl
theorem read_8 (n w : Nat) (r : List Nat) : Oc.read (n + 1) ((w + 8) :: r) = none := rfl
/-- every way of reading -/
theorem read_induct (P : Nat → List Nat → Prop) (hz : ∀ l, P 0 l) (hn : ∀ n, P (n + 1) [])
    (h0 : ∀ n r, P (n + 1) (0 :: r)) (h1 : ∀ n r, P (n + 1) (1 :: r)) (h2 : ∀ n a r, P (n + 1) (2 :: a :: r)) (h2n : ∀ n, P (n + 1) [2])
    (h3 : ∀ n r, (∀ r, P n r) → P (n + 1) (3 :: r)) (h4 : ∀ n r, (∀ r, P n r) → P (n + 1) (4 :: r)) (h5 : ∀ n r, (∀ r, P n r) → P (n + 1) (5 :: r))
    (h6 : ∀ n k r, (∀ r, P n r) → P (n + 1) (6 :: k :: r)) (h6n : ∀ n, P (n + 1) [6]) (h7 : ∀ n k r, (∀ r, P n r) → P (n + 1) (7 :: k :: r)) (h7n : ∀ n, P (n + 1) [7])
    (h8 : ∀ n w r, P (n + 1) ((w + 8) :: r)) : ∀ n l, P n l := by
  intro n
  induction n with
  | zero => exact hz
  | succ n ih =>
    intro l
    match l with
    | [] => exact hn n
    | 0 :: r => exact h0 n r
    | 1 :: r => exact h1 n r
    | 2 :: a :: r => exact h2 n a r
    | [2] => exact h2n n
    | 3 :: r => exact h3 n r ih
    | 4 :: r => exact h4 n r ih
    | 5 :: r => exact h5 n r ih
    | 6 :: k :: r => exact h6 n k r ih
    | [6] => exact h6n n
    | 7 :: k :: r => exact h7 n k r ih
    | [7] => exact h7n n
    | (w + 8) :: r => exact h8 n w r
/-- what is read: a part of the list, its size, its names -/
structure Got (l : List Nat) (c : C) (r : List Nat) : Prop where
  cut : ∃ k, 0 < k ∧ k ≤ l.length ∧ r = l.drop k
  size : dep c + r.length ≤ l.length
  okn : okn c
  ats : c.atoms.length + r.length ≤ l.length
theorem Got.len {l : List Nat} {c : C} {r : List Nat} (g : Got l c r) : r.length < l.length := by
  obtain ⟨k, h1, h2, rfl⟩ := g.cut
  rw [List.length_drop]; omega
theorem got : ∀ n l c r, Oc.read n l = some (c, r) → Got l c r := by
  refine read_induct (fun n l => ∀ c r, Oc.read n l = some (c, r) → Got l c r) ?_ ?_ ?_ ?_ ?_ ?_ ?_ ?_ ?_ ?_ ?_ ?_ ?_ ?_
  · intro l c r h; cases h
  · intro n c r h; cases h
  · intro n r c s h; cases h; exact ⟨⟨1, by decide, by simp, rfl⟩, by simp [dep]; omega, trivial, by simp [C.atoms]⟩
  · intro n r c s h; cases h; exact ⟨⟨1, by decide, by simp, rfl⟩, by simp [dep]; omega, trivial, by simp [C.atoms]⟩
  · intro n a r c s h
    rw [read_2] at h
    split at h
    · rename_i ha
      cases h; exact ⟨⟨2, by decide, by simp, rfl⟩, by simp [dep]; omega, ha, by simp [C.atoms]; omega⟩
    · cases h
  · intro n c r h; cases h
  all_goals try (intro n c r h; cases h; done)
  · intro n r ih c s h
    rw [read_3] at h
    cases e : Oc.read n r with
    | none => rw [e] at h; cases h
    | some x =>
      obtain ⟨c1, r1⟩ := x
      rw [e] at h
      dsimp only at h
      cases e2 : Oc.read n r1 with
      | none => rw [e2] at h; cases h
      | some y =>
        obtain ⟨c2, r2⟩ := y
        rw [e2] at h
        cases h
        have g1 := ih r _ _ e
        have g2 := ih r1 _ _ e2
        obtain ⟨k1, a1, b1, d1⟩ := g1.cut
        obtain ⟨k2, a2, b2, d2⟩ := g2.cut
        have s1 := g1.size
        have s2 := g2.size
        have l1 := g1.len
        have t1 := g1.ats
        have t2 := g2.ats
        refine ⟨⟨k1 + k2 + 1, by omega, ?_, ?_⟩, ?_, ⟨g1.okn, g2.okn⟩, by simp only [C.atoms, List.length_append, List.length_cons]; omega⟩
        · subst d1; rw [List.length_drop] at b2; rw [List.length_cons]; omega
        · rw [d2, d1, List.drop_drop, List.drop_succ_cons]
        · simp only [dep, List.length_cons]; omega
  · intro n r ih c s h
    rw [read_4] at h
    cases e : Oc.read n r with
    | none => rw [e] at h; cases h
    | some x =>
      obtain ⟨c1, r1⟩ := x
      rw [e] at h
      dsimp only at h
      cases e2 : Oc.read n r1 with
      | none => rw [e2] at h; cases h
      | some y =>
        obtain ⟨c2, r2⟩ := y
        rw [e2] at h
        cases h
        have g1 := ih r _ _ e
        have g2 := ih r1 _ _ e2
        obtain ⟨k1, a1, b1, d1⟩ := g1.cut
        obtain ⟨k2, a2, b2, d2⟩ := g2.cut
        have s1 := g1.size
        have s2 := g2.size
        have l1 := g1.len
        have t1 := g1.ats
        have t2 := g2.ats
        refine ⟨⟨k1 + k2 + 1, by omega, ?_, ?_⟩, ?_, ⟨g1.okn, g2.okn⟩, by simp only [C.atoms, List.length_append, List.length_cons]; omega⟩
        · subst d1; rw [List.length_drop] at b2; rw [List.length_cons]; omega
        · rw [d2, d1, List.drop_drop, List.drop_succ_cons]
        · simp only [dep, List.length_cons]; omega
  · intro n r ih c s h
    rw [read_5] at h
    cases e : Oc.read n r with
    | none => rw [e] at h; cases h
    | some x =>
      obtain ⟨c1, r1⟩ := x
      rw [e] at h
      cases h
      have g1 := ih r _ _ e
      obtain ⟨k1, a1, b1, d1⟩ := g1.cut
      have s1 := g1.size
      refine ⟨⟨k1 + 1, by omega, by simp; omega, by rw [d1, List.drop_succ_cons]⟩, by simp only [dep, List.length_cons]; omega, g1.okn, by have t1 := g1.ats; simp only [C.atoms, List.length_cons]; omega⟩
  · intro n k r ih c s h
    rw [read_6] at h
    split at h
    · cases e : Oc.read n r with
      | none => rw [e] at h; cases h
      | some x =>
        obtain ⟨c1, r1⟩ := x
        rw [e] at h
        cases h
        have g1 := ih r _ _ e
        obtain ⟨k1, a1, b1, d1⟩ := g1.cut
        have s1 := g1.size
        refine ⟨⟨k1 + 2, by omega, by simp; omega, by rw [d1]; rfl⟩, by simp only [dep, List.length_cons]; omega, g1.okn, by have t1 := g1.ats; simp only [C.atoms, List.length_cons]; omega⟩
    · cases h
  · intro n k r ih c s h
    rw [read_7] at h
    split at h
    · cases e : Oc.read n r with
      | none => rw [e] at h; cases h
      | some x =>
        obtain ⟨c1, r1⟩ := x
        rw [e] at h
        cases h
        have g1 := ih r _ _ e
        obtain ⟨k1, a1, b1, d1⟩ := g1.cut
        have s1 := g1.size
        refine ⟨⟨k1 + 2, by omega, by simp; omega, by rw [d1]; rfl⟩, by simp only [dep, List.length_cons]; omega, g1.okn, by have t1 := g1.ats; simp only [C.atoms, List.length_cons]; omega⟩
    · cases h
  · intro n w r c s h; cases h
/-- enough fuel -/
theorem read_fuel : ∀ n l m, l.length < n → l.length < m → Oc.read n l = Oc.read m l := by
  have up : ∀ {l : List Nat} {m : Nat}, l.length < m → ∃ m', m = m' + 1 := fun {l m} h => ⟨m - 1, by omega⟩
  refine read_induct (fun n l => ∀ m, l.length < n → l.length < m → Oc.read n l = Oc.read m l) ?_ ?_ ?_ ?_ ?_ ?_ ?_ ?_ ?_ ?_ ?_ ?_ ?_ ?_
  · intro l m h; omega
  · intro n m h g; rw [read_nil, read_nil]
  · intro n r m h g; obtain ⟨m, rfl⟩ := up g; rfl
  · intro n r m h g; obtain ⟨m, rfl⟩ := up g; rfl
  · intro n a r m h g; obtain ⟨m, rfl⟩ := up g; rfl
  · intro n m h g; obtain ⟨m, rfl⟩ := up g; rfl
  · intro n r ih m h g
    obtain ⟨m, rfl⟩ := up g
    rw [List.length_cons] at h g
    have e := ih r m (by omega) (by omega)
    rw [read_3, read_3, ← e]
    cases q : Oc.read n r with
    | none => rfl
    | some x =>
      have l1 := (got n r x.1 x.2 q).len
      have e2 := ih x.2 m (by omega) (by omega)
      dsimp only
      rw [e2]
  · intro n r ih m h g
    obtain ⟨m, rfl⟩ := up g
    rw [List.length_cons] at h g
    have e := ih r m (by omega) (by omega)
    rw [read_4, read_4, ← e]
    cases q : Oc.read n r with
    | none => rfl
    | some x =>
      have l1 := (got n r x.1 x.2 q).len
      have e2 := ih x.2 m (by omega) (by omega)
      dsimp only
      rw [e2]
  · intro n r ih m h g
    obtain ⟨m, rfl⟩ := up g
    rw [List.length_cons] at h g
    rw [read_5, read_5, ih r m (by omega) (by omega)]
  · intro n k r ih m h g
    obtain ⟨m, rfl⟩ := up g
    rw [List.length_cons, List.length_cons] at h g
    rw [read_6, read_6, ih r m (by omega) (by omega)]
  · intro n m h g; obtain ⟨m, rfl⟩ := up g; rfl
  · intro n k r ih m h g
    obtain ⟨m, rfl⟩ := up g
    rw [List.length_cons, List.length_cons] at h g
    rw [read_7, read_7, ih r m (by omega) (by omega)]
  · intro n m h g; obtain ⟨m, rfl⟩ := up g; rfl
  · intro n w r m h g; obtain ⟨m, rfl⟩ := up g; rfl
/-- one concept, two concepts, with fuel 31 -/
theorem concept_31 {l : List Nat} (h : l.length ≤ 30) : Oc.concept l = match readMany 31 1 l with
    | some ([c], []) => some c
    | _ => none := by
  rw [rm_one, read_fuel 31 l (l.length + 1) (by omega) (by omega)]
  unfold Oc.concept
  cases Oc.read (l.length + 1) l with
  | none => rfl
  | some x => obtain ⟨c, r⟩ := x; cases r <;> rfl
theorem two_31 {l : List Nat} (h : l.length ≤ 30) : Oc.two l = match readMany 31 2 l with
    | some ([c, d], []) => some (c, d)
    | _ => none := by
  rw [rm_two, read_fuel 31 l (l.length + 1) (by omega) (by omega)]
  unfold Oc.two
  cases e : Oc.read (l.length + 1) l with
  | none => rfl
  | some x =>
    obtain ⟨c, r⟩ := x
    have l1 := (got _ _ _ _ e).len
    dsimp only at l1 ⊢
    unfold Oc.concept
    rw [read_fuel 31 r (r.length + 1) (by omega) (by omega)]
    cases Oc.read (r.length + 1) r with
    | none => rfl
    | some y => obtain ⟨d, s⟩ := y; cases s <;> rfl
theorem rm_len {n : Nat} : ∀ {k : Nat} {l : List Nat} {cs : List C} {r : List Nat}, readMany n k l = some (cs, r) → cs.length = k
  | 0, l, cs, r, h => by cases h; rfl
  | k + 1, l, cs, r, h => by
    cases e : readMany n k l with
    | none => rw [rm_none e] at h; cases h
    | some x =>
      obtain ⟨cs', r'⟩ := x
      cases e2 : Oc.read n r' with
      | none => rw [rm_stop e e2] at h; cases h
      | some y =>
        obtain ⟨c, r2⟩ := y
        rw [rm_more e e2] at h
        cases h
        rw [List.length_append, rm_len e]; rfl
/-- what is read in all -/
theorem rm_got {n : Nat} : ∀ {k : Nat} {l : List Nat} {cs : List C} {r : List Nat}, readMany n k l = some (cs, r) → (∃ j, j ≤ l.length ∧ r = l.drop j) ∧ ∀ c ∈ cs, dep c ≤ l.length ∧ okn c ∧ c.atoms.length ≤ l.length
  | 0, l, cs, r, h => by cases h; exact ⟨⟨0, Nat.zero_le _, rfl⟩, by simp⟩
  | k + 1, l, cs, r, h => by
    cases e : readMany n k l with
    | none => rw [rm_none e] at h; cases h
    | some x =>
      obtain ⟨cs', r'⟩ := x
      cases e2 : Oc.read n r' with
      | none => rw [rm_stop e e2] at h; cases h
      | some y =>
        obtain ⟨c, r2⟩ := y
        rw [rm_more e e2] at h
        cases h
        obtain ⟨⟨j, hj, rfl⟩, hc⟩ := rm_got e
        have g := got _ _ _ _ e2
        obtain ⟨k2, a2, b2, rfl⟩ := g.cut
        rw [List.length_drop] at b2
        refine ⟨⟨j + k2, by omega, by rw [List.drop_drop]⟩, fun d hd => ?_⟩
        rcases List.mem_append.mp hd with hd | hd
        · exact hc d hd
        · rw [List.mem_singleton] at hd
          subst hd
          have s := g.size
          have s2 := g.ats
          rw [List.length_drop] at s s2
          exact ⟨by omega, g.okn, by omega⟩
/-! ### atoms -/
def parts : C → List C
  | .and c d => [c, d]
  | .or c d => [c, d]
  | .not c => [c]
  | .some _ c => [c]
  | .all _ c => [c]
  | _ => []
def isAtom : C → Bool
  | .name _ => true
  | .some _ _ => true
  | .all _ _ => true
  | _ => false
theorem atoms_eq (c : C) : c.atoms = (if isAtom c = true then [c] else []) ++ (parts c).flatMap C.atoms := by
  cases c <;> simp [C.atoms, parts, isAtom]
theorem dep_pos (c : C) : 1 ≤ dep c := by cases c <;> simp [dep] <;> omega
theorem parts_dep {c d : C} (h : d ∈ parts c) : dep d < dep c := by
  cases c <;> simp [parts] at h <;> (first | (rcases h with rfl | rfl) | subst h) <;> simp [dep] <;> omega
theorem parts_okn {c d : C} (h : d ∈ parts c) (o : okn c) : okn d := by
  cases c with
  | and _ _ => simp [parts] at h; rcases h with rfl | rfl; exact o.1; exact o.2
  | or _ _ => simp [parts] at h; rcases h with rfl | rfl; exact o.1; exact o.2
  | not _ => simp [parts] at h; subst h; exact o
  | some _ _ => simp [parts] at h; subst h; exact o
  | all _ _ => simp [parts] at h; subst h; exact o
  | _ => simp [parts] at h
/-- an atom of a concept -/
theorem atoms_facts : ∀ (c : C) {x : C}, x ∈ c.atoms → isAtom x = true ∧ dep x ≤ dep c ∧ (okn c → okn x) ∧ (∀ y ∈ x.atoms, y ∈ c.atoms)
  | .top, _, h => by simp [C.atoms] at h
  | .bot, _, h => by simp [C.atoms] at h
  | .name a, x, h => by
    simp [C.atoms] at h
    subst h
    exact ⟨rfl, Nat.le_refl _, fun o => o, fun y hy => hy⟩
  | .and c d, x, h => by
    simp only [C.atoms, List.mem_append] at h
    rcases h with h | h
    · obtain ⟨a1, a2, a3, a4⟩ := atoms_facts c h
      exact ⟨a1, by simp only [dep]; omega, fun o => a3 o.1, fun y hy => by simp only [C.atoms, List.mem_append]; exact .inl (a4 y hy)⟩
    · obtain ⟨a1, a2, a3, a4⟩ := atoms_facts d h
      exact ⟨a1, by simp only [dep]; omega, fun o => a3 o.2, fun y hy => by simp only [C.atoms, List.mem_append]; exact .inr (a4 y hy)⟩
  | .or c d, x, h => by
    simp only [C.atoms, List.mem_append] at h
    rcases h with h | h
    · obtain ⟨a1, a2, a3, a4⟩ := atoms_facts c h
      exact ⟨a1, by simp only [dep]; omega, fun o => a3 o.1, fun y hy => by simp only [C.atoms, List.mem_append]; exact .inl (a4 y hy)⟩
    · obtain ⟨a1, a2, a3, a4⟩ := atoms_facts d h
      exact ⟨a1, by simp only [dep]; omega, fun o => a3 o.2, fun y hy => by simp only [C.atoms, List.mem_append]; exact .inr (a4 y hy)⟩
  | .not c, x, h => by
    simp only [C.atoms] at h
    obtain ⟨a1, a2, a3, a4⟩ := atoms_facts c h
    exact ⟨a1, by simp only [dep]; omega, fun o => a3 o, fun y hy => by simp only [C.atoms]; exact a4 y hy⟩
  | .some r c, x, h => by
    simp only [C.atoms, List.mem_cons] at h
    rcases h with h | h
    · subst h
      exact ⟨rfl, Nat.le_refl _, fun o => o, fun y hy => hy⟩
    · obtain ⟨a1, a2, a3, a4⟩ := atoms_facts c h
      exact ⟨a1, by simp only [dep]; omega, fun o => a3 o, fun y hy => by simp only [C.atoms, List.mem_cons]; exact .inr (a4 y hy)⟩
  | .all r c, x, h => by
    simp only [C.atoms, List.mem_cons] at h
    rcases h with h | h
    · subst h
      exact ⟨rfl, Nat.le_refl _, fun o => o, fun y hy => hy⟩
    · obtain ⟨a1, a2, a3, a4⟩ := atoms_facts c h
      exact ⟨a1, by simp only [dep]; omega, fun o => a3 o, fun y hy => by simp only [C.atoms, List.mem_cons]; exact .inr (a4 y hy)⟩
/-- small enough for the program's lists and tuples -/
structure Okc (c : C) : Prop where
  dep : dep c ≤ 40
  okn : okn c
  ats : c.atoms.length ≤ 60
/-- one step of distinct -/
def put1 (m : List C) (c : C) : List C := if m.contains c = true then m else m ++ [c]
theorem distinct_eq (l : List C) : Oc.distinct l = l.foldl put1 [] := rfl
theorem put1_in {m : List C} {c : C} (h : c ∈ m) : put1 m c = m := by
  unfold put1
  rw [if_pos (by simpa using h)]
theorem put1_out {m : List C} {c : C} (h : c ∉ m) : put1 m c = m ++ [c] := by
  unfold put1
  rw [if_neg (by simpa using h)]
theorem put1_mem {m : List C} {c x : C} : x ∈ put1 m c ↔ x ∈ m ∨ x = c := by
  by_cases h : c ∈ m
  · rw [put1_in h]
    constructor
    · exact .inl
    · rintro (h1 | rfl)
      · exact h1
      · exact h
  · rw [put1_out h]
    simp
theorem put1_nodup {m : List C} {c : C} (h : m.Nodup) : (put1 m c).Nodup := by
  by_cases hc : c ∈ m
  · rw [put1_in hc]; exact h
  · rw [put1_out hc]
    rw [List.nodup_append]
    refine ⟨h, by simp, ?_⟩
    intro a ha b hb e
    simp at hb
    subst hb e
    exact hc ha
theorem put1_len {m : List C} {c : C} : (put1 m c).length ≤ m.length + 1 := by
  by_cases hc : c ∈ m
  · rw [put1_in hc]; omega
  · rw [put1_out hc]; simp
theorem puts_mem : ∀ {l m : List C} {x : C}, x ∈ l.foldl put1 m ↔ x ∈ m ∨ x ∈ l
  | [], m, x => by simp
  | c :: l, m, x => by
    rw [List.foldl_cons, puts_mem, put1_mem, List.mem_cons, or_assoc]
theorem puts_nodup : ∀ {l m : List C}, m.Nodup → (l.foldl put1 m).Nodup
  | [], _, h => h
  | c :: l, m, h => by
    rw [List.foldl_cons]
    exact puts_nodup (put1_nodup h)
theorem puts_len : ∀ {l m : List C}, (l.foldl put1 m).length ≤ m.length + l.length
  | [], m => by simp
  | c :: l, m => by
    have h1 := puts_len (l := l) (m := put1 m c)
    have h2 := put1_len (m := m) (c := c)
    rw [List.foldl_cons, List.length_cons]
    omega
theorem distinct_mem {l : List C} {x : C} : x ∈ Oc.distinct l ↔ x ∈ l := by
  rw [distinct_eq, puts_mem]
  simp
theorem distinct_nodup (l : List C) : (Oc.distinct l).Nodup := puts_nodup (by simp)
theorem atomsOf_mem {l : List C} {x : C} : x ∈ Oc.atomsOf l ↔ ∃ c ∈ l, x ∈ c.atoms := by
  unfold Oc.atomsOf
  rw [distinct_mem, List.mem_flatMap]
theorem atomsOf_take {l : List C} {i : Nat} {c : C} (h : l[i]? = some c) : ((l.take (i + 1)).flatMap C.atoms).foldl put1 [] = c.atoms.foldl put1 (((l.take i).flatMap C.atoms).foldl put1 []) := by
  have e : l.take (i + 1) = l.take i ++ [c] := by
    obtain ⟨hi, e⟩ := List.getElem?_eq_some_iff.mp h
    rw [List.take_add_one, h]; rfl
  rw [e, List.flatMap_append, List.foldl_append]
  simp
theorem flat_mem {d : C} : ∀ {l : List C}, d ∈ l → d.atoms.length ≤ (l.flatMap C.atoms).length
  | x :: r, h => by
    rw [List.flatMap_cons, List.length_append]
    rcases List.mem_cons.mp h with h | h
    · subst h; omega
    · have := flat_mem h
      omega
theorem take_snoc {α : Type} {l : List α} {i : Nat} {x : α} (h : l[i]? = some x) : l.take (i + 1) = l.take i ++ [x] := by
  rw [List.take_add_one, h]; rfl
end Ca
/-! Types: what the spec says of them, over masks. -/
namespace Ca
open Oc (C Axiom)
theorem idx_of {l : List C} {k : Nat} {x : C} (hn : l.Nodup) (h : l[k]? = some x) : l.idxOf? x = some k := by
  unfold List.idxOf?
  rw [List.findIdx?_eq_some_iff_getElem]
  obtain ⟨hk, e⟩ := List.getElem?_eq_some_iff.mp h
  refine ⟨hk, by simp [e], fun j hj => ?_⟩
  simp only [Bool.not_eq_true, beq_eq_false_iff_ne, ne_eq]
  intro e2
  have : j = k := (List.getElem_inj hn).mp (e2.trans e.symm)
  omega
structure WFat (at_ : List C) : Prop where
  nodup : at_.Nodup
  closed : ∀ x ∈ at_, ∀ y ∈ x.atoms, y ∈ at_
  atom : ∀ x ∈ at_, isAtom x = true
  dep : ∀ x ∈ at_, dep x ≤ 40
  okn : ∀ x ∈ at_, okn x
  len : at_.length ≤ 6
theorem wfat_of {cs : List C} (ok : ∀ c ∈ cs, Okc c) (len : (Oc.atomsOf cs).length ≤ 6) : WFat (Oc.atomsOf cs) where
  nodup := distinct_nodup _
  closed := fun x hx y hy => by
    rw [atomsOf_mem] at hx ⊢
    obtain ⟨c, hc, hx⟩ := hx
    exact ⟨c, hc, (atoms_facts c hx).2.2.2 y hy⟩
  atom := fun x hx => by
    rw [atomsOf_mem] at hx
    obtain ⟨c, hc, hx⟩ := hx
    exact (atoms_facts c hx).1
  dep := fun x hx => by
    rw [atomsOf_mem] at hx
    obtain ⟨c, hc, hx⟩ := hx
    have := (atoms_facts c hx).2.1
    have := (ok c hc).dep
    omega
  okn := fun x hx => by
    rw [atomsOf_mem] at hx
    obtain ⟨c, hc, hx⟩ := hx
    exact (atoms_facts c hx).2.2.1 (ok c hc).okn
  len := len
theorem holds_at {at_ : List C} {k t : Nat} {x : C} (hn : at_.Nodup) (h : at_[k]? = some x) (ha : isAtom x = true) : Oc.holds at_ t x = Oc.bit t k := by
  have e := idx_of hn h
  cases x with
  | name a => simp only [Oc.holds, e]
  | some r c => simp only [Oc.holds, e]
  | all r c => simp only [Oc.holds, e]
  | _ => cases ha
/-- the atoms that have to be supported -/
def needX (b : Bool) : C → Bool
  | .some _ _ => b
  | .all _ _ => !b
  | _ => false
def suppX (at_ : List C) (t : Nat) : C → Nat → Bool
  | .some r c => fun u => Oc.fits at_ r t u && Oc.holds at_ u c
  | .all r c => fun u => Oc.fits at_ r t u && !Oc.holds at_ u c
  | _ => fun _ => false
def needK (at_ : List C) (t k : Nat) : Bool := match at_[k]? with
  | some x => needX (Oc.bit t k) x
  | none => false
def suppK (at_ : List C) (t k : Nat) : Nat → Bool := match at_[k]? with
  | some x => suppX at_ t x
  | none => fun _ => false
/-- the numbers of the atoms that have to be supported -/
def needs_ (at_ : List C) (t : Nat) : List Nat := (List.range at_.length).filter (needK at_ t)
def fitF (at_ : List C) (r t u : Nat) (x : C) : Bool := match x with
  | .some s c => s != r || (Oc.holds at_ t x || !Oc.holds at_ u c)
  | .all s c => s != r || (!Oc.holds at_ t x || Oc.holds at_ u c)
  | _ => true
theorem fits_eq (at_ : List C) (r t u : Nat) : Oc.fits at_ r t u = at_.all (fitF at_ r t u) := rfl
def borneF (at_ : List C) (l : List Nat) (t : Nat) (x : C) : Bool := match x with
  | .some r c => !Oc.holds at_ t x || l.any fun u => Oc.fits at_ r t u && Oc.holds at_ u c
  | .all r c => Oc.holds at_ t x || l.any fun u => Oc.fits at_ r t u && !Oc.holds at_ u c
  | _ => true
theorem borne_eq (at_ : List C) (l : List Nat) (t : Nat) : Oc.borne at_ l t = at_.all (borneF at_ l t) := rfl
theorem borneF_at {at_ : List C} (w : WFat at_) {k t : Nat} {x : C} (l : List Nat) (h : at_[k]? = some x) : borneF at_ l t x = (!needK at_ t k || l.any (suppK at_ t k)) := by
  have hx := w.atom x (List.mem_of_getElem? h)
  have e := holds_at (t := t) w.nodup h hx
  unfold needK suppK
  rw [h]
  cases x with
  | name a => rfl
  | some r c => show (!Oc.holds at_ t (.some r c) || _) = _; rw [e]; rfl
  | all r c => show (Oc.holds at_ t (.all r c) || _) = _; rw [e]; simp [needX, suppX]
  | _ => cases hx
theorem all_range {at_ : List C} (f : C → Bool) (g : Nat → Bool) (h : ∀ k x, at_[k]? = some x → f x = g k) : at_.all f = (List.range at_.length).all g := by
  rw [Bool.eq_iff_iff, List.all_eq_true, List.all_eq_true]
  constructor
  · intro a k hk
    have hk' := List.mem_range.mp hk
    rw [← h k at_[k] (List.getElem?_eq_getElem hk')]
    exact a _ (List.getElem_mem hk')
  · intro a x hx
    obtain ⟨k, hk, e⟩ := List.getElem_of_mem hx
    rw [h k x (by rw [List.getElem?_eq_getElem hk, e])]
    exact a k (List.mem_range.mpr hk)
theorem borne_needs {at_ : List C} (w : WFat at_) (l : List Nat) (t : Nat) : Oc.borne at_ l t = (needs_ at_ t).all fun k => l.any (suppK at_ t k) := by
  rw [borne_eq, all_range _ (fun k => !needK at_ t k || l.any (suppK at_ t k)) fun k x h => borneF_at w l h]
  unfold needs_
  rw [List.all_filter]
/-- the kinds below n of a set -/
def Lof (n : Nat) (p : Nat → Bool) : List Nat := (List.range n).filter p
theorem Lof_any (n : Nat) (p q : Nat → Bool) : (Lof n p).any q = (List.range n).any fun t => p t && q t := by
  unfold Lof
  rw [List.any_filter]
theorem Lof_ext {n : Nat} {p q : Nat → Bool} (h : ∀ t, t < n → p t = q t) : Lof n p = Lof n q := by
  unfold Lof
  apply List.filter_congr
  intro t ht
  exact h t (List.mem_range.mp ht)
theorem Lof_mem {n t : Nat} {p : Nat → Bool} : t ∈ Lof n p ↔ t < n ∧ p t = true := by
  unfold Lof
  rw [List.mem_filter, List.mem_range]
theorem Lof_nodup (n : Nat) (p : Nat → Bool) : (Lof n p).Nodup := List.Nodup.sublist List.filter_sublist List.nodup_range
theorem Lof_len (n : Nat) (p : Nat → Bool) : (Lof n p).length ≤ n := by
  have h := List.length_filter_le p (List.range n)
  rw [List.length_range] at h
  exact h
theorem Lof_of_mk {n : Nat} {p q : Nat → Bool} (h : mk n p = mk n q) : Lof n p = Lof n q := Lof_ext (mk_inj h)
theorem mk_of_Lof {n : Nat} {p q : Nat → Bool} (h : Lof n p = Lof n q) : mk n p = mk n q := by
  apply mk_ext
  intro t ht
  have e : t ∈ Lof n p ↔ t ∈ Lof n q := by rw [h]
  rw [Lof_mem, Lof_mem] at e
  rw [Bool.eq_iff_iff]
  constructor
  · intro a; exact (e.mp ⟨ht, a⟩).2
  · intro a; exact (e.mpr ⟨ht, a⟩).2
/-- one turn -/
def stp (at_ : List C) (n : Nat) (p : Nat → Bool) : Nat → Bool := fun t => p t && Oc.borne at_ (Lof n p) t
theorem stp_Lof (at_ : List C) (n : Nat) (p : Nat → Bool) : (Lof n p).filter (Oc.borne at_ (Lof n p)) = Lof n (stp at_ n p) := by
  unfold Lof stp
  rw [List.filter_filter]
  apply List.filter_congr
  intro t _
  exact Bool.and_comm _ _
theorem stp_congr {at_ : List C} {n : Nat} {p q : Nat → Bool} (h : mk n p = mk n q) : mk n (stp at_ n p) = mk n (stp at_ n q) := by
  apply mk_ext
  intro t ht
  unfold stp
  rw [Lof_of_mk h, mk_inj h t ht]
theorem settle_succ (at_ : List C) (f : Nat) (l : List Nat) : Oc.settle at_ (f + 1) l = if (l.filter (Oc.borne at_ l)).length = l.length then l else Oc.settle at_ f (l.filter (Oc.borne at_ l)) := rfl
theorem settle_same {at_ : List C} {n : Nat} {p : Nat → Bool} (h : mk n (stp at_ n p) = mk n p) : ∀ f, Oc.settle at_ f (Lof n p) = Lof n p
  | 0 => rfl
  | f + 1 => by
    rw [settle_succ, stp_Lof, Lof_of_mk h, if_pos rfl]
theorem settle_less {at_ : List C} {n : Nat} {p : Nat → Bool} (h : ¬ mk n (stp at_ n p) = mk n p) (f : Nat) : Oc.settle at_ (f + 1) (Lof n p) = Oc.settle at_ f (Lof n (stp at_ n p)) ∧ (Lof n (stp at_ n p)).length < (Lof n p).length := by
  have hl : (Lof n (stp at_ n p)).length ≤ (Lof n p).length := by
    rw [← stp_Lof]
    exact List.length_filter_le _ _
  have hne : (Lof n (stp at_ n p)).length ≠ (Lof n p).length := by
    intro e
    apply h
    apply mk_of_Lof
    rw [← stp_Lof] at e ⊢
    exact List.Sublist.eq_of_length List.filter_sublist e
  refine ⟨?_, by omega⟩
  rw [settle_succ, stp_Lof, if_neg hne]
theorem types_eq (at_ : List C) (ax : List Axiom) : Oc.types at_ ax = Oc.settle at_ (2 ^ at_.length + 1) (Lof (2 ^ at_.length) (Oc.keeps at_ ax)) := rfl
/-- what is known of the possible kinds -/
structure Poss (at_ : List C) (ax : List Axiom) (p : Nat → Bool) : Prop where
  eq : Oc.types at_ ax = Lof (2 ^ at_.length) p
  borne : ∀ t ∈ Oc.types at_ ax, Oc.borne at_ (Oc.types at_ ax) t = true
/-- the loop's state -/
structure Loop (at_ : List C) (ax : List Axiom) (p : Nat → Bool) (f : Nat) : Prop where
  eq : Oc.types at_ ax = Oc.settle at_ f (Lof (2 ^ at_.length) p)
  lt : (Lof (2 ^ at_.length) p).length < f
theorem loop_start (at_ : List C) (ax : List Axiom) : Loop at_ ax (Oc.keeps at_ ax) (2 ^ at_.length + 1) := ⟨types_eq at_ ax, by have := Lof_len (2 ^ at_.length) (Oc.keeps at_ ax); omega⟩
theorem loop_turn {at_ : List C} {ax : List Axiom} {p : Nat → Bool} {f : Nat} (h : Loop at_ ax p f) : ∃ f', Loop at_ ax (stp at_ (2 ^ at_.length) p) f' := by
  by_cases e : mk (2 ^ at_.length) (stp at_ (2 ^ at_.length) p) = mk (2 ^ at_.length) p
  · refine ⟨f, ?_, ?_⟩
    · rw [Lof_of_mk e]; exact h.eq
    · rw [Lof_of_mk e]; exact h.lt
  · have hf := h.lt
    obtain ⟨f', rfl⟩ : ∃ f', f = f' + 1 := ⟨f - 1, by omega⟩
    obtain ⟨e1, e2⟩ := settle_less e f'
    exact ⟨f', by rw [h.eq, e1], by omega⟩
theorem loop_end {at_ : List C} {ax : List Axiom} {p : Nat → Bool} {f : Nat} (h : Loop at_ ax p f) (e : mk (2 ^ at_.length) (stp at_ (2 ^ at_.length) p) = mk (2 ^ at_.length) p) : Poss at_ ax p := by
  have e1 : Oc.types at_ ax = Lof (2 ^ at_.length) p := by rw [h.eq, settle_same e]
  refine ⟨e1, fun t ht => ?_⟩
  rw [e1] at ht ⊢
  rw [← Lof_of_mk e, Lof_mem] at ht
  have := ht.2
  unfold stp at this
  rw [Bool.and_eq_true] at this
  exact this.2
theorem keeps_take {at_ : List C} {ax : List Axiom} {i : Nat} {x : Axiom} (h : ax[i]? = some x) (t : Nat) : Oc.keeps at_ (ax.take (i + 1)) t = (Oc.keeps at_ (ax.take i) t && (!Oc.holds at_ t x.1 || Oc.holds at_ t x.2)) := by
  unfold Oc.keeps
  rw [take_snoc h, List.all_append]
  simp
/-- first_of -/
theorem first_eq {at_ : List C} {ax : List Axiom} {p : Nat → Bool} (h : Poss at_ ax p) (q : Nat → Bool) : ((List.range (2 ^ at_.length)).filter fun t => p t && q t).head? = (Oc.types at_ ax).find? q := by
  rw [filter_head, h.eq]
  rfl
theorem find_any (l : List Nat) (q : Nat → Bool) : (l.find? q).isSome = l.any q := by
  rw [Bool.eq_iff_iff, List.find?_isSome, List.any_eq_true]
end Ca
/-! The reported model, names: what the spec says, step by step. -/
namespace Ca
open Oc (C Axiom)
theorem nodup_sub {α : Type} [DecidableEq α] : ∀ {l m : List α}, l.Nodup → (∀ x ∈ l, x ∈ m) → l.length ≤ m.length
  | [], _, _, _ => Nat.zero_le _
  | a :: r, m, hn, hs => by
    rw [List.nodup_cons] at hn
    have ha := hs a List.mem_cons_self
    have ih := nodup_sub (l := r) (m := m.erase a) hn.2 fun x hx => by
      have hne : x ≠ a := fun e => hn.1 (e ▸ hx)
      exact (List.mem_erase_of_ne hne).mpr (hs x (List.mem_cons_of_mem _ hx))
    rw [List.length_erase_of_mem ha] at ih
    have : 0 < m.length := List.length_pos_of_mem ha
    rw [List.length_cons]
    omega
/-! ### the names of a kind -/
def nameW (at_ : List C) (t : Nat) : C → Nat
  | .name a => if Oc.holds at_ t (.name a) = true then 2 ^ a else 0
  | _ => 0
def nmS (at_ : List C) (t a : Nat) (l : List C) : Nat := (l.map fun x => if x = .name a then nameW at_ t x else 0).sum
theorem nmS_split (at_ : List C) (t : Nat) : ∀ l : List C, (∀ x ∈ l, okn x) → (l.map (nameW at_ t)).sum = nmS at_ t 0 l + nmS at_ t 1 l + nmS at_ t 2 l + nmS at_ t 3 l
  | [], _ => rfl
  | x :: r, h => by
    have ih := nmS_split at_ t r fun y hy => h y (List.mem_cons_of_mem _ hy)
    have hx := h x List.mem_cons_self
    unfold nmS at ih ⊢
    simp only [List.map_cons, List.sum_cons]
    rw [ih]
    cases x with
    | name a =>
      have ha : a < 4 := hx
      have : a = 0 ∨ a = 1 ∨ a = 2 ∨ a = 3 := by omega
      rcases this with rfl | rfl | rfl | rfl <;> simp <;> omega
    | _ => simp [nameW]
theorem nmS_at (at_ : List C) (t a : Nat) : ∀ l : List C, l.Nodup → nmS at_ t a l = if .name a ∈ l then nameW at_ t (.name a) else 0
  | [], _ => by simp [nmS]
  | x :: r, hn => by
    rw [List.nodup_cons] at hn
    have ih := nmS_at at_ t a r hn.2
    unfold nmS at ih ⊢
    simp only [List.map_cons, List.sum_cons]
    rw [ih]
    by_cases e : x = .name a
    · subst e
      rw [if_pos rfl, if_neg hn.1, if_pos List.mem_cons_self]
      omega
    · rw [if_neg e]
      have : (.name a ∈ x :: r) ↔ (.name a ∈ r) := by
        rw [List.mem_cons]
        constructor
        · rintro (h | h)
          · exact absurd h.symm e
          · exact h
        · exact .inr
      by_cases g : C.name a ∈ r
      · rw [if_pos g, if_pos (this.mpr g)]; omega
      · rw [if_neg g, if_neg (fun z => g (this.mp z))]
theorem holds_out {at_ : List C} {t a : Nat} (h : .name a ∉ at_) : Oc.holds at_ t (.name a) = false := by
  have e : at_.idxOf? (.name a) = none := by
    unfold List.idxOf?
    rw [List.findIdx?_eq_none_iff]
    intro x hx
    rw [beq_eq_false_iff_ne]
    intro z
    exact h (z ▸ hx)
  simp only [Oc.holds, e]
theorem names_eq {at_ : List C} (w : WFat at_) (t : Nat) : (at_.map (nameW at_ t)).sum = Oc01.namesOf at_ t := by
  rw [nmS_split at_ t at_ w.okn, nmS_at _ _ _ _ w.nodup, nmS_at _ _ _ _ w.nodup, nmS_at _ _ _ _ w.nodup, nmS_at _ _ _ _ w.nodup]
  have one : ∀ a, (if C.name a ∈ at_ then nameW at_ t (.name a) else 0) = if Oc.holds at_ t (.name a) = true then 2 ^ a else 0 := by
    intro a
    by_cases h : C.name a ∈ at_
    · rw [if_pos h]; rfl
    · rw [if_neg h, holds_out h, if_neg (by decide)]
  rw [one, one, one, one]
  unfold Oc01.namesOf
  rw [show List.range Oc.NAMES = [0, 1, 2, 3] from rfl]
  have key : ∀ f : Nat → Bool, (if f 0 = true then 2 ^ 0 else 0) + (if f 1 = true then 2 ^ 1 else 0) + (if f 2 = true then 2 ^ 2 else 0) + (if f 3 = true then 2 ^ 3 else 0) = ([0, 1, 2, 3].filter f).foldl (fun n a => n + 2 ^ a) 0 := by
    intro f
    cases h0 : f 0 <;> cases h1 : f 1 <;> cases h2 : f 2 <;> cases h3 : f 3 <;> simp [List.filter, h0, h1, h2, h3]
  exact key fun a => Oc.holds at_ t (.name a)
/-! ### what a kind needs -/
def roleK (at_ : List C) (k : Nat) : Nat := match at_[k]? with
  | some (.some r _) => r
  | some (.all r _) => r
  | _ => 0
def firstK (at_ : List C) (l : List Nat) (t k : Nat) : Nat := (l.find? (suppK at_ t k)).getD 0
def prK (at_ : List C) (l : List Nat) (t k : Nat) : Nat × Nat := (roleK at_ k, firstK at_ l t k)
def needF (at_ : List C) (l : List Nat) (t : Nat) (x : C) : Option (Nat × Nat) := match x with
  | .some r c => if Oc.holds at_ t x = true then (l.find? fun u => Oc.fits at_ r t u && Oc.holds at_ u c).map fun u => (r, u) else none
  | .all r c => if Oc.holds at_ t x = false then (l.find? fun u => Oc.fits at_ r t u && !Oc.holds at_ u c).map fun u => (r, u) else none
  | _ => none
theorem needs_eq0 (at_ : List C) (l : List Nat) (t : Nat) : Oc01.needs at_ l t = at_.filterMap (needF at_ l t) := rfl
theorem fm_range {at_ : List C} {β : Type} (f : C → Option β) (g : Nat → Option β) (h : ∀ k x, at_[k]? = some x → f x = g k) : at_.filterMap f = (List.range at_.length).filterMap g := by
  have key : ∀ i, i ≤ at_.length → (at_.take i).filterMap f = (List.range i).filterMap g := by
    intro i
    induction i with
    | zero => intro _; rfl
    | succ i ih =>
      intro hi
      have hx : at_[i]? = some at_[i] := List.getElem?_eq_getElem (by omega)
      rw [take_snoc hx, List.filterMap_append, ih (by omega), List.range_succ, List.filterMap_append]
      simp only [List.filterMap_cons, List.filterMap_nil]
      rw [h i _ hx]
  have := key at_.length (Nat.le_refl _)
  rw [List.take_length] at this
  exact this
theorem find_of {l : List Nat} {q : Nat → Bool} (h : l.any q = true) : ∃ u, l.find? q = some u := by
  rw [← find_any] at h
  exact Option.isSome_iff_exists.mp h
theorem needs_map {at_ : List C} (w : WFat at_) {l : List Nat} {t : Nat} (hb : Oc.borne at_ l t = true) : Oc01.needs at_ l t = (needs_ at_ t).map (prK at_ l t) := by
  have g : ∀ k x, at_[k]? = some x → needF at_ l t x = if needK at_ t k = true then some (prK at_ l t k) else none := by
    intro k x hx
    have hxa := w.atom x (List.mem_of_getElem? hx)
    have hh := holds_at (t := t) w.nodup hx hxa
    rw [borne_needs w, List.all_eq_true] at hb
    have hb' := hb k
    have hk : k < at_.length := (List.getElem?_eq_some_iff.mp hx).1
    unfold needs_ at hb'
    rw [List.mem_filter, List.mem_range] at hb'
    have en : needK at_ t k = needX (Oc.bit t k) x := by unfold needK; rw [hx]
    have es : suppK at_ t k = suppX at_ t x := by unfold suppK; rw [hx]
    by_cases c : needK at_ t k = true
    · rw [if_pos c]
      have hu := hb' ⟨hk, c⟩
      obtain ⟨u, hu⟩ := find_of hu
      unfold prK firstK roleK
      rw [hu, hx]
      rw [es] at hu
      rw [en] at c
      cases x with
      | some r d =>
        have c' : Oc.bit t k = true := c
        show (if Oc.holds at_ t (.some r d) = true then _ else _) = _
        rw [hh, if_pos c']
        have hu' : (l.find? fun u => Oc.fits at_ r t u && Oc.holds at_ u d) = some u := hu
        rw [hu']
        rfl
      | all r d =>
        have c' : (!Oc.bit t k) = true := c
        show (if Oc.holds at_ t (.all r d) = false then _ else _) = _
        rw [hh, if_pos (by simpa using c')]
        have hu' : (l.find? fun u => Oc.fits at_ r t u && !Oc.holds at_ u d) = some u := hu
        rw [hu']
        rfl
      | _ => cases c
    · rw [if_neg c]
      rw [en] at c
      cases x with
      | some r d =>
        have c' : ¬ Oc.bit t k = true := c
        show (if Oc.holds at_ t (.some r d) = true then _ else _) = _
        rw [hh, if_neg c']
      | all r d =>
        have c' : ¬ (!Oc.bit t k) = true := c
        show (if Oc.holds at_ t (.all r d) = false then _ else _) = _
        rw [hh, if_neg (by simpa using c')]
      | _ => rfl
  rw [needs_eq0, fm_range _ _ g]
  unfold needs_
  rw [← List.filterMap_eq_filter]
  rw [List.map_filterMap]
  congr 1
  funext k
  by_cases c : needK at_ t k = true
  · simp [c, Option.guard]
  · simp [c, Option.guard]
theorem firstK_mem {at_ : List C} (w : WFat at_) {l : List Nat} {t k : Nat} (hb : Oc.borne at_ l t = true) (hk : k ∈ needs_ at_ t) : l.find? (suppK at_ t k) = some (firstK at_ l t k) ∧ firstK at_ l t k ∈ l := by
  rw [borne_needs w, List.all_eq_true] at hb
  obtain ⟨u, hu⟩ := find_of (hb k hk)
  have e : firstK at_ l t k = u := by unfold firstK; rw [hu]; rfl
  rw [e]
  exact ⟨hu, List.mem_of_find?_eq_some hu⟩
/-! ### the things -/
def pushU (m : List Nat) (x : Nat × Nat) : List Nat := if m.contains x.2 = true then m else m ++ [x.2]
theorem pushU_mem {m : List Nat} {x : Nat × Nat} {u : Nat} : u ∈ pushU m x ↔ u ∈ m ∨ u = x.2 := by
  unfold pushU
  by_cases h : x.2 ∈ m
  · rw [if_pos (by simpa using h)]
    constructor
    · exact .inl
    · rintro (a | rfl)
      · exact a
      · exact h
  · rw [if_neg (by simpa using h)]
    simp
theorem pushU_pre (m : List Nat) (x : Nat × Nat) : ∃ z, pushU m x = m ++ z := by
  unfold pushU
  split
  · exact ⟨[], by simp⟩
  · exact ⟨_, rfl⟩
theorem pushU_nodup {m : List Nat} {x : Nat × Nat} (h : m.Nodup) : (pushU m x).Nodup := by
  unfold pushU
  by_cases c : x.2 ∈ m
  · rw [if_pos (by simpa using c)]; exact h
  · rw [if_neg (by simpa using c), List.nodup_append]
    refine ⟨h, by simp, ?_⟩
    intro a ha b hb e
    simp at hb
    subst hb e
    exact c ha
theorem pushes_mem : ∀ {nd : List (Nat × Nat)} {m : List Nat} {u : Nat}, u ∈ nd.foldl pushU m ↔ u ∈ m ∨ ∃ x ∈ nd, u = x.2
  | [], m, u => by simp
  | x :: nd, m, u => by
    rw [List.foldl_cons, pushes_mem, pushU_mem]
    simp [or_assoc]
theorem pushes_pre : ∀ (nd : List (Nat × Nat)) (m : List Nat), ∃ z, nd.foldl pushU m = m ++ z
  | [], m => ⟨[], by simp⟩
  | x :: nd, m => by
    obtain ⟨z, hz⟩ := pushU_pre m x
    obtain ⟨z2, hz2⟩ := pushes_pre nd (pushU m x)
    exact ⟨z ++ z2, by rw [List.foldl_cons, hz2, hz, List.append_assoc]⟩
theorem pushes_nodup : ∀ {nd : List (Nat × Nat)} {m : List Nat}, m.Nodup → (nd.foldl pushU m).Nodup
  | [], _, h => h
  | x :: nd, m, h => by
    rw [List.foldl_cons]
    exact pushes_nodup (pushU_nodup h)
/-- a place that is there stays -/
theorem idx_pre {w z : List Nat} {u : Nat} (h : u ∈ w) : (w ++ z).idxOf? u = w.idxOf? u := by
  unfold List.idxOf?
  rw [List.findIdx?_append]
  have : (w.findIdx? (· == u)).isSome := by
    rw [List.findIdx?_isSome, List.any_eq_true]
    exact ⟨u, h, by simp⟩
  obtain ⟨i, hi⟩ := Option.isSome_iff_exists.mp this
  rw [hi]
  rfl
theorem idx_some {w : List Nat} {u : Nat} (h : u ∈ w) : ∃ i, w.idxOf? u = some i ∧ w[i]? = some u ∧ i < w.length ∧ ∀ m z, m < i → w[m]? = some z → z ≠ u := by
  have : (w.findIdx? (· == u)).isSome := by
    rw [List.findIdx?_isSome, List.any_eq_true]
    exact ⟨u, h, by simp⟩
  obtain ⟨i, hi⟩ := Option.isSome_iff_exists.mp this
  have hi' := List.findIdx?_eq_some_iff_getElem.mp hi
  obtain ⟨hl, he, hno⟩ := hi'
  refine ⟨i, hi, ?_, hl, fun m z hm hz => ?_⟩
  · rw [List.getElem?_eq_getElem hl]
    simpa using he
  · obtain ⟨hml, e⟩ := List.getElem?_eq_some_iff.mp hz
    have := hno m hm
    rw [e] at this
    simpa using this
def relK (w : List Nat) (x : Nat × Nat) : Nat × Nat := (x.1, (w.idxOf? x.2).getD 0)
def pushR (m : List (Nat × Nat)) (x : Nat × Nat) : List (Nat × Nat) := if m.contains x = true then m else m ++ [x]
theorem once_eq (l : List (Nat × Nat)) : Oc01.once l = l.foldl pushR [] := rfl
theorem pushR_len : ∀ (l m : List (Nat × Nat)), (l.foldl pushR m).length ≤ m.length + l.length
  | [], m => by simp
  | x :: l, m => by
    have h := pushR_len l (pushR m x)
    rw [List.foldl_cons, List.length_cons]
    have : (pushR m x).length ≤ m.length + 1 := by
      unfold pushR
      split
      · omega
      · simp
    omega
def relsOf (at_ : List C) (l w : List Nat) (u : Nat) : List (Nat × Nat) := Oc01.once ((Oc01.needs at_ l u).filterMap fun (x : Nat × Nat) => (w.idxOf? x.2).map fun i => (x.1, i))
theorem rels_map {w : List Nat} : ∀ {nd : List (Nat × Nat)}, (∀ x ∈ nd, x.2 ∈ w) → (nd.filterMap fun (x : Nat × Nat) => (w.idxOf? x.2).map fun i => (x.1, i)) = nd.map (relK w)
  | [], _ => rfl
  | x :: nd, h => by
    have ih := rels_map (nd := nd) fun y hy => h y (List.mem_cons_of_mem _ hy)
    obtain ⟨i, hi, _⟩ := idx_some (h x List.mem_cons_self)
    rw [List.filterMap_cons, hi, List.map_cons, ← ih]
    unfold relK
    rw [hi]
    rfl
theorem relK_pre {w z : List Nat} {x : Nat × Nat} (h : x.2 ∈ w) : relK (w ++ z) x = relK w x := by
  unfold relK
  rw [idx_pre h]
theorem relsOf_pre {at_ : List C} {l w z : List Nat} {u : Nat} (h : ∀ x ∈ Oc01.needs at_ l u, x.2 ∈ w) : relsOf at_ l (w ++ z) u = relsOf at_ l w u := by
  unfold relsOf
  rw [rels_map h, rels_map fun x hx => List.mem_append_left _ (h x hx)]
  congr 1
  apply List.map_congr_left
  intro x hx
  exact relK_pre (h x hx)
def row (at_ : List C) (l w : List Nat) (u : Nat) : List Nat := Oc01.namesOf at_ u :: (relsOf at_ l w u).length :: (relsOf at_ l w u).flatMap fun e => [e.1, e.2]
theorem gather_stop {at_ : List C} {l w : List Nat} {f i : Nat} (h : w[i]? = none) : Oc01.gather at_ l f i w = w := by
  cases f with
  | zero => rfl
  | succ f => unfold Oc01.gather; rw [h]
theorem gather_go {at_ : List C} {l w : List Nat} {f i t : Nat} (h : w[i]? = some t) : Oc01.gather at_ l (f + 1) i w = Oc01.gather at_ l f (i + 1) ((Oc01.needs at_ l t).foldl pushU w) := by
  show (match w[i]? with
    | none => w
    | some t => Oc01.gather at_ l f (i + 1) ((Oc01.needs at_ l t).foldl (fun (m : List Nat) (x : Nat × Nat) => if m.contains x.2 = true then m else m ++ [x.2]) w)) = _
  rw [h]
  rfl
/-- the loop over the things -/
structure GInv (at_ : List C) (l : List Nat) (W w : List Nat) (i f : Nat) : Prop where
  eq : Oc01.gather at_ l f i w = W
  nodup : w.Nodup
  sub : ∀ u ∈ w, u ∈ l
  le : i ≤ w.length
  fuel : l.length < f + i
  done : ∀ u ∈ w.take i, ∀ x ∈ Oc01.needs at_ l u, x.2 ∈ w
theorem GInv.len {at_ : List C} {l W w : List Nat} {i f : Nat} (g : GInv at_ l W w i f) : w.length ≤ l.length := nodup_sub g.nodup g.sub
theorem GInv.stop {at_ : List C} {l W w : List Nat} {i f : Nat} (g : GInv at_ l W w i f) (h : ¬ i < w.length) : W = w := by
  rw [← g.eq]
  exact gather_stop (List.getElem?_eq_none (by omega))
theorem GInv.turn {at_ : List C} {l W w : List Nat} {i f t : Nat} (g : GInv at_ l W w i f) (h : w[i]? = some t) (hs : ∀ x ∈ Oc01.needs at_ l t, x.2 ∈ l) : ∃ f', GInv at_ l W ((Oc01.needs at_ l t).foldl pushU w) (i + 1) f' := by
  have hi : i < w.length := (List.getElem?_eq_some_iff.mp h).1
  have hl := g.len
  have hf := g.fuel
  obtain ⟨f', rfl⟩ : ∃ f', f = f' + 1 := ⟨f - 1, by omega⟩
  obtain ⟨z, hz⟩ := pushes_pre (Oc01.needs at_ l t) w
  refine ⟨f', ?_, pushes_nodup g.nodup, fun u hu => ?_, ?_, by omega, fun u hu x hx => ?_⟩
  · rw [← g.eq, gather_go h]
  · rw [pushes_mem] at hu
    rcases hu with hu | ⟨x, hx, rfl⟩
    · exact g.sub u hu
    · exact hs x hx
  · rw [hz, List.length_append]; omega
  · rw [hz, List.take_append_of_le_length (by omega), take_snoc h, List.mem_append] at hu
    rw [pushes_mem]
    rcases hu with hu | hu
    · exact .inl (g.done u hu x hx)
    · rw [List.mem_singleton] at hu
      subst hu
      exact .inr ⟨x, hx, rfl⟩
theorem ginv_start {at_ : List C} {l : List Nat} {t : Nat} (h : t ∈ l) : GInv at_ l (Oc01.gather at_ l (l.length + 1) 0 [t]) [t] 0 (l.length + 1) :=
  ⟨rfl, by simp, fun u hu => by rw [List.mem_singleton] at hu; subst hu; exact h, Nat.zero_le _, by omega, fun u hu => by simp at hu⟩
theorem relsOf_len {at_ : List C} (w : WFat at_) {l ws : List Nat} {u : Nat} (hb : Oc.borne at_ l u = true) : (relsOf at_ l ws u).length ≤ 6 := by
  unfold relsOf
  rw [once_eq]
  have h := pushR_len ((Oc01.needs at_ l u).filterMap fun (x : Nat × Nat) => (ws.idxOf? x.2).map fun i => (x.1, i)) []
  have h2 := List.length_filterMap_le (fun (x : Nat × Nat) => (ws.idxOf? x.2).map fun i => (x.1, i)) (Oc01.needs at_ l u)
  have h3 : (Oc01.needs at_ l u).length ≤ at_.length := by
    rw [needs_map w hb, List.length_map]
    unfold needs_
    have := List.length_filter_le (needK at_ u) (List.range at_.length)
    rw [List.length_range] at this
    exact this
  have := w.len
  simp only [List.length_nil] at h
  omega
/-- the numbers of the reported model -/
def modelL (at_ : List C) (l W : List Nat) : List Nat := W.length :: W.flatMap (row at_ l W)
theorem told_model (ax : List Axiom) (c : C) : Oc01.told (Oc01.model ax c) = match (Oc.types (Oc.atomsFor ax [c]) ax).find? fun t => Oc.holds (Oc.atomsFor ax [c]) t c with
    | none => Oc01.ok (-6)
    | some t => ⟨((Oc01.gather (Oc.atomsFor ax [c]) (Oc.types (Oc.atomsFor ax [c]) ax) ((Oc.types (Oc.atomsFor ax [c]) ax).length + 1) 0 [t]).length : Nat),
        (Oc01.gather (Oc.atomsFor ax [c]) (Oc.types (Oc.atomsFor ax [c]) ax) ((Oc.types (Oc.atomsFor ax [c]) ax).length + 1) 0 [t]).flatMap (row (Oc.atomsFor ax [c]) (Oc.types (Oc.atomsFor ax [c]) ax) (Oc01.gather (Oc.atomsFor ax [c]) (Oc.types (Oc.atomsFor ax [c]) ax) ((Oc.types (Oc.atomsFor ax [c]) ax).length + 1) 0 [t]))⟩ := by
  unfold Oc01.model
  dsimp only
  cases (Oc.types (Oc.atomsFor ax [c]) ax).find? fun t => Oc.holds (Oc.atomsFor ax [c]) t c with
  | none => rfl
  | some t =>
    dsimp only [Option.map_some, Oc01.told]
    rw [List.length_map, List.flatMap_map]
    rfl
end Ca
/-! The house of axioms, the operations. -/
namespace Ca
open Oc (C Axiom)
theorem atomsFor_mem {axs : List Axiom} {cs : List C} {y : C} : y ∈ Oc.atomsFor axs cs ↔ (∃ x ∈ axs, y ∈ x.1.atoms ∨ y ∈ x.2.atoms) ∨ ∃ c ∈ cs, y ∈ c.atoms := by
  unfold Oc.atomsFor
  rw [atomsOf_mem]
  constructor
  · rintro ⟨c, hc, hy⟩
    rcases List.mem_append.mp hc with hc | hc
    · obtain ⟨x, hx, hc⟩ := List.mem_flatMap.mp hc
      simp at hc
      rcases hc with rfl | rfl
      · exact .inl ⟨x, hx, .inl hy⟩
      · exact .inl ⟨x, hx, .inr hy⟩
    · exact .inr ⟨c, hc, hy⟩
  · rintro (⟨x, hx, hy | hy⟩ | ⟨c, hc, hy⟩)
    · exact ⟨x.1, List.mem_append_left _ (List.mem_flatMap.mpr ⟨x, hx, by simp⟩), hy⟩
    · exact ⟨x.2, List.mem_append_left _ (List.mem_flatMap.mpr ⟨x, hx, by simp⟩), hy⟩
    · exact ⟨c, List.mem_append_right _ hc, hy⟩
theorem atomsFor_nodup (axs : List Axiom) (cs : List C) : (Oc.atomsFor axs cs).Nodup := distinct_nodup _
theorem atomsFor_le {axs axs' : List Axiom} {cs cs' : List C} (h : ∀ y, y ∈ Oc.atomsFor axs cs → y ∈ Oc.atomsFor axs' cs') : (Oc.atomsFor axs cs).length ≤ (Oc.atomsFor axs' cs').length := nodup_sub (atomsFor_nodup _ _) h
theorem atomsFor_snoc (axs : List Axiom) (x : Axiom) : Oc.atomsFor (axs ++ [x]) [] = Oc.atomsFor axs [x.1, x.2] := by
  unfold Oc.atomsFor
  rw [List.flatMap_append]
  simp
/-- a concept that has been read -/
structure Sm (c : C) : Prop where
  dep : dep c ≤ 30
  okn : okn c
  ats : c.atoms.length ≤ 30
theorem Sm.ok {c : C} (h : Sm c) : Okc c := ⟨by have := h.dep; omega, h.okn, by have := h.ats; omega⟩
structure House (axs : List Axiom) : Prop where
  len : axs.length ≤ 6
  sm : ∀ x ∈ axs, Sm x.1 ∧ Sm x.2
  ats : (Oc.atomsFor axs []).length ≤ 6
theorem house_nil : House [] := ⟨by decide, by simp, by decide⟩
def restA (axs : List Axiom) (i : Nat) : List Axiom := axs.take i ++ axs.drop (i + 1)
theorem restA_mem {axs : List Axiom} {i : Nat} {x : Axiom} (h : x ∈ restA axs i) : x ∈ axs := by
  unfold restA at h
  rcases List.mem_append.mp h with h | h
  · exact List.mem_of_mem_take h
  · exact List.mem_of_mem_drop h
theorem restA_len (axs : List Axiom) (i : Nat) : (restA axs i).length ≤ axs.length := by
  unfold restA
  rw [List.length_append, List.length_take, List.length_drop]
  omega
theorem House.rest {axs : List Axiom} (h : House axs) (i : Nat) : House (restA axs i) :=
  ⟨Nat.le_trans (restA_len axs i) h.len, fun x hx => h.sm x (restA_mem hx), Nat.le_trans (atomsFor_le fun y hy => by
    rw [atomsFor_mem] at hy ⊢
    rcases hy with ⟨x, hx, hy⟩ | ⟨c, hc, _⟩
    · exact .inl ⟨x, restA_mem hx, hy⟩
    · cases hc) h.ats⟩
theorem House.add {axs : List Axiom} (h : House axs) {x : Axiom} (hl : axs.length < 6) (h1 : Sm x.1) (h2 : Sm x.2) (ha : (Oc.atomsFor axs [x.1, x.2]).length ≤ 6) : House (axs ++ [x]) := by
  refine ⟨by simp; omega, fun y hy => ?_, by rw [atomsFor_snoc]; exact ha⟩
  rcases List.mem_append.mp hy with hy | hy
  · exact h.sm y hy
  · rw [List.mem_singleton] at hy
    subst hy
    exact ⟨h1, h2⟩
theorem spare_len {axs : List Axiom} (h : House axs) {i : Nat} {x : Axiom} (hx : axs[i]? = some x) : (Oc.atomsFor (restA axs i) [.and x.1 (.not x.2)]).length ≤ 6 := by
  refine Nat.le_trans (atomsFor_le fun y hy => ?_) h.ats
  rw [atomsFor_mem] at hy ⊢
  rcases hy with ⟨z, hz, hy⟩ | ⟨c, hc, hy⟩
  · exact .inl ⟨z, restA_mem hz, hy⟩
  · rw [List.mem_singleton] at hc
    subst hc
    simp only [C.atoms, List.mem_append] at hy
    exact .inl ⟨x, List.mem_of_getElem? hx, hy⟩
theorem concept_none {l : List Nat} (hl : l.length ≤ 30) (h : ∀ cs, readMany 31 1 l ≠ some (cs, [])) : Oc.concept l = none := by
  rw [concept_31 hl]
  cases e : readMany 31 1 l with
  | none => rfl
  | some x =>
    obtain ⟨cs, r⟩ := x
    match cs, r, e with
    | [c], [], e => exact absurd e (h _)
    | [], _, _ => rfl
    | [_], _ :: _, _ => rfl
    | _ :: _ :: _, _, _ => rfl
theorem concept_some {l : List Nat} (hl : l.length ≤ 30) {cs : List C} (h : readMany 31 1 l = some (cs, [])) : ∃ c, cs = [c] ∧ Oc.concept l = some c ∧ Sm c := by
  have n := rm_len h
  match cs, n, h with
  | [c], _, h =>
    have g := (rm_got h).2 c (by simp)
    exact ⟨c, rfl, by rw [concept_31 hl, h], by omega, g.2.1, by omega⟩
theorem two_none {l : List Nat} (hl : l.length ≤ 30) (h : ∀ cs, readMany 31 2 l ≠ some (cs, [])) : Oc.two l = none := by
  rw [two_31 hl]
  cases e : readMany 31 2 l with
  | none => rfl
  | some x =>
    obtain ⟨cs, r⟩ := x
    match cs, r, e with
    | [c, d], [], e => exact absurd e (h _)
    | [], _, _ => rfl
    | [_], _, _ => rfl
    | [_, _], _ :: _, _ => rfl
    | _ :: _ :: _ :: _, _, _ => rfl
theorem two_some {l : List Nat} (hl : l.length ≤ 30) {cs : List C} (h : readMany 31 2 l = some (cs, [])) : ∃ c d, cs = [c, d] ∧ Oc.two l = some (c, d) ∧ Sm c ∧ Sm d := by
  have n := rm_len h
  match cs, n, h with
  | [c, d], _, h =>
    have g1 := (rm_got h).2 c (by simp)
    have g2 := (rm_got h).2 d (by simp)
    exact ⟨c, d, rfl, by rw [two_31 hl, h], ⟨by omega, g1.2.1, by omega⟩, by omega, g2.2.1, by omega⟩
theorem much_iff {axs : List Axiom} {cs : List C} : Oc01.much ⟨axs⟩ cs = true ↔ ¬ (Oc.atomsFor axs cs).length ≤ 6 := by
  unfold Oc01.much
  rw [decide_eq_true_iff]
  show 6 < (Oc.atomsFor axs cs).length ↔ _
  omega
theorem step_line (axs : List Axiom) (l : List Nat) : Oc01.step ⟨axs⟩ (.line l) = match Oc.two l with
    | none => (⟨axs⟩, Oc01.ok (-1))
    | some a => if axs.length = Oc01.AXIOMS ∨ Oc01.much ⟨axs⟩ [a.1, a.2] = true then (⟨axs⟩, Oc01.ok (-7)) else (⟨axs ++ [a]⟩, Oc01.ok (axs.length : Nat)) := rfl
theorem step_drop (axs : List Axiom) (i : Nat) : Oc01.step ⟨axs⟩ (.drop i) = if axs.length ≤ i then (⟨axs⟩, Oc01.ok (-2)) else (⟨axs.take i ++ axs.drop (i + 1)⟩, Oc01.ok (axs.length - 1 : Nat)) := rfl
theorem step_can (axs : List Axiom) (l : List Nat) : Oc01.step ⟨axs⟩ (.can l) = match Oc.concept l with
    | none => (⟨axs⟩, Oc01.ok (-1))
    | some c => if Oc01.much ⟨axs⟩ [c] = true then (⟨axs⟩, Oc01.ok (-7)) else (⟨axs⟩, Oc01.ok (Oc01.flag (Oc.can axs c) : Nat)) := rfl
theorem step_under (axs : List Axiom) (l : List Nat) : Oc01.step ⟨axs⟩ (.under l) = match Oc.two l with
    | none => (⟨axs⟩, Oc01.ok (-1))
    | some a => if Oc01.much ⟨axs⟩ [a.1, a.2] = true then (⟨axs⟩, Oc01.ok (-7)) else (⟨axs⟩, Oc01.ok (Oc01.flag (Oc.under axs a.1 a.2) : Nat)) := rfl
theorem step_model (axs : List Axiom) (l : List Nat) : Oc01.step ⟨axs⟩ (.model l) = match Oc.concept l with
    | none => (⟨axs⟩, Oc01.ok (-1))
    | some c => if Oc01.much ⟨axs⟩ [c] = true then (⟨axs⟩, Oc01.ok (-7)) else (⟨axs⟩, Oc01.told (Oc01.model axs c)) := rfl
theorem step_against (axs : List Axiom) (l : List Nat) : Oc01.step ⟨axs⟩ (.against l) = match Oc.two l with
    | none => (⟨axs⟩, Oc01.ok (-1))
    | some a => if Oc01.much ⟨axs⟩ [a.1, a.2] = true then (⟨axs⟩, Oc01.ok (-7)) else (⟨axs⟩, Oc01.told (Oc01.model axs (.and a.1 (.not a.2)))) := rfl
/-- an operation by its number -/
def opOf (k i : Nat) (l : List Nat) : Oc01.Call := match k with
  | 0 => .begins
  | 1 => .line l
  | 2 => .drop i
  | 3 => .can l
  | 4 => .under l
  | 5 => .model l
  | 6 => .against l
  | 7 => .names
  | _ => .spare
theorem house_step {axs : List Axiom} (h : House axs) (k i : Nat) (l : List Nat) (hl : l.length ≤ 30) : House (Oc01.step ⟨axs⟩ (opOf k i l)).1.axioms := by
  unfold opOf
  split
  · exact house_nil
  · show House (match Oc.two l with
      | none => ((⟨axs⟩ : Oc01.House), Oc01.ok (-1))
      | some a => if axs.length = Oc01.AXIOMS ∨ Oc01.much ⟨axs⟩ [a.1, a.2] = true then (⟨axs⟩, Oc01.ok (-7)) else (⟨axs ++ [a]⟩, Oc01.ok (axs.length : Nat))).1.axioms
    cases e : Oc.two l with
    | none => exact h
    | some a =>
      dsimp only
      by_cases c : axs.length = Oc01.AXIOMS ∨ Oc01.much ⟨axs⟩ [a.1, a.2] = true
      · rw [if_pos c]; exact h
      · rw [if_neg c]
        have c1 : ¬ axs.length = 6 := fun z => c (.inl z)
        have c2 : ¬ (6 < (Oc.atomsFor axs [a.1, a.2]).length) := fun z => c (.inr (decide_eq_true z))
        rw [two_31 hl] at e
        have key : ∃ cs, readMany 31 2 l = some (cs, []) ∧ cs = [a.1, a.2] := by
          cases hr : readMany 31 2 l with
          | none => rw [hr] at e; cases e
          | some x =>
            obtain ⟨cs, r⟩ := x
            rw [hr] at e
            match cs, r, e with
            | [c, d], [], e => cases e; exact ⟨_, rfl, rfl⟩
        obtain ⟨cs, hr, rfl⟩ := key
        have g := (rm_got hr).2
        have g1 := g a.1 (by simp)
        have g2 := g a.2 (by simp)
        exact h.add (by have := h.len; omega) ⟨by omega, g1.2.1, by omega⟩ ⟨by omega, g2.2.1, by omega⟩ (by omega)
  · show House (if axs.length ≤ i then ((⟨axs⟩ : Oc01.House), Oc01.ok (-2)) else (⟨axs.take i ++ axs.drop (i + 1)⟩, Oc01.ok (axs.length - 1 : Nat))).1.axioms
    split
    · exact h
    · exact h.rest i
  · show House (match Oc.concept l with
      | none => ((⟨axs⟩ : Oc01.House), Oc01.ok (-1))
      | some c => if Oc01.much ⟨axs⟩ [c] = true then (⟨axs⟩, Oc01.ok (-7)) else (⟨axs⟩, Oc01.ok (Oc01.flag (Oc.can axs c) : Nat))).1.axioms
    split
    · exact h
    · split <;> exact h
  · show House (match Oc.two l with
      | none => ((⟨axs⟩ : Oc01.House), Oc01.ok (-1))
      | some a => if Oc01.much ⟨axs⟩ [a.1, a.2] = true then (⟨axs⟩, Oc01.ok (-7)) else (⟨axs⟩, Oc01.ok (Oc01.flag (Oc.under axs a.1 a.2) : Nat))).1.axioms
    split
    · exact h
    · split <;> exact h
  · show House (match Oc.concept l with
      | none => ((⟨axs⟩ : Oc01.House), Oc01.ok (-1))
      | some c => if Oc01.much ⟨axs⟩ [c] = true then (⟨axs⟩, Oc01.ok (-7)) else (⟨axs⟩, Oc01.told (Oc01.model axs c))).1.axioms
    split
    · exact h
    · split <;> exact h
  · show House (match Oc.two l with
      | none => ((⟨axs⟩ : Oc01.House), Oc01.ok (-1))
      | some a => if Oc01.much ⟨axs⟩ [a.1, a.2] = true then (⟨axs⟩, Oc01.ok (-7)) else (⟨axs⟩, Oc01.told (Oc01.model axs (.and a.1 (.not a.2))))).1.axioms
    split
    · exact h
    · split <;> exact h
  · exact h
  · exact h
end Ca
/-! The calls' list. -/
namespace Ca
open Oc (C Axiom)
/-- a call's operation: its number, its index, its list -/
def Form (c : List (List Int)) (k i : Nat) (l : List Nat) : Prop :=
  ((k = 0 ∨ k = 7 ∨ k = 8) ∧ i = 0 ∧ l = [] ∧ c = [[(k : Int)]]) ∨ (k = 2 ∧ l = [] ∧ c = [[2, (i : Int)]]) ∨
    ((k = 1 ∨ k = 3 ∨ k = 4 ∨ k = 5 ∨ k = 6) ∧ i = 0 ∧ l.length ≤ 30 ∧ c = [[(k : Int)], l.map fun (n : Nat) => (n : Int)])
theorem nats_of {r : List Int} {lo hi : Int} (h0 : 0 ≤ lo) (h : r.all (PyInside.within lo hi) = true) : ∃ l : List Nat, r = l.map fun (n : Nat) => (n : Int) := by
  induction r with
  | nil => exact ⟨[], rfl⟩
  | cons x r ih =>
    rw [List.all_cons, Bool.and_eq_true] at h
    obtain ⟨l, rfl⟩ := ih h.2
    have hx := h.1
    unfold PyInside.within at hx
    rw [Bool.and_eq_true, decide_eq_true_iff, decide_eq_true_iff] at hx
    exact ⟨x.toNat :: l, by rw [List.map_cons]; congr 1; omega⟩
theorem whole_id (c : List (List Int)) : PyOc01.whole c = c := by
  unfold PyOc01.whole
  split <;> rfl
theorem form_of {c : List (List Int)} (h : PyFlat.okCall PyOc01.shape c) (hb : PyInside.call PyOc01.bound c = true) : ∃ k i l, Form c k i l := by
  obtain ⟨p, a, xs, rfl, hs⟩ := h
  have hb' : (PyInside.each (PyOc01.bound p).1 a && PyInside.lists (PyOc01.bound p).2 xs) = true := hb
  rw [Bool.and_eq_true] at hb'
  obtain ⟨b1, b2⟩ := hb'
  have row : ∀ {q : Int} {k : Nat}, (k = 1 ∨ k = 3 ∨ k = 4 ∨ k = 5 ∨ k = 6) → q = (k : Int) → a.length = 0 → xs.length = 1 → PyInside.lists [(0, 4294967295, 0, 30)] xs = true → ∃ k i l, Form ((q :: a) :: xs) k i l := by
    intro q k hk hq ha hx hl
    have ea : a = [] := List.eq_nil_of_length_eq_zero ha
    subst ea
    match xs, hx with
    | [r], _ =>
      have hl' : (decide (0 ≤ r.length) && decide (r.length ≤ 30) && r.all (PyInside.within 0 4294967295) && PyInside.lists [] []) = true := hl
      simp only [Bool.and_eq_true, decide_eq_true_iff] at hl'
      obtain ⟨l, rfl⟩ := nats_of (Int.le_refl 0) hl'.1.2
      refine ⟨k, 0, l, .inr (.inr ⟨hk, rfl, ?_, by rw [hq]⟩)⟩
      have := hl'.1.1.2
      rw [List.length_map] at this
      exact this
  have bare : ∀ {q : Int} {k : Nat}, (k = 0 ∨ k = 7 ∨ k = 8) → q = (k : Int) → a.length = 0 → xs.length = 0 → ∃ k i l, Form ((q :: a) :: xs) k i l := by
    intro q k hk hq ha hx
    have ea : a = [] := List.eq_nil_of_length_eq_zero ha
    have ex : xs = [] := List.eq_nil_of_length_eq_zero hx
    subst ea ex
    exact ⟨k, 0, [], .inl ⟨hk, rfl, rfl, by rw [hq]⟩⟩
  unfold PyOc01.shape at hs
  unfold PyOc01.bound at b1 b2
  by_cases c0 : p = 0
  · rw [if_pos c0] at hs
    have e := Prod.mk.inj (Option.some.inj hs)
    exact bare (k := 0) (.inl rfl) (by omega) (by omega) (by omega)
  rw [if_neg c0] at hs b1 b2
  by_cases c1 : p = 1
  · rw [if_pos c1] at hs b2
    have e := Prod.mk.inj (Option.some.inj hs)
    exact row (k := 1) (by omega) (by omega) (by omega) (by omega) b2
  rw [if_neg c1] at hs b1 b2
  by_cases c2 : p = 2
  · rw [if_pos c2] at hs b1
    have e := Prod.mk.inj (Option.some.inj hs)
    have ex : xs = [] := List.eq_nil_of_length_eq_zero (by omega)
    subst ex
    match a, e.1, b1 with
    | [x], _, b1 =>
      have b1' : (PyInside.within 0 4294967295 x && PyInside.each [] []) = true := b1
      rw [Bool.and_eq_true] at b1'
      have hx := b1'.1
      unfold PyInside.within at hx
      rw [Bool.and_eq_true, decide_eq_true_iff, decide_eq_true_iff] at hx
      refine ⟨2, x.toNat, [], .inr (.inl ⟨rfl, rfl, ?_⟩)⟩
      rw [c2, show ((x.toNat : Nat) : Int) = x by omega]
  rw [if_neg c2] at hs b1 b2
  by_cases c3 : p = 3
  · rw [if_pos c3] at hs b2
    have e := Prod.mk.inj (Option.some.inj hs)
    exact row (k := 3) (by omega) (by omega) (by omega) (by omega) b2
  rw [if_neg c3] at hs b1 b2
  by_cases c4 : p = 4
  · rw [if_pos c4] at hs b2
    have e := Prod.mk.inj (Option.some.inj hs)
    exact row (k := 4) (by omega) (by omega) (by omega) (by omega) b2
  rw [if_neg c4] at hs b1 b2
  by_cases c5 : p = 5
  · rw [if_pos c5] at hs b2
    have e := Prod.mk.inj (Option.some.inj hs)
    exact row (k := 5) (by omega) (by omega) (by omega) (by omega) b2
  rw [if_neg c5] at hs b1 b2
  by_cases c6 : p = 6
  · rw [if_pos c6] at hs b2
    have e := Prod.mk.inj (Option.some.inj hs)
    exact row (k := 6) (by omega) (by omega) (by omega) (by omega) b2
  rw [if_neg c6] at hs b1 b2
  by_cases c7 : p = 7
  · rw [if_pos c7] at hs
    have e := Prod.mk.inj (Option.some.inj hs)
    exact bare (k := 7) (by omega) (by omega) (by omega) (by omega)
  rw [if_neg c7] at hs
  by_cases c8 : p = 8
  · rw [if_pos c8] at hs
    have e := Prod.mk.inj (Option.some.inj hs)
    exact bare (k := 8) (by omega) (by omega) (by omega) (by omega)
  rw [if_neg c8] at hs
  cases hs
theorem nats_map (l : List Nat) : Oc01Neutral.nats (l.map fun (n : Nat) => (n : Int)) = l := by
  unfold Oc01Neutral.nats
  rw [List.map_map]
  induction l with
  | nil => rfl
  | cons x r ih => rw [List.map_cons, ih]; rfl
theorem form_op {c : List (List Int)} {k i : Nat} {l : List Nat} (h : Form c k i l) : Oc01Neutral.callOf c = some (opOf k i l) := by
  rcases h with ⟨hk, rfl, rfl, rfl⟩ | ⟨rfl, rfl, rfl⟩ | ⟨hk, rfl, hl, rfl⟩
  · rcases hk with rfl | rfl | rfl <;> rfl
  · rfl
  · have e := nats_map l
    rcases hk with rfl | rfl | rfl | rfl | rfl
    · show some (Oc01.Call.line _) = _; rw [e]; rfl
    · show some (Oc01.Call.can _) = _; rw [e]; rfl
    · show some (Oc01.Call.under _) = _; rw [e]; rfl
    · show some (Oc01.Call.model _) = _; rw [e]; rfl
    · show some (Oc01.Call.against _) = _; rw [e]; rfl
theorem form_len {c : List (List Int)} {k i : Nat} {l : List Nat} (h : Form c k i l) : l.length ≤ 30 ∧ k ≤ 8 := by
  rcases h with ⟨hk, rfl, rfl, rfl⟩ | ⟨rfl, rfl, rfl⟩ | ⟨hk, rfl, hl, rfl⟩
  · exact ⟨by simp, by omega⟩
  · exact ⟨by simp, by omega⟩
  · exact ⟨hl, by omega⟩
/-- one call played -/
theorem step_form {c : List (List Int)} {k i : Nat} {l : List Nat} (h : Form c k i l) (axs : List Axiom) : Oc01Neutral.step ⟨axs⟩ c = ((Oc01.step ⟨axs⟩ (opOf k i l)).1, Oc01Neutral.out (Oc01.step ⟨axs⟩ (opOf k i l)).2) := by
  unfold Oc01Neutral.step
  rw [form_op h]
/-- what is still to be answered -/
def todo (axs : List Axiom) (cs : List (List (List Int))) : List Int := PyFlat.told (PyFlat.played Oc01Neutral.step ⟨axs⟩ cs)
theorem todo_nil (axs : List Axiom) : todo axs [] = [] := rfl
theorem todo_cons {c : List (List Int)} {k i : Nat} {l : List Nat} (h : Form c k i l) (axs : List Axiom) (cs : List (List (List Int))) :
    todo axs (c :: cs) = ((Oc01Neutral.out (Oc01.step ⟨axs⟩ (opOf k i l)).2).length : Int) :: (Oc01Neutral.out (Oc01.step ⟨axs⟩ (opOf k i l)).2 ++ todo (Oc01.step ⟨axs⟩ (opOf k i l)).1.axioms cs) := by
  show PyFlat.told ((Oc01Neutral.step ⟨axs⟩ c).2 :: PyFlat.played Oc01Neutral.step (Oc01Neutral.step ⟨axs⟩ c).1 cs) = _
  rw [step_form h]
  rfl
/-- what asked gives -/
structure Asked (ns : List Int) (raw : List (List (List Int))) : Prop where
  put : ns = PyFlat.put raw
  form : ∀ c ∈ raw, ∃ k i l, Form c k i l
  ans : PyOc01.answers ns = todo [] raw
  short : (PyOc01.answers ns).length ≤ 10000000
theorem asked_of {ns : List Int} (h : PyOc01.answers_asked ns = true) : ∃ raw, Asked ns raw := by
  unfold PyOc01.answers_asked at h
  cases e : PyFlat.calls PyOc01.shape ns.length ns with
  | none => rw [e] at h; cases h
  | some raw =>
    rw [e] at h
    simp only [Bool.and_eq_true] at h
    obtain ⟨⟨⟨_, hb⟩, _⟩, hs⟩ := h
    obtain ⟨h1, h2⟩ := PyFlat.put_calls _ _ _ e
    refine ⟨raw, h1, fun c hc => ?_, ?_, ?_⟩
    · unfold PyInside.calls at hb
      rw [List.all_eq_true] at hb
      exact form_of (h2 c hc) (hb c hc)
    · unfold PyOc01.answers PyOc01.calls
      rw [e]
      show PyFlat.told (PyFlat.played Oc01Neutral.step Oc01Neutral.start (raw.map PyOc01.whole)) = _
      have : raw.map PyOc01.whole = raw := by
        have : PyOc01.whole = id := funext whole_id
        rw [this, List.map_id]
      rw [this]
      rfl
    · unfold PyFlat.short at hs
      exact of_decide_eq_true hs
/-- a call's numbers in the list -/
theorem put1_form {c : List (List Int)} {k i : Nat} {l : List Nat} (h : Form c k i l) : ((k = 0 ∨ k = 7 ∨ k = 8) ∧ i = 0 ∧ l = [] ∧ PyFlat.put1 c = [(k : Int)]) ∨ (k = 2 ∧ l = [] ∧ PyFlat.put1 c = [2, (i : Int)]) ∨
    ((k = 1 ∨ k = 3 ∨ k = 4 ∨ k = 5 ∨ k = 6) ∧ i = 0 ∧ PyFlat.put1 c = (k : Int) :: (l.length : Int) :: l.map fun (n : Nat) => (n : Int)) := by
  rcases h with ⟨hk, rfl, rfl, rfl⟩ | ⟨rfl, rfl, rfl⟩ | ⟨hk, rfl, hl, rfl⟩
  · exact .inl ⟨hk, rfl, rfl, rfl⟩
  · exact .inr (.inl ⟨rfl, rfl, rfl⟩)
  · refine .inr (.inr ⟨hk, rfl, ?_⟩)
    simp [PyFlat.put1, PyFlat.putRows, PyFlat.putRow]
theorem put_append : ∀ (a b : List (List (List Int))), PyFlat.put (a ++ b) = PyFlat.put a ++ PyFlat.put b
  | [], _ => rfl
  | x :: a, b => by
    show PyFlat.put1 x ++ PyFlat.put (a ++ b) = (PyFlat.put1 x ++ PyFlat.put a) ++ PyFlat.put b
    rw [put_append a b, List.append_assoc]
theorem put_one (c : List (List Int)) : PyFlat.put [c] = PyFlat.put1 c := by
  show PyFlat.put1 c ++ [] = _
  rw [List.append_nil]
end Ca
namespace Ca
open PySem PySem.Spec PyProof.Rows L2
/-! ### the text by places -/
def top (i : Nat) : Stmt := PySem.Challenge.pw_conceptaxioms_s01_answers.main.body.getD i (.Pass ⟨0, 0, 0, 0⟩)
def lcScope (e : Expr) : Scope := match e with
  | .ListComp _ _ sc _ => sc
  | _ => { kind := .function, names := [], isGenerator := false, isCoroutine := false }
def stVal (s : Stmt) : Expr := match s with
  | .Assign _ e _ => e
  | _ => .Name "" ⟨0, 0, 0, 0⟩
def whBody (s : Stmt) : List Stmt := match s with
  | .While _ b _ _ => b
  | _ => []
abbrev s_initRefused : Stmt := inClass (top 1) 0
abbrev N_initRefused : List Str := ["self", "code"]
theorem sc_initRefused : FnScope N_initRefused ["self", "code"] (defScope s_initRefused) := ⟨rfl, rfl, rfl, by decide +kernel, rfl, by decide +kernel, by decide +kernel⟩
abbrev s_want : Stmt := top 2
abbrev N_want : List Str := ["truth", "code"]
theorem sc_want : FnScope N_want ["truth", "code"] (defScope s_want) := ⟨rfl, rfl, rfl, by decide +kernel, rfl, by decide +kernel, by decide +kernel⟩
abbrev s_number_at : Stmt := top 15
abbrev N_number_at : List Str := ["numbers", "at", "most"]
theorem sc_number_at : FnScope N_number_at ["numbers", "at", "most"] (defScope s_number_at) := ⟨rfl, rfl, rfl, by decide +kernel, rfl, by decide +kernel, by decide +kernel⟩
abbrev s_parts_at : Stmt := top 16
abbrev N_parts_at : List Str := ["numbers", "at", "many", "found", "turn", "concept"]
theorem sc_parts_at : FnScope N_parts_at ["numbers", "at", "many"] (defScope s_parts_at) := ⟨rfl, rfl, rfl, by decide +kernel, rfl, by decide +kernel, by decide +kernel⟩
abbrev s_concept_at : Stmt := top 17
abbrev N_concept_at : List Str := ["numbers", "at", "word", "role", "parts", "end"]
theorem sc_concept_at : FnScope N_concept_at ["numbers", "at"] (defScope s_concept_at) := ⟨rfl, rfl, rfl, by decide +kernel, rfl, by decide +kernel, by decide +kernel⟩
abbrev s_read_concepts : Stmt := top 18
abbrev N_read_concepts : List Str := ["numbers", "many", "found", "end"]
theorem sc_read_concepts : FnScope N_read_concepts ["numbers", "many"] (defScope s_read_concepts) := ⟨rfl, rfl, rfl, by decide +kernel, rfl, by decide +kernel, by decide +kernel⟩
abbrev s_parts_of : Stmt := top 19
abbrev N_parts_of : List Str := ["concept"]
theorem sc_parts_of : FnScope N_parts_of ["concept"] (defScope s_parts_of) := ⟨rfl, rfl, rfl, by decide +kernel, rfl, by decide +kernel, by decide +kernel⟩
abbrev s_atoms_in : Stmt := top 20
abbrev N_atoms_in : List Str := ["concept", "found", "part"]
theorem sc_atoms_in : FnScope N_atoms_in ["concept"] (defScope s_atoms_in) := ⟨rfl, rfl, rfl, by decide +kernel, rfl, by decide +kernel, by decide +kernel⟩
abbrev s_atoms_of : Stmt := top 21
abbrev N_atoms_of : List Str := ["concepts", "found", "concept", "atom"]
theorem sc_atoms_of : FnScope N_atoms_of ["concepts"] (defScope s_atoms_of) := ⟨rfl, rfl, rfl, by decide +kernel, rfl, by decide +kernel, by decide +kernel⟩
abbrev s_concepts_of : Stmt := top 22
abbrev N_concepts_of : List Str := ["axioms", "found", "first", "second"]
theorem sc_concepts_of : FnScope N_concepts_of ["axioms"] (defScope s_concepts_of) := ⟨rfl, rfl, rfl, by decide +kernel, rfl, by decide +kernel, by decide +kernel⟩
abbrev s_has_bit : Stmt := top 24
abbrev N_has_bit : List Str := ["number", "k"]
theorem sc_has_bit : FnScope N_has_bit ["number", "k"] (defScope s_has_bit) := ⟨rfl, rfl, rfl, by decide +kernel, rfl, by decide +kernel, by decide +kernel⟩
abbrev s_members : Stmt := top 25
abbrev N_members : List Str := ["some", "kind"]
theorem sc_members : FnScope N_members ["some"] (defScope s_members) := ⟨rfl, rfl, rfl, by decide +kernel, rfl, by decide +kernel, by decide +kernel⟩
abbrev s_set_with : Stmt := top 26
abbrev N_set_with : List Str := ["kinds", "kind"]
theorem sc_set_with : FnScope N_set_with ["kinds"] (defScope s_set_with) := ⟨rfl, rfl, rfl, by decide +kernel, rfl, by decide +kernel, by decide +kernel⟩
abbrev s_initKinds : Stmt := inClass (top 27) 0
abbrev N_initKinds : List Str := ["self", "axioms", "concepts", "k"]
theorem sc_initKinds : FnScope N_initKinds ["self", "axioms", "concepts"] (defScope s_initKinds) := ⟨rfl, rfl, rfl, by decide +kernel, rfl, by decide +kernel, by decide +kernel⟩
abbrev s_set_by_bit : Stmt := inClass (top 27) 1
abbrev N_set_by_bit : List Str := ["self", "k", "kind"]
theorem sc_set_by_bit : FnScope N_set_by_bit ["self", "k"] (defScope s_set_by_bit) := ⟨rfl, rfl, rfl, by decide +kernel, rfl, by decide +kernel, by decide +kernel⟩
abbrev s_set_of : Stmt := inClass (top 27) 2
abbrev N_set_of : List Str := ["self", "concept", "word"]
theorem sc_set_of : FnScope N_set_of ["self", "concept"] (defScope s_set_of) := ⟨rfl, rfl, rfl, by decide +kernel, rfl, by decide +kernel, by decide +kernel⟩
abbrev s_without : Stmt := inClass (top 27) 3
abbrev N_without : List Str := ["self", "some"]
theorem sc_without : FnScope N_without ["self", "some"] (defScope s_without) := ⟨rfl, rfl, rfl, by decide +kernel, rfl, by decide +kernel, by decide +kernel⟩
abbrev s_inside : Stmt := inClass (top 27) 4
abbrev N_inside : List Str := ["self", "atom"]
theorem sc_inside : FnScope N_inside ["self", "atom"] (defScope s_inside) := ⟨rfl, rfl, rfl, by decide +kernel, rfl, by decide +kernel, by decide +kernel⟩
abbrev s_permitted : Stmt := inClass (top 27) 5
abbrev N_permitted : List Str := ["self", "kind", "role", "found", "k", "atom"]
theorem sc_permitted : FnScope N_permitted ["self", "kind", "role"] (defScope s_permitted) := ⟨rfl, rfl, rfl, by decide +kernel, rfl, by decide +kernel, by decide +kernel⟩
abbrev s_is_to_support : Stmt := inClass (top 27) 6
abbrev N_is_to_support : List Str := ["self", "kind", "k", "word"]
theorem sc_is_to_support : FnScope N_is_to_support ["self", "kind", "k"] (defScope s_is_to_support) := ⟨rfl, rfl, rfl, by decide +kernel, rfl, by decide +kernel, by decide +kernel⟩
abbrev s_to_support : Stmt := inClass (top 27) 7
abbrev N_to_support : List Str := ["self", "kind", "k"]
theorem sc_to_support : FnScope N_to_support ["self", "kind"] (defScope s_to_support) := ⟨rfl, rfl, rfl, by decide +kernel, rfl, by decide +kernel, by decide +kernel⟩
abbrev s_supporting : Stmt := inClass (top 27) 8
abbrev N_supporting : List Str := ["self", "kind", "k", "atom", "some"]
theorem sc_supporting : FnScope N_supporting ["self", "kind", "k"] (defScope s_supporting) := ⟨rfl, rfl, rfl, by decide +kernel, rfl, by decide +kernel, by decide +kernel⟩
abbrev s_possible_by : Stmt := inClass (top 27) 9
abbrev N_possible_by : List Str := ["self", "axioms", "left", "first", "second", "wanted", "before", "kept", "kind", "k", "some"]
theorem sc_possible_by : FnScope N_possible_by ["self", "axioms"] (defScope s_possible_by) := ⟨rfl, rfl, rfl, by decide +kernel, rfl, by decide +kernel, by decide +kernel⟩
abbrev s_first_of : Stmt := inClass (top 27) 10
abbrev N_first_of : List Str := ["self", "some", "found"]
theorem sc_first_of : FnScope N_first_of ["self", "some"] (defScope s_first_of) := ⟨rfl, rfl, rfl, by decide +kernel, rfl, by decide +kernel, by decide +kernel⟩
abbrev s_is_possible : Stmt := top 29
abbrev N_is_possible : List Str := ["axioms", "concept", "kinds"]
theorem sc_is_possible : FnScope N_is_possible ["axioms", "concept"] (defScope s_is_possible) := ⟨rfl, rfl, rfl, by decide +kernel, rfl, by decide +kernel, by decide +kernel⟩
abbrev s_first_alone : Stmt := top 30
abbrev N_first_alone : List Str := ["first", "second"]
theorem sc_first_alone : FnScope N_first_alone ["first", "second"] (defScope s_first_alone) := ⟨rfl, rfl, rfl, by decide +kernel, rfl, by decide +kernel, by decide +kernel⟩
abbrev s_is_subsumed : Stmt := top 31
abbrev N_is_subsumed : List Str := ["axioms", "first", "second"]
theorem sc_is_subsumed : FnScope N_is_subsumed ["axioms", "first", "second"] (defScope s_is_subsumed) := ⟨rfl, rfl, rfl, by decide +kernel, rfl, by decide +kernel, by decide +kernel⟩
abbrev s_names_number : Stmt := top 32
abbrev N_names_number : List Str := ["kinds", "kind", "found", "k", "atom"]
theorem sc_names_number : FnScope N_names_number ["kinds", "kind"] (defScope s_names_number) := ⟨rfl, rfl, rfl, by decide +kernel, rfl, by decide +kernel, by decide +kernel⟩
abbrev s_relations_of : Stmt := top 33
abbrev N_relations_of : List Str := ["kinds", "things", "kind", "found", "k", "other", "relation"]
theorem sc_relations_of : FnScope N_relations_of ["kinds", "things", "kind"] (defScope s_relations_of) := ⟨rfl, rfl, rfl, by decide +kernel, rfl, by decide +kernel, by decide +kernel⟩
abbrev s_model_told : Stmt := top 34
abbrev N_model_told : List Str := ["axioms", "concept", "kinds", "first", "things", "at", "found", "relations", "role", "other"]
theorem sc_model_told : FnScope N_model_told ["axioms", "concept"] (defScope s_model_told) := ⟨rfl, rfl, rfl, by decide +kernel, rfl, by decide +kernel, by decide +kernel⟩
abbrev s_with_name : Stmt := top 35
abbrev N_with_name : List Str := ["kinds", "name", "atom"]
theorem sc_with_name : FnScope N_with_name ["kinds", "name"] (defScope s_with_name) := ⟨rfl, rfl, rfl, by decide +kernel, rfl, by decide +kernel, by decide +kernel⟩
abbrev s_without_name : Stmt := top 36
abbrev N_without_name : List Str := ["kinds", "name", "atom"]
theorem sc_without_name : FnScope N_without_name ["kinds", "name"] (defScope s_without_name) := ⟨rfl, rfl, rfl, by decide +kernel, rfl, by decide +kernel, by decide +kernel⟩
abbrev s_is_name_under : Stmt := top 37
abbrev N_is_name_under : List Str := ["kinds", "first", "second", "some"]
theorem sc_is_name_under : FnScope N_is_name_under ["kinds", "first", "second"] (defScope s_is_name_under) := ⟨rfl, rfl, rfl, by decide +kernel, rfl, by decide +kernel, by decide +kernel⟩
abbrev s_names_told : Stmt := top 38
abbrev N_names_told : List Str := ["axioms", "many", "kinds", "found", "first", "second"]
theorem sc_names_told : FnScope N_names_told ["axioms", "many"] (defScope s_names_told) := ⟨rfl, rfl, rfl, by decide +kernel, rfl, by decide +kernel, by decide +kernel⟩
abbrev s_is_spare : Stmt := top 39
abbrev N_is_spare : List Str := ["axioms", "index", "first", "second"]
theorem sc_is_spare : FnScope N_is_spare ["axioms", "index"] (defScope s_is_spare) := ⟨rfl, rfl, rfl, by decide +kernel, rfl, by decide +kernel, by decide +kernel⟩
abbrev s_initService : Stmt := inClass (top 46) 0
abbrev N_initService : List Str := ["self"]
theorem sc_initService : FnScope N_initService ["self"] (defScope s_initService) := ⟨rfl, rfl, rfl, by decide +kernel, rfl, by decide +kernel, by decide +kernel⟩
abbrev s_want_few_atoms : Stmt := inClass (top 46) 1
abbrev N_want_few_atoms : List Str := ["self", "concepts"]
theorem sc_want_few_atoms : FnScope N_want_few_atoms ["self", "concepts"] (defScope s_want_few_atoms) := ⟨rfl, rfl, rfl, by decide +kernel, rfl, by decide +kernel, by decide +kernel⟩
abbrev s_told_concepts : Stmt := inClass (top 46) 2
abbrev N_told_concepts : List Str := ["self", "numbers", "many", "found"]
theorem sc_told_concepts : FnScope N_told_concepts ["self", "numbers", "many"] (defScope s_told_concepts) := ⟨rfl, rfl, rfl, by decide +kernel, rfl, by decide +kernel, by decide +kernel⟩
abbrev s_begins : Stmt := inClass (top 46) 3
abbrev N_begins : List Str := ["self"]
theorem sc_begins : FnScope N_begins ["self"] (defScope s_begins) := ⟨rfl, rfl, rfl, by decide +kernel, rfl, by decide +kernel, by decide +kernel⟩
abbrev s_line : Stmt := inClass (top 46) 4
abbrev N_line : List Str := ["self", "numbers", "found"]
theorem sc_line : FnScope N_line ["self", "numbers"] (defScope s_line) := ⟨rfl, rfl, rfl, by decide +kernel, rfl, by decide +kernel, by decide +kernel⟩
abbrev s_drop : Stmt := inClass (top 46) 5
abbrev N_drop : List Str := ["self", "index"]
theorem sc_drop : FnScope N_drop ["self", "index"] (defScope s_drop) := ⟨rfl, rfl, rfl, by decide +kernel, rfl, by decide +kernel, by decide +kernel⟩
abbrev s_can : Stmt := inClass (top 46) 6
abbrev N_can : List Str := ["self", "numbers", "concept"]
theorem sc_can : FnScope N_can ["self", "numbers"] (defScope s_can) := ⟨rfl, rfl, rfl, by decide +kernel, rfl, by decide +kernel, by decide +kernel⟩
abbrev s_under : Stmt := inClass (top 46) 7
abbrev N_under : List Str := ["self", "numbers", "first", "second"]
theorem sc_under : FnScope N_under ["self", "numbers"] (defScope s_under) := ⟨rfl, rfl, rfl, by decide +kernel, rfl, by decide +kernel, by decide +kernel⟩
abbrev s_reported : Stmt := inClass (top 46) 8
abbrev N_reported : List Str := ["self", "concept", "found"]
theorem sc_reported : FnScope N_reported ["self", "concept"] (defScope s_reported) := ⟨rfl, rfl, rfl, by decide +kernel, rfl, by decide +kernel, by decide +kernel⟩
abbrev s_model : Stmt := inClass (top 46) 9
abbrev N_model : List Str := ["self", "numbers"]
theorem sc_model : FnScope N_model ["self", "numbers"] (defScope s_model) := ⟨rfl, rfl, rfl, by decide +kernel, rfl, by decide +kernel, by decide +kernel⟩
abbrev s_against : Stmt := inClass (top 46) 10
abbrev N_against : List Str := ["self", "numbers", "first", "second"]
theorem sc_against : FnScope N_against ["self", "numbers"] (defScope s_against) := ⟨rfl, rfl, rfl, by decide +kernel, rfl, by decide +kernel, by decide +kernel⟩
abbrev s_names : Stmt := inClass (top 46) 11
abbrev N_names : List Str := ["self"]
theorem sc_names : FnScope N_names ["self"] (defScope s_names) := ⟨rfl, rfl, rfl, by decide +kernel, rfl, by decide +kernel, by decide +kernel⟩
abbrev s_spare : Stmt := inClass (top 46) 12
abbrev N_spare : List Str := ["self", "found", "index"]
theorem sc_spare : FnScope N_spare ["self"] (defScope s_spare) := ⟨rfl, rfl, rfl, by decide +kernel, rfl, by decide +kernel, by decide +kernel⟩
abbrev s_done : Stmt := inClass (top 46) 13
abbrev N_done : List Str := ["self", "call", "index", "numbers"]
theorem sc_done : FnScope N_done ["self", "call", "index", "numbers"] (defScope s_done) := ⟨rfl, rfl, rfl, by decide +kernel, rfl, by decide +kernel, by decide +kernel⟩
abbrev s_answer : Stmt := inClass (top 46) 14
abbrev N_answer : List Str := ["self", "call", "index", "numbers", "e"]
theorem sc_answer : FnScope N_answer ["self", "call", "index", "numbers"] (defScope s_answer) := ⟨rfl, rfl, rfl, by decide +kernel, rfl, by decide +kernel, by decide +kernel⟩
abbrev s_answers : Stmt := top 50
abbrev N_answers : List Str := ["calls", "service", "found", "at", "call", "index", "numbers", "told"]
theorem sc_answers : FnScope N_answers ["calls"] (defScope s_answers) := ⟨rfl, rfl, rfl, by decide +kernel, rfl, by decide +kernel, by decide +kernel⟩
structure Ads where
  a_initRefused : Addr
  d_initRefused : FuncData
  a_want : Addr
  d_want : FuncData
  a_number_at : Addr
  d_number_at : FuncData
  a_parts_at : Addr
  d_parts_at : FuncData
  a_concept_at : Addr
  d_concept_at : FuncData
  a_read_concepts : Addr
  d_read_concepts : FuncData
  a_parts_of : Addr
  d_parts_of : FuncData
  a_atoms_in : Addr
  d_atoms_in : FuncData
  a_atoms_of : Addr
  d_atoms_of : FuncData
  a_concepts_of : Addr
  d_concepts_of : FuncData
  a_has_bit : Addr
  d_has_bit : FuncData
  a_members : Addr
  d_members : FuncData
  a_set_with : Addr
  d_set_with : FuncData
  a_initKinds : Addr
  d_initKinds : FuncData
  a_set_by_bit : Addr
  d_set_by_bit : FuncData
  a_set_of : Addr
  d_set_of : FuncData
  a_without : Addr
  d_without : FuncData
  a_inside : Addr
  d_inside : FuncData
  a_permitted : Addr
  d_permitted : FuncData
  a_is_to_support : Addr
  d_is_to_support : FuncData
  a_to_support : Addr
  d_to_support : FuncData
  a_supporting : Addr
  d_supporting : FuncData
  a_possible_by : Addr
  d_possible_by : FuncData
  a_first_of : Addr
  d_first_of : FuncData
  a_is_possible : Addr
  d_is_possible : FuncData
  a_first_alone : Addr
  d_first_alone : FuncData
  a_is_subsumed : Addr
  d_is_subsumed : FuncData
  a_names_number : Addr
  d_names_number : FuncData
  a_relations_of : Addr
  d_relations_of : FuncData
  a_model_told : Addr
  d_model_told : FuncData
  a_with_name : Addr
  d_with_name : FuncData
  a_without_name : Addr
  d_without_name : FuncData
  a_is_name_under : Addr
  d_is_name_under : FuncData
  a_names_told : Addr
  d_names_told : FuncData
  a_is_spare : Addr
  d_is_spare : FuncData
  a_initService : Addr
  d_initService : FuncData
  a_want_few_atoms : Addr
  d_want_few_atoms : FuncData
  a_told_concepts : Addr
  d_told_concepts : FuncData
  a_begins : Addr
  d_begins : FuncData
  a_line : Addr
  d_line : FuncData
  a_drop : Addr
  d_drop : FuncData
  a_can : Addr
  d_can : FuncData
  a_under : Addr
  d_under : FuncData
  a_reported : Addr
  d_reported : FuncData
  a_model : Addr
  d_model : FuncData
  a_against : Addr
  d_against : FuncData
  a_names : Addr
  d_names : FuncData
  a_spare : Addr
  d_spare : FuncData
  a_done : Addr
  d_done : FuncData
  a_answer : Addr
  d_answer : FuncData
  a_answers : Addr
  d_answers : FuncData
  C_Refused : Addr
  C_Kinds : Addr
  C_Service : Addr
  t_ALL : Tok
  t_NO_ONE : Tok
  t_NAME : Tok
  t_BOTH : Tok
  t_EITHER : Tok
  t_NOT : Tok
  t_SOME : Tok
  t_EVERY : Tok
  t_MOST_NAME : Tok
  t_MOST_ROLE : Tok
  t_NO_CONCEPTS : Tok
  t_NO_AXIOM : Tok
  t_NO_MODEL : Tok
  t_TOO_MANY : Tok
  t_MOST_AXIOMS : Tok
  t_MOST_ATOMS : Tok
  t_DROP : Tok
  a_WITH_LIST : Addr
structure Txt (K : PySem.W.Frag) (mg : Str → Option Value) (A : Ads) : Prop where
  f_initRefused : Fun K "__init__" "Refused.__init__" s_initRefused A.a_initRefused A.d_initRefused
  b_initRefused : Binds K A.d_initRefused ["self", "code"] []
  f_want : Fun K "want" "want" s_want A.a_want A.d_want
  b_want : Binds K A.d_want ["truth", "code"] []
  g_want : mg "want" = some (.ref A.a_want)
  f_number_at : Fun K "number_at" "number_at" s_number_at A.a_number_at A.d_number_at
  b_number_at : Binds K A.d_number_at ["numbers", "at", "most"] []
  g_number_at : mg "number_at" = some (.ref A.a_number_at)
  f_parts_at : Fun K "parts_at" "parts_at" s_parts_at A.a_parts_at A.d_parts_at
  b_parts_at : Binds K A.d_parts_at ["numbers", "at", "many"] []
  g_parts_at : mg "parts_at" = some (.ref A.a_parts_at)
  f_concept_at : Fun K "concept_at" "concept_at" s_concept_at A.a_concept_at A.d_concept_at
  b_concept_at : Binds K A.d_concept_at ["numbers", "at"] []
  g_concept_at : mg "concept_at" = some (.ref A.a_concept_at)
  f_read_concepts : Fun K "read_concepts" "read_concepts" s_read_concepts A.a_read_concepts A.d_read_concepts
  b_read_concepts : Binds K A.d_read_concepts ["numbers", "many"] []
  g_read_concepts : mg "read_concepts" = some (.ref A.a_read_concepts)
  f_parts_of : Fun K "parts_of" "parts_of" s_parts_of A.a_parts_of A.d_parts_of
  b_parts_of : Binds K A.d_parts_of ["concept"] []
  g_parts_of : mg "parts_of" = some (.ref A.a_parts_of)
  f_atoms_in : Fun K "atoms_in" "atoms_in" s_atoms_in A.a_atoms_in A.d_atoms_in
  b_atoms_in : Binds K A.d_atoms_in ["concept"] []
  g_atoms_in : mg "atoms_in" = some (.ref A.a_atoms_in)
  f_atoms_of : Fun K "atoms_of" "atoms_of" s_atoms_of A.a_atoms_of A.d_atoms_of
  b_atoms_of : Binds K A.d_atoms_of ["concepts"] []
  g_atoms_of : mg "atoms_of" = some (.ref A.a_atoms_of)
  f_concepts_of : Fun K "concepts_of" "concepts_of" s_concepts_of A.a_concepts_of A.d_concepts_of
  b_concepts_of : Binds K A.d_concepts_of ["axioms"] []
  g_concepts_of : mg "concepts_of" = some (.ref A.a_concepts_of)
  f_has_bit : Fun K "has_bit" "has_bit" s_has_bit A.a_has_bit A.d_has_bit
  b_has_bit : Binds K A.d_has_bit ["number", "k"] []
  g_has_bit : mg "has_bit" = some (.ref A.a_has_bit)
  f_members : Fun K "members" "members" s_members A.a_members A.d_members
  b_members : Binds K A.d_members ["some"] []
  g_members : mg "members" = some (.ref A.a_members)
  f_set_with : Fun K "set_with" "set_with" s_set_with A.a_set_with A.d_set_with
  b_set_with : Binds K A.d_set_with ["kinds"] []
  g_set_with : mg "set_with" = some (.ref A.a_set_with)
  f_initKinds : Fun K "__init__" "Kinds.__init__" s_initKinds A.a_initKinds A.d_initKinds
  b_initKinds : Binds K A.d_initKinds ["self", "axioms", "concepts"] []
  f_set_by_bit : Fun K "set_by_bit" "Kinds.set_by_bit" s_set_by_bit A.a_set_by_bit A.d_set_by_bit
  b_set_by_bit : Binds K A.d_set_by_bit ["self", "k"] []
  m_set_by_bit : Meth K A.C_Kinds "set_by_bit" A.a_set_by_bit
  f_set_of : Fun K "set_of" "Kinds.set_of" s_set_of A.a_set_of A.d_set_of
  b_set_of : Binds K A.d_set_of ["self", "concept"] []
  m_set_of : Meth K A.C_Kinds "set_of" A.a_set_of
  f_without : Fun K "without" "Kinds.without" s_without A.a_without A.d_without
  b_without : Binds K A.d_without ["self", "some"] []
  m_without : Meth K A.C_Kinds "without" A.a_without
  f_inside : Fun K "inside" "Kinds.inside" s_inside A.a_inside A.d_inside
  b_inside : Binds K A.d_inside ["self", "atom"] []
  m_inside : Meth K A.C_Kinds "inside" A.a_inside
  f_permitted : Fun K "permitted" "Kinds.permitted" s_permitted A.a_permitted A.d_permitted
  b_permitted : Binds K A.d_permitted ["self", "kind", "role"] []
  m_permitted : Meth K A.C_Kinds "permitted" A.a_permitted
  f_is_to_support : Fun K "is_to_support" "Kinds.is_to_support" s_is_to_support A.a_is_to_support A.d_is_to_support
  b_is_to_support : Binds K A.d_is_to_support ["self", "kind", "k"] []
  m_is_to_support : Meth K A.C_Kinds "is_to_support" A.a_is_to_support
  f_to_support : Fun K "to_support" "Kinds.to_support" s_to_support A.a_to_support A.d_to_support
  b_to_support : Binds K A.d_to_support ["self", "kind"] []
  m_to_support : Meth K A.C_Kinds "to_support" A.a_to_support
  f_supporting : Fun K "supporting" "Kinds.supporting" s_supporting A.a_supporting A.d_supporting
  b_supporting : Binds K A.d_supporting ["self", "kind", "k"] []
  m_supporting : Meth K A.C_Kinds "supporting" A.a_supporting
  f_possible_by : Fun K "possible_by" "Kinds.possible_by" s_possible_by A.a_possible_by A.d_possible_by
  b_possible_by : Binds K A.d_possible_by ["self", "axioms"] []
  m_possible_by : Meth K A.C_Kinds "possible_by" A.a_possible_by
  f_first_of : Fun K "first_of" "Kinds.first_of" s_first_of A.a_first_of A.d_first_of
  b_first_of : Binds K A.d_first_of ["self", "some"] []
  m_first_of : Meth K A.C_Kinds "first_of" A.a_first_of
  f_is_possible : Fun K "is_possible" "is_possible" s_is_possible A.a_is_possible A.d_is_possible
  b_is_possible : Binds K A.d_is_possible ["axioms", "concept"] []
  g_is_possible : mg "is_possible" = some (.ref A.a_is_possible)
  f_first_alone : Fun K "first_alone" "first_alone" s_first_alone A.a_first_alone A.d_first_alone
  b_first_alone : Binds K A.d_first_alone ["first", "second"] []
  g_first_alone : mg "first_alone" = some (.ref A.a_first_alone)
  f_is_subsumed : Fun K "is_subsumed" "is_subsumed" s_is_subsumed A.a_is_subsumed A.d_is_subsumed
  b_is_subsumed : Binds K A.d_is_subsumed ["axioms", "first", "second"] []
  g_is_subsumed : mg "is_subsumed" = some (.ref A.a_is_subsumed)
  f_names_number : Fun K "names_number" "names_number" s_names_number A.a_names_number A.d_names_number
  b_names_number : Binds K A.d_names_number ["kinds", "kind"] []
  g_names_number : mg "names_number" = some (.ref A.a_names_number)
  f_relations_of : Fun K "relations_of" "relations_of" s_relations_of A.a_relations_of A.d_relations_of
  b_relations_of : Binds K A.d_relations_of ["kinds", "things", "kind"] []
  g_relations_of : mg "relations_of" = some (.ref A.a_relations_of)
  f_model_told : Fun K "model_told" "model_told" s_model_told A.a_model_told A.d_model_told
  b_model_told : Binds K A.d_model_told ["axioms", "concept"] []
  g_model_told : mg "model_told" = some (.ref A.a_model_told)
  f_with_name : Fun K "with_name" "with_name" s_with_name A.a_with_name A.d_with_name
  b_with_name : Binds K A.d_with_name ["kinds", "name"] []
  g_with_name : mg "with_name" = some (.ref A.a_with_name)
  f_without_name : Fun K "without_name" "without_name" s_without_name A.a_without_name A.d_without_name
  b_without_name : Binds K A.d_without_name ["kinds", "name"] []
  g_without_name : mg "without_name" = some (.ref A.a_without_name)
  f_is_name_under : Fun K "is_name_under" "is_name_under" s_is_name_under A.a_is_name_under A.d_is_name_under
  b_is_name_under : Binds K A.d_is_name_under ["kinds", "first", "second"] []
  g_is_name_under : mg "is_name_under" = some (.ref A.a_is_name_under)
  f_names_told : Fun K "names_told" "names_told" s_names_told A.a_names_told A.d_names_told
  b_names_told : Binds K A.d_names_told ["axioms", "many"] []
  g_names_told : mg "names_told" = some (.ref A.a_names_told)
  f_is_spare : Fun K "is_spare" "is_spare" s_is_spare A.a_is_spare A.d_is_spare
  b_is_spare : Binds K A.d_is_spare ["axioms", "index"] []
  g_is_spare : mg "is_spare" = some (.ref A.a_is_spare)
  f_initService : Fun K "__init__" "Service.__init__" s_initService A.a_initService A.d_initService
  b_initService : Binds K A.d_initService ["self"] []
  f_want_few_atoms : Fun K "want_few_atoms" "Service.want_few_atoms" s_want_few_atoms A.a_want_few_atoms A.d_want_few_atoms
  b_want_few_atoms : Binds K A.d_want_few_atoms ["self", "concepts"] []
  m_want_few_atoms : Meth K A.C_Service "want_few_atoms" A.a_want_few_atoms
  f_told_concepts : Fun K "told_concepts" "Service.told_concepts" s_told_concepts A.a_told_concepts A.d_told_concepts
  b_told_concepts : Binds K A.d_told_concepts ["self", "numbers", "many"] []
  m_told_concepts : Meth K A.C_Service "told_concepts" A.a_told_concepts
  f_begins : Fun K "begins" "Service.begins" s_begins A.a_begins A.d_begins
  b_begins : Binds K A.d_begins ["self"] []
  m_begins : Meth K A.C_Service "begins" A.a_begins
  f_line : Fun K "line" "Service.line" s_line A.a_line A.d_line
  b_line : Binds K A.d_line ["self", "numbers"] []
  m_line : Meth K A.C_Service "line" A.a_line
  f_drop : Fun K "drop" "Service.drop" s_drop A.a_drop A.d_drop
  b_drop : Binds K A.d_drop ["self", "index"] []
  m_drop : Meth K A.C_Service "drop" A.a_drop
  f_can : Fun K "can" "Service.can" s_can A.a_can A.d_can
  b_can : Binds K A.d_can ["self", "numbers"] []
  m_can : Meth K A.C_Service "can" A.a_can
  f_under : Fun K "under" "Service.under" s_under A.a_under A.d_under
  b_under : Binds K A.d_under ["self", "numbers"] []
  m_under : Meth K A.C_Service "under" A.a_under
  f_reported : Fun K "reported" "Service.reported" s_reported A.a_reported A.d_reported
  b_reported : Binds K A.d_reported ["self", "concept"] []
  m_reported : Meth K A.C_Service "reported" A.a_reported
  f_model : Fun K "model" "Service.model" s_model A.a_model A.d_model
  b_model : Binds K A.d_model ["self", "numbers"] []
  m_model : Meth K A.C_Service "model" A.a_model
  f_against : Fun K "against" "Service.against" s_against A.a_against A.d_against
  b_against : Binds K A.d_against ["self", "numbers"] []
  m_against : Meth K A.C_Service "against" A.a_against
  f_names : Fun K "names" "Service.names" s_names A.a_names A.d_names
  b_names : Binds K A.d_names ["self"] []
  m_names : Meth K A.C_Service "names" A.a_names
  f_spare : Fun K "spare" "Service.spare" s_spare A.a_spare A.d_spare
  b_spare : Binds K A.d_spare ["self"] []
  m_spare : Meth K A.C_Service "spare" A.a_spare
  f_done : Fun K "done" "Service.done" s_done A.a_done A.d_done
  b_done : Binds K A.d_done ["self", "call", "index", "numbers"] []
  m_done : Meth K A.C_Service "done" A.a_done
  f_answer : Fun K "answer" "Service.answer" s_answer A.a_answer A.d_answer
  b_answer : Binds K A.d_answer ["self", "call", "index", "numbers"] []
  m_answer : Meth K A.C_Service "answer" A.a_answer
  f_answers : Fun K "answers" "answers" s_answers A.a_answers A.d_answers
  b_answers : Binds K A.d_answers ["calls"] []
  g_answers : mg "answers" = some (.ref A.a_answers)
  g_Refused : mg "Refused" = some (.ref A.C_Refused)
  g_Kinds : mg "Kinds" = some (.ref A.C_Kinds)
  cl_Kinds : Cls K A.C_Kinds
  mk_Kinds : Mk K A.C_Kinds A.a_initKinds
  g_Service : mg "Service" = some (.ref A.C_Service)
  cl_Service : Cls K A.C_Service
  mk_Service : Mk K A.C_Service A.a_initService
  n_atoms : NoAttr K A.C_Kinds "atoms"
  n_many : NoAttr K A.C_Kinds "many"
  n_whole : NoAttr K A.C_Kinds "whole"
  n_holding : NoAttr K A.C_Kinds "holding"
  n_possible : NoAttr K A.C_Kinds "possible"
  n_axioms : NoAttr K A.C_Service "axioms"
  z_len : mg "len" = none
  z_sum : mg "sum" = none
  z_all : mg "all" = none
  z_int : mg "int" = none
  z_list : mg "list" = none
  z_range : mg "range" = none
  z_enumerate : mg "enumerate" = none
  z_ValueError : mg "ValueError" = none
  g_ALL : mg "ALL" = some (.int (0) A.t_ALL)
  g_NO_ONE : mg "NO_ONE" = some (.int (1) A.t_NO_ONE)
  g_NAME : mg "NAME" = some (.int (2) A.t_NAME)
  g_BOTH : mg "BOTH" = some (.int (3) A.t_BOTH)
  g_EITHER : mg "EITHER" = some (.int (4) A.t_EITHER)
  g_NOT : mg "NOT" = some (.int (5) A.t_NOT)
  g_SOME : mg "SOME" = some (.int (6) A.t_SOME)
  g_EVERY : mg "EVERY" = some (.int (7) A.t_EVERY)
  g_MOST_NAME : mg "MOST_NAME" = some (.int (3) A.t_MOST_NAME)
  g_MOST_ROLE : mg "MOST_ROLE" = some (.int (1) A.t_MOST_ROLE)
  g_NO_CONCEPTS : mg "NO_CONCEPTS" = some (.int (-1) A.t_NO_CONCEPTS)
  g_NO_AXIOM : mg "NO_AXIOM" = some (.int (-2) A.t_NO_AXIOM)
  g_NO_MODEL : mg "NO_MODEL" = some (.int (-6) A.t_NO_MODEL)
  g_TOO_MANY : mg "TOO_MANY" = some (.int (-7) A.t_TOO_MANY)
  g_MOST_AXIOMS : mg "MOST_AXIOMS" = some (.int (6) A.t_MOST_AXIOMS)
  g_MOST_ATOMS : mg "MOST_ATOMS" = some (.int (6) A.t_MOST_ATOMS)
  g_DROP : mg "DROP" = some (.int (2) A.t_DROP)
  g_WITH_LIST : mg "WITH_LIST" = some (.ref A.a_WITH_LIST)
  s_WITH_LIST : ∀ H : Hp, SqT K H A.a_WITH_LIST [.int 1, .int 3, .int 4, .int 5, .int 6]
  oex : OexC K A.C_Refused
  iC : PySem.W.findIn K (.ref A.C_Refused) "__init__" = some (some (.ref A.a_initRefused))
  tI : PySem.W.typeIn K (.ref A.a_initRefused) = some (.type "function")
  vV : PySem.W.findCls K (.type "ValueError") (.type "type") "__init__" = some (.val (.builtin "ValueError.__init__"))
  x_code : PySem.W.findIn K (.ref A.C_Refused) "code" = some none
  xf : XfC K A.C_Refused
  eF : PySem.W.exmOne K (.ref A.C_Refused) (.ref A.C_Refused) = some true
/-! ### heaps -/
theorem _root_.L2.Same.seqT {K : PySem.W.Frag} {H H' : Hp} {a : Addr} {xs : List V} (e : Same H H') (h : SqT K H a xs) : SqT K H' a xs := by
  rcases h with (h | ⟨o, h⟩) | h
  · exact .inl (.inl (e _ _ h))
  · exact .inl (.inr ⟨o, e _ _ h⟩)
  · exact .inr h
/-- the tuples stay -/
def TSame (H H' : Hp) : Prop := ∀ b xs, Rd H b (.tup xs) → Rd H' b (.tup xs)
theorem _root_.L2.Same.t {H H' : Hp} (e : Same H H') : TSame H H' := fun b xs h => by
  rcases h with h | ⟨o, h⟩
  · exact .inl (e _ _ h)
  · exact .inr ⟨o, e _ _ h⟩
theorem TSame.refl (H : Hp) : TSame H H := fun _ _ h => h
theorem TSame.trans {H H1 H2 : Hp} (a : TSame H H1) (b : TSame H1 H2) : TSame H H2 := fun c o h => b c o (a c o h)
theorem TSame.seqT {K : PySem.W.Frag} {H H' : Hp} {a : Addr} {xs : List V} (e : TSame H H') (h : SqT K H a xs) : SqT K H' a xs := by
  rcases h with h | h
  · exact .inl (e _ _ h)
  · exact .inr h
/-- a store to a list, to an instance -/
theorem TSame.lst {H : Hp} {f : Addr} {ys : List V} (h : H f = some (.lst ys)) (o : HO) : TSame H (upd H f o) := fun b xs g => by
  rcases g with g | ⟨u, g⟩
  · exact .inl (by rw [upd_ne (ne_of g h (by intro z; cases z))]; exact g)
  · exact .inr ⟨u, by rw [upd_ne (ne_of g h (by intro z; cases z))]; exact g⟩
theorem TSame.ins {H : Hp} {f : Addr} {C dx : Addr} {fs : List (Str × V)} (h : H f = some (.ins C dx fs)) (o : HO) : TSame H (upd H f o) := fun b xs g => by
  rcases g with g | ⟨u, g⟩
  · exact .inl (by rw [upd_ne (ne_of g h (by intro z; cases z))]; exact g)
  · exact .inr ⟨u, by rw [upd_ne (ne_of g h (by intro z; cases z))]; exact g⟩
theorem _root_.L2.Same.new {H : Hp} {p : Addr} (h : H p = none) (o : HO) : Same H (upd H p o) := fun b u q => by rw [upd_ne (ne_of_none q h)]; exact q
/-- a store to an object that is newer than H0 -/
theorem _root_.L2.Same.put {H0 H : Hp} {p : Addr} (e : Same H0 H) (h : H0 p = none) (o : HO) : Same H0 (upd H p o) := fun b u q => by rw [upd_ne (ne_of_none q h)]; exact e b u q
theorem small {n : Nat} (h : n ≤ 16000000) : n ≤ sizeLine := by rw [show sizeLine = 16777216 from by decide]; omega
theorem smallT {n : Nat} (h : n ≤ 16000000) : n < sizeLine := by rw [show sizeLine = 16777216 from by decide]; omega
theorem lk_here {k : Str} {v : V} {r : List (Str × V)} : List.lookup k ((k, v) :: r) = some v := by
  have e : (k == k) = true := beq_self_eq_true k
  simp only [List.lookup, e]
theorem lk_past {k g : Str} {v : V} {r : List (Str × V)} (h : (k == g) = false) : List.lookup k ((g, v) :: r) = List.lookup k r := by
  simp only [List.lookup, h]
theorem put_here {f : Str} {v x : V} {r : List (Str × V)} : putF f v ((f, x) :: r) = (f, v) :: r := if_pos rfl
theorem put_past {f g : Str} {v x : V} {r : List (Str × V)} (h : ¬ g = f) : putF f v ((g, x) :: r) = (g, x) :: putF f v r := if_neg h
theorem if_true_of {c : Bool} {A B : Prop} (hc : c = true) (h : A) : if c = true then A else B := by
  rw [if_pos hc]
  exact h
theorem if_false_of {c : Bool} {A B : Prop} (hc : c = false) (h : B) : if c = true then A else B := by
  rw [hc, if_neg Bool.false_ne_true]
  exact h
/-! ### concepts as nested tuples -/
open Oc (C)
def CRep (K : PySem.W.Frag) (H : Hp) : C → V → Prop
  | .top, v => ∃ a, v = .ref a ∧ SqT K H a [.int 0]
  | .bot, v => ∃ a, v = .ref a ∧ SqT K H a [.int 1]
  | .name n, v => ∃ a, v = .ref a ∧ SqT K H a [.int 2, .int (n : Int)]
  | .and c d, v => ∃ a x y, v = .ref a ∧ SqT K H a [.int 3, x, y] ∧ CRep K H c x ∧ CRep K H d y
  | .or c d, v => ∃ a x y, v = .ref a ∧ SqT K H a [.int 4, x, y] ∧ CRep K H c x ∧ CRep K H d y
  | .not c, v => ∃ a x, v = .ref a ∧ SqT K H a [.int 5, x] ∧ CRep K H c x
  | .some r c, v => ∃ a x, v = .ref a ∧ SqT K H a [.int 6, .int (r : Int), x] ∧ CRep K H c x
  | .all r c, v => ∃ a x, v = .ref a ∧ SqT K H a [.int 7, .int (r : Int), x] ∧ CRep K H c x
def CReps (K : PySem.W.Frag) (H : Hp) : List C → List V → Prop
  | [], [] => True
  | c :: cs, v :: vs => CRep K H c v ∧ CReps K H cs vs
  | _, _ => False
section
variable {K : PySem.W.Frag} {H H' : Hp}
theorem CRep.tmono (e : TSame H H') : ∀ {c : C} {v : V}, CRep K H c v → CRep K H' c v
  | .top, _, ⟨a, h1, h2⟩ => ⟨a, h1, e.seqT h2⟩
  | .bot, _, ⟨a, h1, h2⟩ => ⟨a, h1, e.seqT h2⟩
  | .name _, _, ⟨a, h1, h2⟩ => ⟨a, h1, e.seqT h2⟩
  | .and _ _, _, ⟨a, x, y, h1, h2, h3, h4⟩ => ⟨a, x, y, h1, e.seqT h2, h3.tmono e, h4.tmono e⟩
  | .or _ _, _, ⟨a, x, y, h1, h2, h3, h4⟩ => ⟨a, x, y, h1, e.seqT h2, h3.tmono e, h4.tmono e⟩
  | .not _, _, ⟨a, x, h1, h2, h3⟩ => ⟨a, x, h1, e.seqT h2, h3.tmono e⟩
  | .some _ _, _, ⟨a, x, h1, h2, h3⟩ => ⟨a, x, h1, e.seqT h2, h3.tmono e⟩
  | .all _ _, _, ⟨a, x, h1, h2, h3⟩ => ⟨a, x, h1, e.seqT h2, h3.tmono e⟩
theorem CReps.tmono (e : TSame H H') : ∀ {cs : List C} {vs : List V}, CReps K H cs vs → CReps K H' cs vs
  | [], [], _ => trivial
  | _ :: _, _ :: _, h => ⟨h.1.tmono e, CReps.tmono e h.2⟩
  | [], _ :: _, h => h.elim
  | _ :: _, [], h => h.elim
theorem CRep.mono (e : Same H H') {c : C} {v : V} (h : CRep K H c v) : CRep K H' c v := h.tmono e.t
theorem CReps.mono (e : Same H H') {cs : List C} {vs : List V} (h : CReps K H cs vs) : CReps K H' cs vs := h.tmono e.t
theorem CReps.length : ∀ {cs : List C} {vs : List V}, CReps K H cs vs → vs.length = cs.length
  | [], [], _ => rfl
  | _ :: _, _ :: _, h => congrArg (· + 1) (CReps.length h.2)
  | [], _ :: _, h => h.elim
  | _ :: _, [], h => h.elim
theorem CReps.append : ∀ {cs ds : List C} {vs ws : List V}, CReps K H cs vs → CReps K H ds ws → CReps K H (cs ++ ds) (vs ++ ws)
  | [], _, [], _, _, g => g
  | _ :: _, _, _ :: _, _, h, g => ⟨h.1, CReps.append h.2 g⟩
  | [], _, _ :: _, _, h, _ => h.elim
  | _ :: _, _, [], _, h, _ => h.elim
theorem CReps.one {c : C} {v : V} (h : CRep K H c v) : CReps K H [c] [v] := ⟨h, trivial⟩
theorem CReps.get : ∀ {cs : List C} {vs : List V} {i : Nat} {v : V}, CReps K H cs vs → vs[i]? = some v → ∃ c, cs[i]? = some c ∧ CRep K H c v
  | c :: _, w :: _, 0, v, h, e => ⟨c, rfl, by cases (Option.some.inj e : w = v); exact h.1⟩
  | _ :: _, _ :: _, i + 1, v, h, e => CReps.get (i := i) h.2 e
  | [], [], _, _, _, e => by simp at e
  | [], _ :: _, _, _, h, _ => h.elim
  | _ :: _, [], _, _, h, _ => h.elim
theorem CReps.at : ∀ {cs : List C} {vs : List V} {i : Nat} {c : C}, CReps K H cs vs → cs[i]? = some c → ∃ v, vs[i]? = some v ∧ CRep K H c v
  | d :: _, w :: _, 0, c, h, e => ⟨w, rfl, by cases (Option.some.inj e : d = c); exact h.1⟩
  | _ :: _, _ :: _, i + 1, c, h, e => CReps.at (i := i) h.2 e
  | [], [], _, _, _, e => by simp at e
  | [], _ :: _, _, _, h, _ => h.elim
  | _ :: _, [], _, _, h, _ => h.elim
end
/-- as data -/
def cD : C → PyData
  | .top => .tuple [.int 0]
  | .bot => .tuple [.int 1]
  | .name n => .tuple [.int 2, .int (n : Int)]
  | .and c d => .tuple [.int 3, cD c, cD d]
  | .or c d => .tuple [.int 4, cD c, cD d]
  | .not c => .tuple [.int 5, cD c]
  | .some r c => .tuple [.int 6, .int (r : Int), cD c]
  | .all r c => .tuple [.int 7, .int (r : Int), cD c]
theorem CRep.dp {K : PySem.W.Frag} {H : Hp} : ∀ {c : C} {v : V}, CRep K H c v → Dp K H v (cD c)
  | .top, _, ⟨_, h1, h2⟩ => by subst h1; exact .tup h2 (.cons (.int _) .nil)
  | .bot, _, ⟨_, h1, h2⟩ => by subst h1; exact .tup h2 (.cons (.int _) .nil)
  | .name _, _, ⟨_, h1, h2⟩ => by subst h1; exact .tup h2 (.cons (.int _) (.cons (.int _) .nil))
  | .and _ _, _, ⟨_, _, _, h1, h2, h3, h4⟩ => by subst h1; exact .tup h2 (.cons (.int _) (.cons h3.dp (.cons h4.dp .nil)))
  | .or _ _, _, ⟨_, _, _, h1, h2, h3, h4⟩ => by subst h1; exact .tup h2 (.cons (.int _) (.cons h3.dp (.cons h4.dp .nil)))
  | .not _, _, ⟨_, _, h1, h2, h3⟩ => by subst h1; exact .tup h2 (.cons (.int _) (.cons h3.dp .nil))
  | .some _ _, _, ⟨_, _, h1, h2, h3⟩ => by subst h1; exact .tup h2 (.cons (.int _) (.cons (.int _) (.cons h3.dp .nil)))
  | .all _ _, _, ⟨_, _, h1, h2, h3⟩ => by subst h1; exact .tup h2 (.cons (.int _) (.cons (.int _) (.cons h3.dp .nil)))
theorem CReps.dp {K : PySem.W.Frag} {H : Hp} : ∀ {cs : List C} {vs : List V}, CReps K H cs vs → DpAll K H vs (cs.map cD)
  | [], [], _ => .nil
  | _ :: _, _ :: _, h => .cons h.1.dp (CReps.dp h.2)
  | [], _ :: _, h => h.elim
  | _ :: _, [], h => h.elim
theorem cD_lay : ∀ c : C, (cD c).canLay0 = true
  | .top => by simp [cD, PyData.canLay0, PyData.canLayAll0]
  | .bot => by simp [cD, PyData.canLay0, PyData.canLayAll0]
  | .name _ => by simp [cD, PyData.canLay0, PyData.canLayAll0]
  | .and c d => by simp [cD, PyData.canLay0, PyData.canLayAll0, cD_lay c, cD_lay d]
  | .or c d => by simp [cD, PyData.canLay0, PyData.canLayAll0, cD_lay c, cD_lay d]
  | .not c => by simp [cD, PyData.canLay0, PyData.canLayAll0, cD_lay c]
  | .some _ c => by simp [cD, PyData.canLay0, PyData.canLayAll0, cD_lay c]
  | .all _ c => by simp [cD, PyData.canLay0, PyData.canLayAll0, cD_lay c]
theorem cD_depth : ∀ c : C, (cD c).depth ≤ dep c
  | .top => by simp [cD, PyData.depth, PyData.depthAll, dep]
  | .bot => by simp [cD, PyData.depth, PyData.depthAll, dep]
  | .name _ => by simp [cD, PyData.depth, PyData.depthAll, dep]
  | .and c d => by have := cD_depth c; have := cD_depth d; simp only [cD, PyData.depth, PyData.depthAll, dep]; omega
  | .or c d => by have := cD_depth c; have := cD_depth d; simp only [cD, PyData.depth, PyData.depthAll, dep]; omega
  | .not c => by have := cD_depth c; simp only [cD, PyData.depth, PyData.depthAll, dep]; omega
  | .some _ c => by have := cD_depth c; simp only [cD, PyData.depth, PyData.depthAll, dep]; omega
  | .all _ c => by have := cD_depth c; simp only [cD, PyData.depth, PyData.depthAll, dep]; omega
theorem cD_shaped {c : C} (h : dep c ≤ 60) : SeqAt.shaped (cD c) = true := by
  have h1 := cD_depth c
  show ((cD c).canLay0 && decide ((cD c).depth ≤ 64)) = true
  rw [Bool.and_eq_true]
  exact ⟨cD_lay c, decide_eq_true (by omega)⟩
theorem cDs_lay : ∀ cs : List C, PyData.canLayAll0 (cs.map cD) = true
  | [] => by simp [PyData.canLayAll0]
  | c :: cs => by simp [PyData.canLayAll0, cD_lay c, cDs_lay cs]
theorem cDs_depth : ∀ {cs : List C}, (∀ c ∈ cs, dep c ≤ 60) → PyData.depthAll (cs.map cD) ≤ 60
  | [], _ => by simp [PyData.depthAll]
  | c :: cs, h => by
    have h1 := cDs_depth (cs := cs) fun d hd => h d (List.mem_cons_of_mem _ hd)
    have h2 := cD_depth c
    have h3 := h c List.mem_cons_self
    simp only [List.map_cons, PyData.depthAll]
    omega
theorem cDs_shaped {cs : List C} (h : ∀ c ∈ cs, dep c ≤ 60) : SeqAt.shaped (.list (cs.map cD)) = true := by
  have h1 := cDs_depth h
  show (PyData.canLay0 (.list (cs.map cD)) && decide (PyData.depth (.list (cs.map cD)) ≤ 64)) = true
  rw [Bool.and_eq_true]
  refine ⟨by simp only [PyData.canLay0]; exact cDs_lay cs, decide_eq_true ?_⟩
  simp only [PyData.depth]
  omega
theorem natI_beq (a b : Nat) : ((a : Int) == (b : Int)) = decide (a = b) := by
  by_cases h : a = b
  · subst h; simp
  · rw [decide_eq_false h, beq_eq_false_iff_ne]
    omega
theorem eqv_tt (xs ys : List PyData) : PyData.eqv (.tuple xs) (.tuple ys) = PyData.eqvAll xs ys := by simp only [PyData.eqv]
theorem eqv_ii (i j : Int) : PyData.eqv (.int i) (.int j) = (i == j) := by simp only [PyData.eqv]
theorem eqv_cc (x y : PyData) (xs ys : List PyData) : PyData.eqvAll (x :: xs) (y :: ys) = (PyData.eqv x y && PyData.eqvAll xs ys) := by simp only [PyData.eqvAll]
theorem eqv_nn : PyData.eqvAll [] [] = true := by simp only [PyData.eqvAll]
theorem eqv_hd {i j : Int} (h : (i == j) = false) (xs ys : List PyData) : PyData.eqv (.tuple (.int i :: xs)) (.tuple (.int j :: ys)) = false := by rw [eqv_tt, eqv_cc, eqv_ii, h, Bool.false_and]
theorem eqv_h1 (i : Int) (xs ys : List PyData) : PyData.eqv (.tuple (.int i :: xs)) (.tuple (.int i :: ys)) = PyData.eqvAll xs ys := by rw [eqv_tt, eqv_cc, eqv_ii, beq_self_eq_true, Bool.true_and]
theorem eqv_c2 (x y : PyData) : PyData.eqvAll [x] [y] = PyData.eqv x y := by rw [eqv_cc, eqv_nn, Bool.and_true]
theorem cD_eqv : ∀ c d : C, PyData.eqv (cD c) (cD d) = decide (c = d) := by
  intro c
  induction c with
  | top => intro d; cases d <;> simp only [cD] <;> first | (rw [eqv_h1, eqv_nn]; simp) | (rw [eqv_hd (by decide)]; simp)
  | bot => intro d; cases d <;> simp only [cD] <;> first | (rw [eqv_h1, eqv_nn]; simp) | (rw [eqv_hd (by decide)]; simp)
  | name a => intro d; cases d <;> simp only [cD] <;> first | (rw [eqv_h1, eqv_c2, eqv_ii, natI_beq]; simp) | (rw [eqv_hd (by decide)]; simp)
  | and c d h1 h2 => intro e; cases e <;> simp only [cD] <;> first | (rw [eqv_h1, eqv_cc, eqv_c2, h1, h2]; simp) | (rw [eqv_hd (by decide)]; simp)
  | or c d h1 h2 => intro e; cases e <;> simp only [cD] <;> first | (rw [eqv_h1, eqv_cc, eqv_c2, h1, h2]; simp) | (rw [eqv_hd (by decide)]; simp)
  | not c h => intro e; cases e <;> simp only [cD] <;> first | (rw [eqv_h1, eqv_c2, h]; simp) | (rw [eqv_hd (by decide)]; simp)
  | some r c h => intro e; cases e <;> simp only [cD] <;> first | (rw [eqv_h1, eqv_cc, eqv_c2, eqv_ii, natI_beq, h]; simp) | (rw [eqv_hd (by decide)]; simp)
  | all r c h => intro e; cases e <;> simp only [cD] <;> first | (rw [eqv_h1, eqv_cc, eqv_c2, eqv_ii, natI_beq, h]; simp) | (rw [eqv_hd (by decide)]; simp)
theorem any_cD (cs : List C) (c : C) : ((cs.map cD).any fun z => PyData.eqv z (cD c)) = decide (c ∈ cs) := by
  induction cs with
  | nil => simp
  | cons d r ih =>
    rw [List.map_cons, List.any_cons, ih, cD_eqv]
    rw [Bool.eq_iff_iff]
    simp
    constructor
    · rintro (h | h)
      · exact .inl h.symm
      · exact .inr h
    · rintro (h | h)
      · exact .inl h.symm
      · exact .inr h
/-- numbers as values -/
def nV (l : List Nat) : List V := l.map fun (n : Nat) => V.int (n : Int)
theorem nV_length (l : List Nat) : (nV l).length = l.length := List.length_map _
theorem nV_append (l m : List Nat) : nV (l ++ m) = nV l ++ nV m := List.map_append
theorem nV_get {l : List Nat} {i : Nat} {v : V} (h : (nV l)[i]? = some v) : ∃ n, l[i]? = some n ∧ v = .int (n : Int) := by
  unfold nV at h
  rw [List.getElem?_map] at h
  cases e : l[i]? with
  | none => rw [e] at h; cases h
  | some n => rw [e] at h; exact ⟨n, rfl, (Option.some.inj h).symm⟩
theorem nV_at {l : List Nat} {i n : Nat} (h : l[i]? = some n) : (nV l)[i]? = some (.int (n : Int)) := by
  unfold nV
  rw [List.getElem?_map, h]
  rfl
theorem sz0 : ([] : List V).length ≤ sizeLine := small (by decide)
theorem sz1 {x : V} : [x].length ≤ sizeLine := small (by simp)
theorem sz2 {x y : V} : [x, y].length ≤ sizeLine := small (by simp)
theorem sz3 {x y z : V} : [x, y, z].length ≤ sizeLine := small (by simp)
/-! ### axioms: tuples of two concepts -/
open Oc (Axiom)
def ARep (K : PySem.W.Frag) (H : Hp) (x : Axiom) (v : V) : Prop := ∃ a y z, v = .ref a ∧ SqT K H a [y, z] ∧ CRep K H x.1 y ∧ CRep K H x.2 z
def AReps (K : PySem.W.Frag) (H : Hp) : List Axiom → List V → Prop
  | [], [] => True
  | c :: cs, v :: vs => ARep K H c v ∧ AReps K H cs vs
  | _, _ => False
section
variable {K : PySem.W.Frag} {H H' : Hp}
theorem ARep.tmono (e : TSame H H') {x : Axiom} {v : V} (h : ARep K H x v) : ARep K H' x v := by
  obtain ⟨a, y, z, h1, h2, h3, h4⟩ := h
  exact ⟨a, y, z, h1, e.seqT h2, h3.tmono e, h4.tmono e⟩
theorem AReps.tmono (e : TSame H H') : ∀ {cs : List Axiom} {vs : List V}, AReps K H cs vs → AReps K H' cs vs
  | [], [], _ => trivial
  | _ :: _, _ :: _, h => ⟨h.1.tmono e, AReps.tmono e h.2⟩
  | [], _ :: _, h => h.elim
  | _ :: _, [], h => h.elim
theorem AReps.mono (e : Same H H') {cs : List Axiom} {vs : List V} (h : AReps K H cs vs) : AReps K H' cs vs := h.tmono e.t
theorem AReps.length : ∀ {cs : List Axiom} {vs : List V}, AReps K H cs vs → vs.length = cs.length
  | [], [], _ => rfl
  | _ :: _, _ :: _, h => congrArg (· + 1) (AReps.length h.2)
  | [], _ :: _, h => h.elim
  | _ :: _, [], h => h.elim
theorem AReps.append : ∀ {cs ds : List Axiom} {vs ws : List V}, AReps K H cs vs → AReps K H ds ws → AReps K H (cs ++ ds) (vs ++ ws)
  | [], _, [], _, _, g => g
  | _ :: _, _, _ :: _, _, h, g => ⟨h.1, AReps.append h.2 g⟩
  | [], _, _ :: _, _, h, _ => h.elim
  | _ :: _, _, [], _, h, _ => h.elim
theorem AReps.get : ∀ {cs : List Axiom} {vs : List V} {i : Nat} {v : V}, AReps K H cs vs → vs[i]? = some v → ∃ c, cs[i]? = some c ∧ ARep K H c v
  | c :: _, w :: _, 0, v, h, e => ⟨c, rfl, by cases (Option.some.inj e : w = v); exact h.1⟩
  | _ :: _, _ :: _, i + 1, v, h, e => AReps.get (i := i) h.2 e
  | [], [], _, _, _, e => by simp at e
  | [], _ :: _, _, _, h, _ => h.elim
  | _ :: _, [], _, _, h, _ => h.elim
theorem AReps.take : ∀ {cs : List Axiom} {vs : List V} (i : Nat), AReps K H cs vs → AReps K H (cs.take i) (vs.take i)
  | _, _, 0, _ => trivial
  | [], [], _ + 1, _ => trivial
  | _ :: _, _ :: _, i + 1, h => ⟨h.1, AReps.take i h.2⟩
  | [], _ :: _, _ + 1, h => h.elim
  | _ :: _, [], _ + 1, h => h.elim
theorem AReps.drop : ∀ {cs : List Axiom} {vs : List V} (i : Nat), AReps K H cs vs → AReps K H (cs.drop i) (vs.drop i)
  | _, _, 0, h => h
  | [], [], _ + 1, _ => trivial
  | _ :: _, _ :: _, i + 1, h => AReps.drop i h.2
  | [], _ :: _, _ + 1, h => h.elim
  | _ :: _, [], _ + 1, h => h.elim
end
theorem hu65 {k : Nat} {A : Around} (hr : Room k A) : A.units + 65 < cLine := by have := hr.un; omega
/-! ### within a comprehension: the readings with K by its letter -/
section
variable {X : Cx} {K : PySem.W.Frag}
theorem pi_listK (hK : X.K = K) {tg l : Expr} {tl : TE} (h : PE X l tl) : PI X tg l (iList K tl) := by
  subst hK
  exact pi_list h
theorem ix_listK (hK : X.K = K) : IxR X (rIxL K) := by
  subst hK
  exact ix_list
theorem ix_tupK (hK : X.K = K) : IxR X (rIxT K) := by
  subst hK
  exact ix_tup
theorem cr_allK (hK : X.K = K) (hc : X.calm = true) : CallR X (.builtin "all") (rAll K) := by
  subst hK
  exact cr_all hc
theorem pe_fldK (hK : X.K = K) {e : Expr} {f : Str} {pos : Pos} {ta : TE} (he : PE X e ta) (hb : attributeBase e f X.env (eval e X.env) = eval e X.env) : PE X (.Attribute e f pos) (tFld K ta f) := by
  subst hK
  exact pe_fld he hb
end
end Ca
namespace Ca
open PySem PySem.Spec PyProof.Rows L2
open Oc (C Axiom)
section
variable {P : Program} {w : World} {K : PySem.W.Frag} {mg : Str → Option Value} {base : Heap} {A : Ads}
/-! ### errors -/
/-- an error with this code may leave, all that was tracked as it was -/
def Err (A : Ads) (c : Int) (H : Hp) (E : XK) : Prop := ∀ d H', Same H H' → H' d = some (.xd [(("code" : Str), .int c)]) → E (.ref A.C_Refused) (some d) H'
theorem Err.mono {c : Int} {H H' : Hp} {E : XK} (h : Err A c H E) (e : Same H H') : Err A c H' E := fun d H2 e2 => h d H2 (e.trans e2)
def spInitRefused (A : Ads) : Sp := fun vs H Q _ => ∃ (p : Addr) (c : Int), vs = [.ref p, .int c] ∧ H p = some (exo p A.C_Refused none) ∧
  ∀ dx, H dx = none → dx ≠ p → Q .non (upd (upd H dx (exd dx [(("code" : Str), .int c)])) p (exo p A.C_Refused (some dx)))
theorem ok_initRefused (T : Txt K mg A) : FnOk P w K mg base CX0 1 A.a_initRefused A.d_initRefused ["self", "code"] (spInitRefused A) := by
  refine T.f_initRefused.ok sc_initRefused (fun vs H Q E h => ?_) (fun cdv A' outer s H vs Q E hr h => ?_)
  · obtain ⟨p, c, rfl, _⟩ := h
    rfl
  obtain ⟨p, c, rfl, hp, q⟩ := h
  refine ⟨_, (pss_cons (ps_expr (pe_veinit (by rfl) T.z_ValueError T.vV (pa_cons (pv 0) (pa_cons pe_str pa_nil))))
    (pss_one (ps_ost (pv 0) (pv 1)))), ?_⟩
  refine ⟨_, rfl, p, A.C_Refused, _, rfl, (by show 1 ≤ 1000; decide), T.oex, hp, ?_⟩
  refine ⟨_, rfl, _, rfl, p, A.C_Refused, rfl, T.oex, T.x_code, .inl ⟨hp, fun dx n ne => q dx n ne⟩⟩
def spWant (A : Ads) : Sp := fun vs H Q E => ∃ (b : Bool) (c : Int), vs = [.bl b, .int c] ∧ (b = true → Q .non H) ∧ (b = false → Err A c H E)
theorem ok_want (T : Txt K mg A) : FnOk P w K mg base (L2.CX P w) 3 A.a_want A.d_want ["truth", "code"] (spWant A) := by
  refine T.f_want.okX sc_want (fun vs H Q E h => ?_) (fun cdv A' outer s H vs Q E hr h => ?_)
  · obtain ⟨p, c, rfl, _⟩ := h
    rfl
  obtain ⟨b, c, rfl, q1, q2⟩ := h
  refine ⟨_, (pss_one (ps_if (pt_not (pt_val (pv 0))) (pss_one (ps_raise rfl (takes_of rfl rfl rfl rfl) (pmk_oex T.oex T.iC T.tI (ok_initRefused T) (hr.mono (by omega)) T.b_initRefused .nil pass0 (by rfl) T.g_Refused (by exact (pa_cons (pv 1) pa_nil))))) pss_nil)), ?_⟩
  refine ⟨_, rfl, b, rfl, ?_⟩
  cases b with
  | true => exact q1 rfl
  | false =>
    refine ⟨_, rfl, (by show 1 ≤ 1000; decide), fun a ha => ?_⟩
    refine ⟨a, c, rfl, upd_same, fun dx n ne => ⟨rfl, dx, [(("code" : Str), .int c)], upd_same, by rw [upd_ne ne, upd_same], ?_, ?_⟩⟩
    · rw [upd_ne ne] at n; exact n
    · rw [upd_ne ne] at n
      refine q2 rfl dx _ (fun b o hb => ?_) upd_same
      rw [upd_ne (ne_of_none hb n), del_ne (ne_of_none hb ha), upd_ne (ne_of_none hb ha), upd_ne (ne_of_none hb n), upd_ne (ne_of_none hb ha)]
      exact hb
def spNumberAt (K : PySem.W.Frag) (A : Ads) : Sp := fun vs H Q E => ∃ (a : Addr) (l : List Nat) (i m : Nat), vs = [.ref a, .int (i : Int), .int (m : Int)] ∧ SqL K H a (nV l) ∧
  (∀ n, l[i]? = some n → n ≤ m → Q (.int (n : Int)) H) ∧ ((∀ n, l[i]? = some n → ¬ n ≤ m) → Err A (-1) H E)
theorem ok_number_at (T : Txt K mg A) : FnOk P w K mg base (L2.CX P w) 4 A.a_number_at A.d_number_at ["numbers", "at", "most"] (spNumberAt K A) := by
  refine T.f_number_at.okX sc_number_at (fun vs H Q E h => ?_) (fun cdv A' outer s H vs Q E hr h => ?_)
  · obtain ⟨a, l, i, m, rfl, _⟩ := h
    rfl
  obtain ⟨a, l, i, m, rfl, hS, q1, q2⟩ := h
  refine ⟨_, (pss_cons (ps_expr (pe_call (ok_want T) (hr.mono (by omega)) (by rfl) T.g_want T.f_want.kp T.b_want .nil (passes_call (takes_of rfl rfl rfl rfl) (fun _ _ _ _ h => h)) (by exact (pa_cons (pe_and (pe_cmpR op_lt (pv 1) (pe_callB call_len_seq (by rfl) T.z_len PySem.boot_len (pa_cons (pv 0) pa_nil)) (nomark _)) (pe_one (pe_cmpR op_le (pe_ix ix_list (pv 0) (pv 1) (fun _ _ => rfl)) (pv 2) (nomark _)))) (pa_cons (pe_glob (v := .int (-1)) rfl T.g_NO_CONCEPTS ⟨_, rfl⟩) pa_nil)))))
    (pss_one (ps_ret (pe_ix ix_list (pv 0) (pv 1) (fun _ _ => rfl))))), ?_⟩
  refine ⟨_, rfl, _, rfl, a, _, rfl, .inl hS, _, _, rfl, rfl, _, rfl, ?_⟩
  rw [nV_length]
  by_cases c : i < l.length
  · refine if_true_of (decide_eq_true (by omega)) ?_
    obtain ⟨n, hn⟩ : ∃ n, l[i]? = some n := ⟨l[i], List.getElem?_eq_getElem c⟩
    have hat : atI (nV l) ((i : Nat) : Int) = some (.int (n : Int)) := atI_nat (nV_at hn)
    refine ⟨_, rfl, _, rfl, a, _, _, _, rfl, rfl, hS, hat, _, rfl, _, _, rfl, rfl, ?_⟩
    refine ⟨_, _, rfl, fun e => ?_, fun e => ?_⟩
    · refine ⟨_, rfl, _, rfl, a, _, _, _, rfl, rfl, hS, hat, q1 n hn ?_⟩
      have := of_decide_eq_true e; omega
    · refine q2 fun n' hn' => ?_
      have : n' = n := Option.some.inj (hn'.symm.trans hn)
      have := of_decide_eq_false e; omega
  · refine if_false_of (decide_eq_false (by omega)) ?_
    refine ⟨_, _, rfl, fun e => (by cases e), fun _ => ?_⟩
    refine q2 fun n hn => ?_
    rw [List.getElem?_eq_none (by omega)] at hn
    cases hn
end
end Ca
namespace Ca
open PySem PySem.Spec PyProof.Rows L2
open Oc (C Axiom)
section
variable {P : Program} {w : World} {K : PySem.W.Frag} {mg : Str → Option Value} {base : Heap} {A : Ads}
/-! ### concepts, read from numbers -/
def spConceptAt (K : PySem.W.Frag) (A : Ads) (n : Nat) : Sp := fun vs H Q E => ∃ (a : Addr) (l : List Nat) (i : Nat), vs = [.ref a, .int (i : Int)] ∧ SqL K H a (nV l) ∧ i ≤ l.length ∧ l.length - i < n ∧ l.length ≤ 30 ∧
  (Oc.read n (l.drop i) = none → Err A (-1) H E) ∧
  (∀ c r, Oc.read n (l.drop i) = some (c, r) → ∀ H' t v z, Same H H' → z = ((l.length - r.length : Nat) : Int) → H' t = some (.tup [v, .int z]) → CRep K H' c v → Q (.ref t) H')
def spPartsAt (K : PySem.W.Frag) (A : Ads) (n : Nat) : Sp := fun vs H Q E => ∃ (a : Addr) (l : List Nat) (i k : Nat), vs = [.ref a, .int (i : Int), .int (k : Int)] ∧ SqL K H a (nV l) ∧ i ≤ l.length ∧ l.length - i < n ∧ l.length ≤ 30 ∧ k ≤ 2 ∧
  (readMany n k (l.drop i) = none → Err A (-1) H E) ∧
  (∀ cs r, readMany n k (l.drop i) = some (cs, r) → ∀ H' t u xs z, Same H H' → z = ((l.length - r.length : Nat) : Int) → H' t = some (.tup [.ref u, .int z]) → SqT K H' u xs → CReps K H' cs xs → Q (.ref t) H')
theorem none_concept {f : Addr} {fd : FuncData} {k : Nat} : FnOk P w K mg base (L2.CX P w) k f fd ["numbers", "at"] (spConceptAt K A 0) := by
  have no : ∀ vs H Q E, ¬ spConceptAt K A 0 vs H Q E := fun vs H Q E h => by
    obtain ⟨a, l, i, _, _, _, h1, _⟩ := h
    omega
  exact ⟨fun vs H Q E h => absurd h (no vs H Q E), fun A outer s H args us vs Q E _ _ _ _ h => absurd h (no vs H Q E)⟩
theorem none_parts {f : Addr} {fd : FuncData} {k : Nat} : FnOk P w K mg base (L2.CX P w) k f fd ["numbers", "at", "many"] (spPartsAt K A 0) := by
  have no : ∀ vs H Q E, ¬ spPartsAt K A 0 vs H Q E := fun vs H Q E h => by
    obtain ⟨a, l, i, k, _, _, _, h1, _⟩ := h
    omega
  exact ⟨fun vs H Q E h => absurd h (no vs H Q E), fun A outer s H args us vs Q E _ _ _ _ h => absurd h (no vs H Q E)⟩
/-- from l.drop i on -/
theorem cut_pos {l : List Nat} {i k : Nat} (hk : k ≤ (l.drop i).length) (hi : i ≤ l.length) : (l.drop i).drop k = l.drop (i + k) ∧ l.length - (l.drop (i + k)).length = i + k ∧ i + k ≤ l.length := by
  rw [List.length_drop] at hk
  refine ⟨by rw [List.drop_drop], by rw [List.length_drop]; omega, by omega⟩
theorem ok_parts_at {n : Nat} (T : Txt K mg A) (G_concept_at : FnOk P w K mg base (L2.CX P w) (2 * n + 4) A.a_concept_at A.d_concept_at ["numbers", "at"] (spConceptAt K A n)) :
    FnOk P w K mg base (L2.CX P w) (2 * n + 5) A.a_parts_at A.d_parts_at ["numbers", "at", "many"] (spPartsAt K A n) := by
  refine T.f_parts_at.okX sc_parts_at (fun vs H Q E h => ?_) (fun cdv A' outer s H vs Q E hr h => ?_)
  · obtain ⟨a, l, i, k, rfl, _⟩ := h
    rfl
  obtain ⟨a, l, i, k, rfl, hS, hi, hn, h30, hk, q1, q2⟩ := h
  refine ⟨_, (pss_cons (ps_set (i := 3) sc_parts_at.nd rfl (Or.inl rfl) (pe_tup pa_nil))
    (pss_cons (ps_for (passes_of rfl) rfl (pi_range1 (by rfl) T.z_range (pa_cons (pv 2) pa_nil)) (pg_name (i := 4) sc_parts_at.nd rfl (Or.inl rfl)) (pss_cons (ps_asg (pe_call G_concept_at (hr.mono (by omega)) (by rfl) T.g_concept_at T.f_concept_at.kp T.b_concept_at .nil (passes_call (takes_of rfl rfl rfl rfl) (fun _ _ _ _ h => h)) (by exact (pa_cons (pv 0) (pa_cons (pv 1) pa_nil)))) (pg_tup rfl (pgs_cons (pg_name (i := 5) sc_parts_at.nd rfl (Or.inl rfl)) (pgs_cons (pg_name (i := 1) sc_parts_at.nd rfl (Or.inl rfl)) pgs_nil))))
    (pss_one (ps_set (i := 3) sc_parts_at.nd rfl (Or.inl rfl) (pe_op op_catA (pv 3) (pe_tup (pa_cons (pv 5) pa_nil)))))))
    (pss_one (ps_ret (pe_tup (pa_cons (pv 3) (pa_cons (pv 1) pa_nil))))))), ?_⟩
  refine ⟨sz0, fun p hp => ?_⟩
  have g0 : Same H (upd H p (.tup [])) := Same.new hp _
  refine ⟨_, rfl, (k : Int), rfl, by omega, by omega, for_range (lo := 0) (n := (k : Int).toNat) (fun j σ H1 => ∃ (cs : List C) (r : List Nat) (u : Addr) (xs : List V) (x1 x2 : Option V), readMany n j (l.drop i) = some (cs, r) ∧ (∃ m, i ≤ m ∧ m ≤ l.length ∧ r = l.drop m) ∧ Same H H1 ∧ SqT K H1 u xs ∧ CReps K H1 cs xs ∧
    σ = [some (.ref a), some (.int ((l.length - r.length : Nat) : Int)), some (.int (k : Int)), some (.ref u), x1, x2]) ?_ ?_ ?_⟩
  · refine ⟨[], l.drop i, p, [], none, none, rfl, ⟨i, Nat.le_refl _, hi, rfl⟩, g0, SqT.of upd_same, trivial, ?_⟩
    rw [List.length_drop, show l.length - (l.length - i) = i by omega]
    rfl
  · rintro j σ H1 hj ⟨cs, r, u, xs, x1, x2, hr1, ⟨m, m1, m2, rfl⟩, g1, hu, hcs, rfl⟩
    have em : l.length - (l.drop m).length = m := by rw [List.length_drop]; omega
    rw [em]
    refine ⟨_, rfl, _, rfl, a, l, m, rfl, g1.seq hS, m2, by omega, h30, fun hno => ?_, fun c r' hc H2 t v z g2 ez ht hv => ?_⟩
    · exact (q1 (rm_none' (rm_stop hr1 hno) (by omega))).mono g1
    · have gc := got _ _ _ _ hc
      obtain ⟨k2, a2, b2, rfl⟩ := gc.cut
      obtain ⟨c1, c2, c3⟩ := cut_pos b2 m2
      rw [c1] at ez hc
      rw [c2] at ez
      subst ez
      refine ⟨t, _, rfl, SqT.of ht, rfl, _, _, rfl, _, _, rfl, rfl, ?_⟩
      refine ⟨_, rfl, _, rfl, sz1, fun p2 hp2 => ?_⟩
      have g3 : Same H2 (upd H2 p2 (.tup [v])) := Same.new hp2 _
      have hu3 : SqT K (upd H2 p2 (.tup [v])) u xs := g3.seqT (g2.seqT hu)
      have hcs' : CReps K (upd H2 p2 (.tup [v])) (cs ++ [c]) (xs ++ [v]) := ((hcs.mono g2).mono g3).append (CReps.one (hv.mono g3))
      have hl := hcs.length
      have hcl := rm_len hr1
      have e2 : l.length - (l.drop (m + k2)).length = m + k2 := c2
      have key : ∀ (H3 : Hp) (u3 : Addr), Same (upd H2 p2 (.tup [v])) H3 → SqT K H3 u3 (xs ++ [v]) → (∃ (cs : List C) (r : List Nat) (u : Addr) (xs : List V) (x1 x2 : Option V), readMany n (j + 1) (l.drop i) = some (cs, r) ∧ (∃ m, i ≤ m ∧ m ≤ l.length ∧ r = l.drop m) ∧ Same H H3 ∧ SqT K H3 u xs ∧ CReps K H3 cs xs ∧
          [some (V.ref a), some (.int ((m + k2 : Nat) : Int)), some (.int (k : Int)), some (.ref u3), some (.int (0 + (j : Int))), some v] = [some (V.ref a), some (.int ((l.length - r.length : Nat) : Int)), some (.int (k : Int)), some (.ref u), x1, x2]) := fun H3 u3 g4 hu4 =>
        ⟨cs ++ [c], l.drop (m + k2), u3, xs ++ [v], _, _, rm_more hr1 hc, ⟨m + k2, by omega, c3, rfl⟩, ((g1.trans g2).trans g3).trans g4, hu4, hcs'.mono g4, by rw [e2]⟩
      refine ⟨u, p2, xs, [v], rfl, rfl, hu3, SqT.of upd_same, small (by rw [hl, hcl]; simp; omega), fun ex => ?_, fun _ ey => (by cases ey), fun nx _ p3 hp3 => ?_⟩
      · subst ex
        exact key _ _ (Same.refl _) (SqT.of upd_same)
      · exact key _ _ (Same.new hp3 _) (SqT.of upd_same)
  · rintro σ H1 ⟨cs, r, u, xs, x1, x2, hr1, ⟨m, m1, m2, rfl⟩, g1, hu, hcs, rfl⟩
    have ek : (k : Int).toNat = k := by omega
    rw [ek] at hr1
    refine ⟨_, rfl, _, rfl, sz2, fun t ht => ?_⟩
    have g2 : Same H1 (upd H1 t (.tup [.ref u, .int ((l.length - (l.drop m).length : Nat) : Int)])) := Same.new ht _
    exact q2 _ _ hr1 _ t u xs _ (g1.trans g2) rfl upd_same (g2.seqT hu) (hcs.mono g2)
theorem head_at {l : List Nat} {i n : Nat} (h : l[i]? = some n) : l.drop i = n :: l.drop (i + 1) ∧ i < l.length := by
  obtain ⟨hi, e⟩ := List.getElem?_eq_some_iff.mp h
  rw [← e]
  exact ⟨List.drop_eq_getElem_cons hi, hi⟩
theorem ok_concept_at {n : Nat} (T : Txt K mg A) (G_parts_at : FnOk P w K mg base (L2.CX P w) (2 * n + 5) A.a_parts_at A.d_parts_at ["numbers", "at", "many"] (spPartsAt K A n)) :
    FnOk P w K mg base (L2.CX P w) (2 * (n + 1) + 4) A.a_concept_at A.d_concept_at ["numbers", "at"] (spConceptAt K A (n + 1)) := by
  refine T.f_concept_at.okX sc_concept_at (fun vs H Q E h => ?_) (fun cdv A' outer s H vs Q E hr h => ?_)
  · obtain ⟨a, l, i, rfl, _⟩ := h
    rfl
  obtain ⟨a, l, i, rfl, hS, hi, hn, h30, q1, q2⟩ := h
  refine ⟨_, (pss_cons (ps_set (i := 2) sc_concept_at.nd rfl (Or.inl rfl) (pe_call (ok_number_at T) (hr.mono (by omega)) (by rfl) T.g_number_at T.f_number_at.kp T.b_number_at .nil (passes_call (takes_of rfl rfl rfl rfl) (fun _ _ _ _ h => h)) (by exact (pa_cons (pv 0) (pa_cons (pv 1) (pa_cons (pe_glob (v := .int (7)) rfl T.g_EVERY ⟨_, rfl⟩) pa_nil))))))
    (pss_cons (ps_if (pt_cmpR op_in_seq (pv 2) (pe_tup (pa_cons (pe_glob (v := .int (0)) rfl T.g_ALL ⟨_, rfl⟩) (pa_cons (pe_glob (v := .int (1)) rfl T.g_NO_ONE ⟨_, rfl⟩) pa_nil))) (by rfl)) (pss_one (ps_ret (pe_tup (pa_cons (pe_tup (pa_cons (pv 2) pa_nil)) (pa_cons (pe_op op_add (pv 1) pe_int) pa_nil))))) pss_nil)
    (pss_cons (ps_if (pt_cmpR op_eq (pv 2) (pe_glob (v := .int (2)) rfl T.g_NAME ⟨_, rfl⟩) (nomark _)) (pss_one (ps_ret (pe_tup (pa_cons (pe_tup (pa_cons (pv 2) (pa_cons (pe_call (ok_number_at T) (hr.mono (by omega)) (by rfl) T.g_number_at T.f_number_at.kp T.b_number_at .nil (passes_call (takes_of rfl rfl rfl rfl) (fun _ _ _ _ h => h)) (by exact (pa_cons (pv 0) (pa_cons (pe_op op_add (pv 1) pe_int) (pa_cons (pe_glob (v := .int (3)) rfl T.g_MOST_NAME ⟨_, rfl⟩) pa_nil))))) pa_nil))) (pa_cons (pe_op op_add (pv 1) pe_int) pa_nil))))) pss_nil)
    (pss_cons (ps_if (pt_cmpR op_in_seq (pv 2) (pe_tup (pa_cons (pe_glob (v := .int (6)) rfl T.g_SOME ⟨_, rfl⟩) (pa_cons (pe_glob (v := .int (7)) rfl T.g_EVERY ⟨_, rfl⟩) pa_nil))) (by rfl)) (pss_cons (ps_set (i := 3) sc_concept_at.nd rfl (Or.inl rfl) (pe_call (ok_number_at T) (hr.mono (by omega)) (by rfl) T.g_number_at T.f_number_at.kp T.b_number_at .nil (passes_call (takes_of rfl rfl rfl rfl) (fun _ _ _ _ h => h)) (by exact (pa_cons (pv 0) (pa_cons (pe_op op_add (pv 1) pe_int) (pa_cons (pe_glob (v := .int (1)) rfl T.g_MOST_ROLE ⟨_, rfl⟩) pa_nil))))))
    (pss_cons (ps_asg (pe_call G_parts_at (hr.mono (by omega)) (by rfl) T.g_parts_at T.f_parts_at.kp T.b_parts_at .nil (passes_call (takes_of rfl rfl rfl rfl) (fun _ _ _ _ h => h)) (by exact (pa_cons (pv 0) (pa_cons (pe_op op_add (pv 1) pe_int) (pa_cons pe_int pa_nil))))) (pg_tup rfl (pgs_cons (pg_name (i := 4) sc_concept_at.nd rfl (Or.inl rfl)) (pgs_cons (pg_name (i := 5) sc_concept_at.nd rfl (Or.inl rfl)) pgs_nil))))
    (pss_one (ps_ret (pe_tup (pa_cons (pe_op op_catA (pe_tup (pa_cons (pv 2) (pa_cons (pv 3) pa_nil))) (pv 4)) (pa_cons (pv 5) pa_nil))))))) pss_nil)
    (pss_cons (ps_asg (pe_call G_parts_at (hr.mono (by omega)) (by rfl) T.g_parts_at T.f_parts_at.kp T.b_parts_at .nil (passes_call (takes_of rfl rfl rfl rfl) (fun _ _ _ _ h => h)) (by exact (pa_cons (pv 0) (pa_cons (pe_op op_add (pv 1) pe_int) (pa_cons (pe_ifExp (pt_cmpR op_eq (pv 2) (pe_glob (v := .int (5)) rfl T.g_NOT ⟨_, rfl⟩) (nomark _)) pe_int pe_int) pa_nil))))) (pg_tup rfl (pgs_cons (pg_name (i := 4) sc_concept_at.nd rfl (Or.inl rfl)) (pgs_cons (pg_name (i := 5) sc_concept_at.nd rfl (Or.inl rfl)) pgs_nil))))
    (pss_one (ps_ret (pe_tup (pa_cons (pe_op op_catA (pe_tup (pa_cons (pv 2) pa_nil)) (pv 4)) (pa_cons (pv 5) pa_nil)))))))))), ?_⟩
  refine ⟨_, rfl, _, rfl, a, l, i, 7, rfl, hS, fun wd hw w7 => ?_, fun hno => ?_⟩
  case refine_2 =>
    refine q1 ?_
    cases e : l[i]? with
    | none =>
      rw [List.drop_eq_nil_of_le (List.getElem?_eq_none_iff.mp e)]
      rfl
    | some wd =>
      have w8 := hno wd e
      obtain ⟨j, rfl⟩ : ∃ j, wd = j + 8 := ⟨wd - 8, by omega⟩
      rw [(head_at e).1]
      rfl
  obtain ⟨hd, hlt⟩ := head_at hw
  rw [hd] at q1 q2
  refine ⟨_, rfl, sz2, fun p1 hp1 => ⟨p1, _, rfl, .inr (SqT.of upd_same), rfl, rfl, _, rfl, ?_⟩⟩
  have g1 : Same H (upd H p1 (.tup [.int 0, .int 1])) := Same.new hp1 _
  have cs8 : wd = 0 ∨ wd = 1 ∨ wd = 2 ∨ wd = 3 ∨ wd = 4 ∨ wd = 5 ∨ wd = 6 ∨ wd = 7 := by omega
  rcases cs8 with rfl | rfl | rfl | rfl | rfl | rfl | rfl | rfl
  · -- 0
    refine if_true_of (by rfl) ?_
    refine ⟨_, rfl, sz1, fun p2 hp2 => ⟨_, rfl, _, _, rfl, rfl, sz2, fun t ht => ?_⟩⟩
    have g2 : Same H (upd (upd H p1 (.tup [.int 0, .int 1])) p2 (.tup [.int 0])) := g1.trans (Same.new hp2 _)
    have g3 : Same (upd (upd H p1 (.tup [.int 0, .int 1])) p2 (.tup [.int 0])) (upd (upd (upd H p1 (.tup [.int 0, .int 1])) p2 (.tup [.int 0])) t (.tup [.ref p2, .int ((i : Int) + 1)])) := Same.new ht _
    exact q2 .top _ rfl _ t (.ref p2) _ (g2.trans g3) (by rw [List.length_drop]; omega) upd_same ⟨p2, rfl, g3.seqT (SqT.of upd_same)⟩
  · -- 1
    refine if_true_of (by rfl) ?_
    refine ⟨_, rfl, sz1, fun p2 hp2 => ⟨_, rfl, _, _, rfl, rfl, sz2, fun t ht => ?_⟩⟩
    have g2 : Same H (upd (upd H p1 (.tup [.int 0, .int 1])) p2 (.tup [.int 1])) := g1.trans (Same.new hp2 _)
    have g3 : Same (upd (upd H p1 (.tup [.int 0, .int 1])) p2 (.tup [.int 1])) (upd (upd (upd H p1 (.tup [.int 0, .int 1])) p2 (.tup [.int 1])) t (.tup [.ref p2, .int ((i : Int) + 1)])) := Same.new ht _
    exact q2 .bot _ rfl _ t (.ref p2) _ (g2.trans g3) (by rw [List.length_drop]; omega) upd_same ⟨p2, rfl, g3.seqT (SqT.of upd_same)⟩
  · -- 2
    refine if_false_of (by rfl) ?_
    refine ⟨_, rfl, rfl, _, rfl, if_true_of (by rfl) ?_⟩
    refine ⟨_, rfl, _, rfl, _, rfl, _, _, rfl, rfl, a, l, i + 1, 3, rfl, g1.seq hS, fun nm hnm n3 => ?_, fun hno => ?_⟩
    · obtain ⟨hd2, _⟩ := head_at hnm
      rw [hd2, read_2, if_pos (show nm < 4 by omega)] at q2
      refine ⟨sz2, fun p2 hp2 => ⟨_, rfl, _, _, rfl, rfl, sz2, fun t ht => ?_⟩⟩
      have g2 : Same H (upd (upd H p1 (.tup [.int 0, .int 1])) p2 (.tup [.int 2, .int (nm : Int)])) := g1.trans (Same.new hp2 _)
      have g3 : Same (upd (upd H p1 (.tup [.int 0, .int 1])) p2 (.tup [.int 2, .int (nm : Int)])) (upd (upd (upd H p1 (.tup [.int 0, .int 1])) p2 (.tup [.int 2, .int (nm : Int)])) t (.tup [.ref p2, .int ((i : Int) + 2)])) := Same.new ht _
      exact q2 (.name nm) _ rfl _ t (.ref p2) _ (g2.trans g3) (by rw [List.length_drop]; omega) upd_same ⟨p2, rfl, g3.seqT (SqT.of upd_same)⟩
    · refine (q1 ?_).mono g1
      cases e : l[i + 1]? with
      | none =>
        rw [List.drop_eq_nil_of_le (List.getElem?_eq_none_iff.mp e)]
        rfl
      | some nm =>
        have := hno nm e
        rw [(head_at e).1, read_2, if_neg (show ¬ nm < 4 by omega)]
  · -- 3
    refine if_false_of (by rfl) ?_
    refine ⟨_, rfl, rfl, _, rfl, if_false_of (by rfl) ?_⟩
    refine ⟨_, rfl, sz2, fun p2 hp2 => ⟨p2, _, rfl, .inr (SqT.of upd_same), rfl, rfl, _, rfl, if_false_of (by rfl) ?_⟩⟩
    have g2 : Same H (upd (upd H p1 (.tup [.int 0, .int 1])) p2 (.tup [.int 6, .int 7])) := g1.trans (Same.new hp2 _)
    refine ⟨_, rfl, _, rfl, _, _, rfl, rfl, _, rfl, rfl, _, rfl, if_false_of (by rfl) ?_⟩
    refine ⟨a, l, i + 1, 2, rfl, g2.seq hS, by omega, by omega, h30, by decide, fun hno => ?_, fun cs r hcs H3 t u xs z g3 ez ht hu hx => ?_⟩
    · refine (q1 ?_).mono g2
      rw [rm_two] at hno
      rw [read_3]
      cases e : Oc.read n (l.drop (i + 1)) with
      | none => rfl
      | some x =>
        rw [e] at hno
        dsimp only at hno ⊢
        cases e2 : Oc.read n x.2 with
        | none => rfl
        | some y => rw [e2] at hno; cases hno
    · rw [rm_two] at hcs
      cases e : Oc.read n (l.drop (i + 1)) with
      | none => rw [e] at hcs; cases hcs
      | some x =>
        obtain ⟨c, r1⟩ := x
        rw [e] at hcs
        dsimp only at hcs
        cases e2 : Oc.read n r1 with
        | none => rw [e2] at hcs; cases hcs
        | some y =>
          obtain ⟨d, r'⟩ := y
          rw [e2] at hcs
          cases hcs
          match xs, hx with
          | [x, y], hx =>
            refine ⟨t, _, rfl, SqT.of ht, rfl, _, _, rfl, _, _, rfl, rfl, ?_⟩
            refine ⟨_, rfl, sz1, fun p3 hp3 => ⟨_, rfl, ?_⟩⟩
            have g4 : Same H3 (upd H3 p3 (.tup [.int 3])) := Same.new hp3 _
            refine ⟨p3, u, _, _, rfl, rfl, SqT.of upd_same, g4.seqT hu, small (by simp), fun ex => (by cases ex), fun _ ey => (by cases ey), fun _ _ p4 hp4 => ?_⟩
            have g5 : Same (upd H3 p3 (.tup [.int 3])) (upd (upd H3 p3 (.tup [.int 3])) p4 (.tup [.int 3, x, y])) := Same.new hp4 _
            refine ⟨_, rfl, sz2, fun t2 ht2 => ?_⟩
            have g6 : Same (upd (upd H3 p3 (.tup [.int 3])) p4 (.tup [.int 3, x, y])) (upd (upd (upd H3 p3 (.tup [.int 3])) p4 (.tup [.int 3, x, y])) t2 (.tup [.ref p4, .int z])) := Same.new ht2 _
            refine q2 (.and c d) r' (by rw [read_3, e]; dsimp only; rw [e2]; rfl) _ t2 (.ref p4) z (g2.trans (g3.trans (g4.trans (g5.trans g6)))) ez upd_same ⟨p4, x, y, rfl, g6.seqT (SqT.of upd_same), hx.1.mono (g4.trans (g5.trans g6)), hx.2.1.mono (g4.trans (g5.trans g6))⟩
  · -- 4
    refine if_false_of (by rfl) ?_
    refine ⟨_, rfl, rfl, _, rfl, if_false_of (by rfl) ?_⟩
    refine ⟨_, rfl, sz2, fun p2 hp2 => ⟨p2, _, rfl, .inr (SqT.of upd_same), rfl, rfl, _, rfl, if_false_of (by rfl) ?_⟩⟩
    have g2 : Same H (upd (upd H p1 (.tup [.int 0, .int 1])) p2 (.tup [.int 6, .int 7])) := g1.trans (Same.new hp2 _)
    refine ⟨_, rfl, _, rfl, _, _, rfl, rfl, _, rfl, rfl, _, rfl, if_false_of (by rfl) ?_⟩
    refine ⟨a, l, i + 1, 2, rfl, g2.seq hS, by omega, by omega, h30, by decide, fun hno => ?_, fun cs r hcs H3 t u xs z g3 ez ht hu hx => ?_⟩
    · refine (q1 ?_).mono g2
      rw [rm_two] at hno
      rw [read_4]
      cases e : Oc.read n (l.drop (i + 1)) with
      | none => rfl
      | some x =>
        rw [e] at hno
        dsimp only at hno ⊢
        cases e2 : Oc.read n x.2 with
        | none => rfl
        | some y => rw [e2] at hno; cases hno
    · rw [rm_two] at hcs
      cases e : Oc.read n (l.drop (i + 1)) with
      | none => rw [e] at hcs; cases hcs
      | some x =>
        obtain ⟨c, r1⟩ := x
        rw [e] at hcs
        dsimp only at hcs
        cases e2 : Oc.read n r1 with
        | none => rw [e2] at hcs; cases hcs
        | some y =>
          obtain ⟨d, r'⟩ := y
          rw [e2] at hcs
          cases hcs
          match xs, hx with
          | [x, y], hx =>
            refine ⟨t, _, rfl, SqT.of ht, rfl, _, _, rfl, _, _, rfl, rfl, ?_⟩
            refine ⟨_, rfl, sz1, fun p3 hp3 => ⟨_, rfl, ?_⟩⟩
            have g4 : Same H3 (upd H3 p3 (.tup [.int 4])) := Same.new hp3 _
            refine ⟨p3, u, _, _, rfl, rfl, SqT.of upd_same, g4.seqT hu, small (by simp), fun ex => (by cases ex), fun _ ey => (by cases ey), fun _ _ p4 hp4 => ?_⟩
            have g5 : Same (upd H3 p3 (.tup [.int 4])) (upd (upd H3 p3 (.tup [.int 4])) p4 (.tup [.int 4, x, y])) := Same.new hp4 _
            refine ⟨_, rfl, sz2, fun t2 ht2 => ?_⟩
            have g6 : Same (upd (upd H3 p3 (.tup [.int 4])) p4 (.tup [.int 4, x, y])) (upd (upd (upd H3 p3 (.tup [.int 4])) p4 (.tup [.int 4, x, y])) t2 (.tup [.ref p4, .int z])) := Same.new ht2 _
            refine q2 (.or c d) r' (by rw [read_4, e]; dsimp only; rw [e2]; rfl) _ t2 (.ref p4) z (g2.trans (g3.trans (g4.trans (g5.trans g6)))) ez upd_same ⟨p4, x, y, rfl, g6.seqT (SqT.of upd_same), hx.1.mono (g4.trans (g5.trans g6)), hx.2.1.mono (g4.trans (g5.trans g6))⟩
  · -- 5
    refine if_false_of (by rfl) ?_
    refine ⟨_, rfl, rfl, _, rfl, if_false_of (by rfl) ?_⟩
    refine ⟨_, rfl, sz2, fun p2 hp2 => ⟨p2, _, rfl, .inr (SqT.of upd_same), rfl, rfl, _, rfl, if_false_of (by rfl) ?_⟩⟩
    have g2 : Same H (upd (upd H p1 (.tup [.int 0, .int 1])) p2 (.tup [.int 6, .int 7])) := g1.trans (Same.new hp2 _)
    refine ⟨_, rfl, _, rfl, _, _, rfl, rfl, _, rfl, rfl, _, rfl, if_true_of (by rfl) ?_⟩
    refine ⟨a, l, i + 1, 1, rfl, g2.seq hS, by omega, by omega, h30, by decide, fun hno => ?_, fun cs r hcs H3 t u xs z g3 ez ht hu hx => ?_⟩
    · refine (q1 ?_).mono g2
      rw [rm_one] at hno
      rw [read_5]
      cases e : Oc.read n (l.drop (i + 1)) with
      | none => rfl
      | some x => rw [e] at hno; cases hno
    · rw [rm_one] at hcs
      cases e : Oc.read n (l.drop (i + 1)) with
      | none => rw [e] at hcs; cases hcs
      | some x =>
        obtain ⟨c, r'⟩ := x
        rw [e] at hcs
        cases hcs
        match xs, hx with
        | [x], hx =>
          refine ⟨t, _, rfl, SqT.of ht, rfl, _, _, rfl, _, _, rfl, rfl, ?_⟩
          refine ⟨_, rfl, sz1, fun p3 hp3 => ⟨_, rfl, ?_⟩⟩
          have g4 : Same H3 (upd H3 p3 (.tup [.int 5])) := Same.new hp3 _
          refine ⟨p3, u, _, _, rfl, rfl, SqT.of upd_same, g4.seqT hu, small (by simp), fun ex => (by cases ex), fun _ ey => (by cases ey), fun _ _ p4 hp4 => ?_⟩
          have g5 : Same (upd H3 p3 (.tup [.int 5])) (upd (upd H3 p3 (.tup [.int 5])) p4 (.tup [.int 5, x])) := Same.new hp4 _
          refine ⟨_, rfl, sz2, fun t2 ht2 => ?_⟩
          have g6 : Same (upd (upd H3 p3 (.tup [.int 5])) p4 (.tup [.int 5, x])) (upd (upd (upd H3 p3 (.tup [.int 5])) p4 (.tup [.int 5, x])) t2 (.tup [.ref p4, .int z])) := Same.new ht2 _
          refine q2 (.not c) r' (by rw [read_5, e]; rfl) _ t2 (.ref p4) z (g2.trans (g3.trans (g4.trans (g5.trans g6)))) ez upd_same ⟨p4, x, rfl, g6.seqT (SqT.of upd_same), hx.1.mono (g4.trans (g5.trans g6))⟩
  · -- 6
    refine if_false_of (by rfl) ?_
    refine ⟨_, rfl, rfl, _, rfl, if_false_of (by rfl) ?_⟩
    refine ⟨_, rfl, sz2, fun p2 hp2 => ⟨p2, _, rfl, .inr (SqT.of upd_same), rfl, rfl, _, rfl, if_true_of (by rfl) ?_⟩⟩
    have g2 : Same H (upd (upd H p1 (.tup [.int 0, .int 1])) p2 (.tup [.int 6, .int 7])) := g1.trans (Same.new hp2 _)
    refine ⟨_, rfl, _, rfl, _, _, rfl, rfl, a, l, i + 1, 1, rfl, g2.seq hS, fun rl hrl r1 => ?_, fun hno => ?_⟩
    · obtain ⟨hd2, hlt2⟩ := head_at hrl
      rw [hd2, read_6, if_pos (show rl < 2 by omega)] at q1 q2
      refine ⟨_, rfl, _, rfl, _, _, rfl, rfl, a, l, i + 2, 1, rfl, g2.seq hS, by omega, by omega, h30, by decide, fun hno => ?_, fun cs r hcs H3 t u xs z g3 ez ht hu hx => ?_⟩
      · refine (q1 ?_).mono g2
        rw [rm_one] at hno
        cases e : Oc.read n (l.drop (i + 2)) with
        | none => rfl
        | some x => rw [e] at hno; cases hno
      · rw [rm_one] at hcs
        cases e : Oc.read n (l.drop (i + 2)) with
        | none => rw [e] at hcs; cases hcs
        | some x =>
          obtain ⟨c, r'⟩ := x
          rw [e] at hcs
          cases hcs
          match xs, hx with
          | [x], hx =>
            refine ⟨t, _, rfl, SqT.of ht, rfl, _, _, rfl, _, _, rfl, rfl, ?_⟩
            refine ⟨_, rfl, _, rfl, sz2, fun p3 hp3 => ⟨_, rfl, ?_⟩⟩
            have g4 : Same H3 (upd H3 p3 (.tup [.int 6, .int (rl : Int)])) := Same.new hp3 _
            refine ⟨p3, u, _, _, rfl, rfl, SqT.of upd_same, g4.seqT hu, small (by simp), fun ex => (by cases ex), fun _ ey => (by cases ey), fun _ _ p4 hp4 => ?_⟩
            have g5 : Same (upd H3 p3 (.tup [.int 6, .int (rl : Int)])) (upd (upd H3 p3 (.tup [.int 6, .int (rl : Int)])) p4 (.tup [.int 6, .int (rl : Int), x])) := Same.new hp4 _
            refine ⟨_, rfl, sz2, fun t2 ht2 => ?_⟩
            have g6 : Same (upd (upd H3 p3 (.tup [.int 6, .int (rl : Int)])) p4 (.tup [.int 6, .int (rl : Int), x])) (upd (upd (upd H3 p3 (.tup [.int 6, .int (rl : Int)])) p4 (.tup [.int 6, .int (rl : Int), x])) t2 (.tup [.ref p4, .int z])) := Same.new ht2 _
            refine q2 (.some rl c) r' (by rw [e]; rfl) _ t2 (.ref p4) z (g2.trans (g3.trans (g4.trans (g5.trans g6)))) ez upd_same ⟨p4, x, rfl, g6.seqT (SqT.of upd_same), hx.1.mono (g4.trans (g5.trans g6))⟩
    · refine (q1 ?_).mono g2
      cases e : l[i + 1]? with
      | none =>
        rw [List.drop_eq_nil_of_le (List.getElem?_eq_none_iff.mp e)]
        rfl
      | some rl =>
        have := hno rl e
        rw [(head_at e).1, read_6, if_neg (show ¬ rl < 2 by omega)]
  · -- 7
    refine if_false_of (by rfl) ?_
    refine ⟨_, rfl, rfl, _, rfl, if_false_of (by rfl) ?_⟩
    refine ⟨_, rfl, sz2, fun p2 hp2 => ⟨p2, _, rfl, .inr (SqT.of upd_same), rfl, rfl, _, rfl, if_true_of (by rfl) ?_⟩⟩
    have g2 : Same H (upd (upd H p1 (.tup [.int 0, .int 1])) p2 (.tup [.int 6, .int 7])) := g1.trans (Same.new hp2 _)
    refine ⟨_, rfl, _, rfl, _, _, rfl, rfl, a, l, i + 1, 1, rfl, g2.seq hS, fun rl hrl r1 => ?_, fun hno => ?_⟩
    · obtain ⟨hd2, hlt2⟩ := head_at hrl
      rw [hd2, read_7, if_pos (show rl < 2 by omega)] at q1 q2
      refine ⟨_, rfl, _, rfl, _, _, rfl, rfl, a, l, i + 2, 1, rfl, g2.seq hS, by omega, by omega, h30, by decide, fun hno => ?_, fun cs r hcs H3 t u xs z g3 ez ht hu hx => ?_⟩
      · refine (q1 ?_).mono g2
        rw [rm_one] at hno
        cases e : Oc.read n (l.drop (i + 2)) with
        | none => rfl
        | some x => rw [e] at hno; cases hno
      · rw [rm_one] at hcs
        cases e : Oc.read n (l.drop (i + 2)) with
        | none => rw [e] at hcs; cases hcs
        | some x =>
          obtain ⟨c, r'⟩ := x
          rw [e] at hcs
          cases hcs
          match xs, hx with
          | [x], hx =>
            refine ⟨t, _, rfl, SqT.of ht, rfl, _, _, rfl, _, _, rfl, rfl, ?_⟩
            refine ⟨_, rfl, _, rfl, sz2, fun p3 hp3 => ⟨_, rfl, ?_⟩⟩
            have g4 : Same H3 (upd H3 p3 (.tup [.int 7, .int (rl : Int)])) := Same.new hp3 _
            refine ⟨p3, u, _, _, rfl, rfl, SqT.of upd_same, g4.seqT hu, small (by simp), fun ex => (by cases ex), fun _ ey => (by cases ey), fun _ _ p4 hp4 => ?_⟩
            have g5 : Same (upd H3 p3 (.tup [.int 7, .int (rl : Int)])) (upd (upd H3 p3 (.tup [.int 7, .int (rl : Int)])) p4 (.tup [.int 7, .int (rl : Int), x])) := Same.new hp4 _
            refine ⟨_, rfl, sz2, fun t2 ht2 => ?_⟩
            have g6 : Same (upd (upd H3 p3 (.tup [.int 7, .int (rl : Int)])) p4 (.tup [.int 7, .int (rl : Int), x])) (upd (upd (upd H3 p3 (.tup [.int 7, .int (rl : Int)])) p4 (.tup [.int 7, .int (rl : Int), x])) t2 (.tup [.ref p4, .int z])) := Same.new ht2 _
            refine q2 (.all rl c) r' (by rw [e]; rfl) _ t2 (.ref p4) z (g2.trans (g3.trans (g4.trans (g5.trans g6)))) ez upd_same ⟨p4, x, rfl, g6.seqT (SqT.of upd_same), hx.1.mono (g4.trans (g5.trans g6))⟩
    · refine (q1 ?_).mono g2
      cases e : l[i + 1]? with
      | none =>
        rw [List.drop_eq_nil_of_le (List.getElem?_eq_none_iff.mp e)]
        rfl
      | some rl =>
        have := hno rl e
        rw [(head_at e).1, read_7, if_neg (show ¬ rl < 2 by omega)]
end
end Ca
namespace Ca
open PySem PySem.Spec PyProof.Rows L2
open Oc (C Axiom)
section
variable {P : Program} {w : World} {K : PySem.W.Frag} {mg : Str → Option Value} {base : Heap} {A : Ads}
theorem both_read (T : Txt K mg A) : ∀ n : Nat, FnOk P w K mg base (L2.CX P w) (2 * n + 4) A.a_concept_at A.d_concept_at ["numbers", "at"] (spConceptAt K A n) ∧ FnOk P w K mg base (L2.CX P w) (2 * n + 5) A.a_parts_at A.d_parts_at ["numbers", "at", "many"] (spPartsAt K A n)
  | 0 => ⟨none_concept, none_parts⟩
  | n + 1 => by
    have ih := both_read T n
    have c := ok_concept_at T ih.2
    exact ⟨c, ok_parts_at T c⟩
theorem okr_parts_at (T : Txt K mg A) : FnOk P w K mg base (L2.CX P w) 67 A.a_parts_at A.d_parts_at ["numbers", "at", "many"] (spPartsAt K A 31) := (both_read T 31).2
/-- read_concepts -/
def spReadConcepts (K : PySem.W.Frag) (A : Ads) : Sp := fun vs H Q E => ∃ (a : Addr) (l : List Nat) (k : Nat), vs = [.ref a, .int (k : Int)] ∧ SqL K H a (nV l) ∧ l.length ≤ 30 ∧ k ≤ 2 ∧
  ((∀ cs, readMany 31 k l ≠ some (cs, [])) → Err A (-1) H E) ∧
  (∀ cs, readMany 31 k l = some (cs, []) → ∀ H' u xs, Same H H' → SqT K H' u xs → CReps K H' cs xs → Q (.ref u) H')
theorem ok_read_concepts (T : Txt K mg A) : FnOk P w K mg base (L2.CX P w) 68 A.a_read_concepts A.d_read_concepts ["numbers", "many"] (spReadConcepts K A) := by
  refine T.f_read_concepts.okX sc_read_concepts (fun vs H Q E h => ?_) (fun cdv A' outer s H vs Q E hr h => ?_)
  · obtain ⟨a, l, k, rfl, _⟩ := h
    rfl
  obtain ⟨a, l, k, rfl, hS, h30, hk, q1, q2⟩ := h
  refine ⟨_, (pss_cons (ps_asg (pe_call (okr_parts_at T) (hr.mono (by omega)) (by rfl) T.g_parts_at T.f_parts_at.kp T.b_parts_at .nil (passes_call (takes_of rfl rfl rfl rfl) (fun _ _ _ _ h => h)) (by exact (pa_cons (pv 0) (pa_cons pe_int (pa_cons (pv 1) pa_nil))))) (pg_tup rfl (pgs_cons (pg_name (i := 2) sc_read_concepts.nd rfl (Or.inl rfl)) (pgs_cons (pg_name (i := 3) sc_read_concepts.nd rfl (Or.inl rfl)) pgs_nil))))
    (pss_cons (ps_expr (pe_call (ok_want T) (hr.mono (by omega)) (by rfl) T.g_want T.f_want.kp T.b_want .nil (passes_call (takes_of rfl rfl rfl rfl) (fun _ _ _ _ h => h)) (by exact (pa_cons (pe_cmpR op_eq (pv 3) (pe_callB call_len_seq (by rfl) T.z_len PySem.boot_len (pa_cons (pv 0) pa_nil)) (nomark _)) (pa_cons (pe_glob (v := .int (-1)) rfl T.g_NO_CONCEPTS ⟨_, rfl⟩) pa_nil)))))
    (pss_one (ps_ret (pv 2))))), ?_⟩
  refine ⟨_, rfl, _, rfl, a, l, 0, k, rfl, hS, by omega, by omega, h30, hk, fun hno => ?_, fun cs r hcs H1 t u xs z g1 ez ht hu hx => ?_⟩
  · refine q1 fun cs e => ?_
    rw [List.drop_zero, e] at hno
    cases hno
  · rw [List.drop_zero] at hcs
    obtain ⟨⟨j, hj, rfl⟩, _⟩ := rm_got hcs
    have hlen : (l.drop j).length = l.length - j := List.length_drop
    refine ⟨t, _, rfl, SqT.of ht, rfl, _, _, rfl, _, _, rfl, rfl, ?_⟩
    refine ⟨_, rfl, _, rfl, a, _, rfl, .inl (g1.seq hS), rfl, ?_⟩
    rw [nV_length, ez]
    refine ⟨_, _, rfl, fun e => ?_, fun e => ?_⟩
    · have e' := of_decide_eq_true e
      have e2 : l.length - (l.drop j).length = l.length := by
        injection e' with e3; omega
      have e4 : l.drop j = [] := List.eq_nil_of_length_eq_zero (by omega)
      rw [e4] at hcs
      exact ⟨_, rfl, q2 cs hcs _ _ _ g1 hu hx⟩
    · have e' := of_decide_eq_false e
      refine (q1 fun cs' h2 => e' ?_).mono g1
      rw [h2] at hcs
      have : ([] : List Nat) = l.drop j := (Prod.mk.inj (Option.some.inj hcs)).2
      rw [← this]
      simp
/-! ### words of a concept -/
def wd : C → Int
  | .top => 0
  | .bot => 1
  | .name _ => 2
  | .and _ _ => 3
  | .or _ _ => 4
  | .not _ => 5
  | .some _ _ => 6
  | .all _ _ => 7
/-- what stands ahead of the parts -/
def hd : C → List V
  | .top => [.int 0]
  | .bot => [.int 1]
  | .name n => [.int 2, .int (n : Int)]
  | .and _ _ => [.int 3]
  | .or _ _ => [.int 4]
  | .not _ => [.int 5]
  | .some r _ => [.int 6, .int (r : Int)]
  | .all r _ => [.int 7, .int (r : Int)]
theorem CRep.view {H : Hp} {c : C} {v : V} (h : CRep K H c v) : ∃ a xs, v = .ref a ∧ SqT K H a (hd c ++ xs) ∧ CReps K H (parts c) xs := by
  cases c with
  | top => obtain ⟨a, h1, h2⟩ := h; exact ⟨a, [], h1, h2, trivial⟩
  | bot => obtain ⟨a, h1, h2⟩ := h; exact ⟨a, [], h1, h2, trivial⟩
  | name n => obtain ⟨a, h1, h2⟩ := h; exact ⟨a, [], h1, h2, trivial⟩
  | and c d => obtain ⟨a, x, y, h1, h2, h3, h4⟩ := h; exact ⟨a, [x, y], h1, h2, h3, h4, trivial⟩
  | or c d => obtain ⟨a, x, y, h1, h2, h3, h4⟩ := h; exact ⟨a, [x, y], h1, h2, h3, h4, trivial⟩
  | not c => obtain ⟨a, x, h1, h2, h3⟩ := h; exact ⟨a, [x], h1, h2, h3, trivial⟩
  | some r c => obtain ⟨a, x, h1, h2, h3⟩ := h; exact ⟨a, [x], h1, h2, h3, trivial⟩
  | all r c => obtain ⟨a, x, h1, h2, h3⟩ := h; exact ⟨a, [x], h1, h2, h3, trivial⟩
theorem atI_wd (c : C) (xs : List V) : atI (hd c ++ xs) 0 = some (.int (wd c)) := by cases c <;> exact atI_nat (j := 0) rfl
/-- the first number of a concept -/
theorem r_word {σ : L2.St} {H : Hp} {Q : VK} {i : Nat} {c : C} {v : V} (hs : σ[i]? = some (some v)) (hc : CRep K H c v) (q : Q (.int (wd c)) H) : tOp (rIxT K) (tVar i) (tC (.int 0)) σ H Q := by
  obtain ⟨a, xs, rfl, h2, _⟩ := hc.view
  exact ⟨_, hs, a, _, _, _, rfl, rfl, h2, atI_wd c xs, q⟩
/-- whether it is one of three -/
theorem r_in3 {σ : L2.St} {H : Hp} {Q : Bool → Hp → Prop} {i : Nat} {c : C} {v : V} {x y z : Int} (hs : σ[i]? = some (some v)) (hc : CRep K H c v)
    (q : ∀ p, H p = none → Q (inV (.int (wd c)) [.int x, .int y, .int z]) (upd H p (.tup [.int x, .int y, .int z]))) :
    tTest (tOp (rIn K false) (tOp (rIxT K) (tVar i) (tC (.int 0))) (tTup (tCons (tC (.int x)) (tCons (tC (.int y)) (tCons (tC (.int z)) tNil))))) σ H Q :=
  r_word (Q := fun x' H1 => tTup (tCons (tC (.int x)) (tCons (tC (.int y)) (tCons (tC (.int z)) tNil))) σ H1 fun y' H2 => rIn K false x' y' H2 fun b H3 => ∃ k, b = .bl k ∧ Q k H3) hs hc
    ⟨sz3, fun p hp => ⟨p, _, rfl, .inr (SqT.of upd_same), rfl, rfl, _, rfl, q p hp⟩⟩
theorem r_in2 {σ : L2.St} {H : Hp} {Q : Bool → Hp → Prop} {i : Nat} {c : C} {v : V} {x y : Int} (hs : σ[i]? = some (some v)) (hc : CRep K H c v)
    (q : ∀ p, H p = none → Q (inV (.int (wd c)) [.int x, .int y]) (upd H p (.tup [.int x, .int y]))) :
    tTest (tOp (rIn K false) (tOp (rIxT K) (tVar i) (tC (.int 0))) (tTup (tCons (tC (.int x)) (tCons (tC (.int y)) tNil)))) σ H Q :=
  r_word (Q := fun x' H1 => tTup (tCons (tC (.int x)) (tCons (tC (.int y)) tNil)) σ H1 fun y' H2 => rIn K false x' y' H2 fun b H3 => ∃ k, b = .bl k ∧ Q k H3) hs hc
    ⟨sz2, fun p hp => ⟨p, _, rfl, .inr (SqT.of upd_same), rfl, rfl, _, rfl, q p hp⟩⟩
/-- parts_of -/
def spPartsOf (K : PySem.W.Frag) : Sp := fun vs H Q _ => ∃ (v : V) (c : C), vs = [v] ∧ CRep K H c v ∧ ∀ H' t xs, Same H H' → SqT K H' t xs → CReps K H' (parts c) xs → Q (.ref t) H'
theorem ok_parts_of (T : Txt K mg A) : FnOk P w K mg base CX0 1 A.a_parts_of A.d_parts_of ["concept"] (spPartsOf K) := by
  refine T.f_parts_of.ok sc_parts_of (fun vs H Q E h => ?_) (fun cdv A' outer s H vs Q E hr h => ?_)
  · obtain ⟨v, c, rfl, _⟩ := h
    rfl
  obtain ⟨v, c, rfl, hc, q⟩ := h
  refine ⟨_, (pss_cons (ps_if (pt_cmpR op_in_seq (pe_ix ix_tup (pv 0) pe_int (fun _ _ => rfl)) (pe_tup (pa_cons (pe_glob (v := .int (3)) rfl T.g_BOTH ⟨_, rfl⟩) (pa_cons (pe_glob (v := .int (4)) rfl T.g_EITHER ⟨_, rfl⟩) (pa_cons (pe_glob (v := .int (5)) rfl T.g_NOT ⟨_, rfl⟩) pa_nil)))) (by rfl)) (pss_one (ps_ret (pe_slice sl_tupA (pv 0) (po_some pe_int) po_none))) pss_nil)
    (pss_one (ps_ret (pe_ifExp (pt_cmpR op_in_seq (pe_ix ix_tup (pv 0) pe_int (fun _ _ => rfl)) (pe_tup (pa_cons (pe_glob (v := .int (6)) rfl T.g_SOME ⟨_, rfl⟩) (pa_cons (pe_glob (v := .int (7)) rfl T.g_EVERY ⟨_, rfl⟩) pa_nil))) (by rfl)) (pe_slice sl_tupA (pv 0) (po_some pe_int) po_none) (pe_tup pa_nil))))), ?_⟩
  refine r_in3 rfl hc fun p1 hp1 => ?_
  have g1 : Same H (upd H p1 (.tup [.int 3, .int 4, .int 5])) := Same.new hp1 _
  have hc1 := hc.mono g1
  have low : inV (.int (wd c)) [.int 3, .int 4, .int 5] = false → inV (.int (wd c)) [.int 6, .int 7] = false → parts c = [] := by
    cases c <;> first | (intro _ _; rfl) | (intro h; cases h; done) | (intro _ h; cases h; done)
  obtain ⟨a, xs, rfl, hs, hx⟩ := hc1.view
  by_cases c1 : inV (.int (wd c)) [.int 3, .int 4, .int 5] = true
  · refine if_true_of c1 ?_
    have e1 : ∃ z, hd c = [.int z] := by cases c <;> first | exact ⟨_, rfl⟩ | (cases c1; done)
    obtain ⟨z, e1⟩ := e1
    rw [e1] at hs
    refine ⟨_, rfl, 1, rfl, a, _, rfl, hs, fun hw => ?_, fun _ p hp => ?_⟩
    · exfalso
      have hx1 := hw.1
      rw [show (1 : Int) = ((1 : Nat) : Int) from rfl, HT.sIx_nat] at hx1
      simp at hx1
    · have g2 := Same.new (H := upd H p1 (.tup [.int 3, .int 4, .int 5])) hp (.tup (cutV ([.int z] ++ xs) (some 1) none))
      have ec : cutV ([.int z] ++ xs) (some 1) none = xs := by
        unfold cutV
        rw [show (1 : Int) = ((1 : Nat) : Int) from rfl, HT.sIx_nat, HT.sIx_none]
        simp
      rw [ec] at g2 ⊢
      exact q _ p xs (g1.trans g2) (SqT.of upd_same) (hx.mono g2)
  · have c1' : inV (.int (wd c)) [.int 3, .int 4, .int 5] = false := Bool.eq_false_iff.mpr c1
    refine if_false_of c1' ?_
    refine r_in2 rfl hc1 fun p2 hp2 => ?_
    have g2 := Same.new (H := upd H p1 (.tup [.int 3, .int 4, .int 5])) hp2 (.tup [.int 6, .int 7])
    by_cases c2 : inV (.int (wd c)) [.int 6, .int 7] = true
    · refine if_true_of c2 ?_
      have e1 : ∃ z r, hd c = [.int z, .int r] := by cases c <;> first | exact ⟨_, _, rfl⟩ | (cases c2; done)
      obtain ⟨z, r, e1⟩ := e1
      rw [e1] at hs
      refine ⟨_, rfl, 2, rfl, a, _, rfl, g2.seqT hs, fun hw => ?_, fun _ p hp => ?_⟩
      · exfalso
        have hx1 := hw.1
        rw [show (2 : Int) = ((2 : Nat) : Int) from rfl, HT.sIx_nat] at hx1
        simp at hx1
      · have ec : cutV ([.int z, .int r] ++ xs) (some 2) none = xs := by
          unfold cutV
          rw [show (2 : Int) = ((2 : Nat) : Int) from rfl, HT.sIx_nat, HT.sIx_none]
          simp
        rw [ec]
        have g3 := Same.new hp (.tup xs)
        exact q _ p xs (g1.trans (g2.trans g3)) (SqT.of upd_same) (hx.mono (g2.trans g3))
    · have c2' : inV (.int (wd c)) [.int 6, .int 7] = false := Bool.eq_false_iff.mpr c2
      refine if_false_of c2' ?_
      refine ⟨sz0, fun p hp => ?_⟩
      have g3 := Same.new hp (.tup [])
      refine q _ p [] (g1.trans (g2.trans g3)) (SqT.of upd_same) ?_
      rw [low c1' c2']
      trivial
end
end Ca
namespace Ca
open PySem PySem.Spec PyProof.Rows L2
open Oc (C Axiom)
section
variable {P : Program} {w : World} {K : PySem.W.Frag} {mg : Str → Option Value} {base : Heap} {A : Ads}
theorem r_if_lst {b : Bool} {σ : L2.St} {H : Hp} {R : VK} {i : Nat} {v : V} (hs : σ[i]? = some (some v)) (h : ∀ p, H p = none → R (.ref p) (upd H p (.lst (if b = true then [v] else [])))) :
    if b = true then tLst (tCons (tVar i) tNil) σ H R else tLst tNil σ H R := by
  cases b with
  | true => exact ⟨_, hs, sz1, fun p hp => h p hp⟩
  | false => exact ⟨sz0, fun p hp => h p hp⟩
theorem isAtom_in (c : C) : inV (.int (wd c)) [.int 2, .int 6, .int 7] = isAtom c := by cases c <;> rfl
/-- atoms_in -/
def spAtomsIn (K : PySem.W.Frag) (n : Nat) : Sp := fun vs H Q _ => ∃ (v : V) (c : C), vs = [v] ∧ CRep K H c v ∧ dep c ≤ n ∧ c.atoms.length ≤ 100 ∧
  ∀ H' l xs, Same H H' → H l = none → H' l = some (.lst xs) → CReps K H' c.atoms xs → Q (.ref l) H'
theorem none_atoms_in {f : Addr} {fd : FuncData} {k : Nat} : FnOk P w K mg base CX0 k f fd ["concept"] (spAtomsIn K 0) := by
  have no : ∀ vs H Q E, ¬ spAtomsIn K 0 vs H Q E := fun vs H Q E h => by
    obtain ⟨v, c, _, _, h1, _⟩ := h
    have := dep_pos c
    omega
  exact ⟨fun vs H Q E h => absurd h (no vs H Q E), fun A outer s H args us vs Q E _ _ _ _ h => absurd h (no vs H Q E)⟩
theorem ok_atoms_in {n : Nat} (T : Txt K mg A) (G_atoms_in : FnOk P w K mg base CX0 (n + 2) A.a_atoms_in A.d_atoms_in ["concept"] (spAtomsIn K n)) :
    FnOk P w K mg base CX0 (n + 3) A.a_atoms_in A.d_atoms_in ["concept"] (spAtomsIn K (n + 1)) := by
  refine T.f_atoms_in.ok sc_atoms_in (fun vs H Q E h => ?_) (fun cdv A' outer s H vs Q E hr h => ?_)
  · obtain ⟨v, c, rfl, _⟩ := h
    rfl
  obtain ⟨v, c, rfl, hc, hd, hl, q⟩ := h
  refine ⟨_, (pss_cons (ps_set (i := 1) sc_atoms_in.nd rfl (Or.inl rfl) (pe_ifExp (pt_cmpR op_in_seq (pe_ix ix_tup (pv 0) pe_int (fun _ _ => rfl)) (pe_tup (pa_cons (pe_glob (v := .int (2)) rfl T.g_NAME ⟨_, rfl⟩) (pa_cons (pe_glob (v := .int (6)) rfl T.g_SOME ⟨_, rfl⟩) (pa_cons (pe_glob (v := .int (7)) rfl T.g_EVERY ⟨_, rfl⟩) pa_nil)))) (by rfl)) (pe_lst (pa_cons (pv 0) pa_nil)) (pe_lst pa_nil)))
    (pss_cons (ps_for PassesOwn.never rfl (pi_tup (pe_call (ok_parts_of T) (hr.mono (by omega)) (by rfl) T.g_parts_of T.f_parts_of.kp T.b_parts_of .nil pass0 (by exact (pa_cons (pv 0) pa_nil)))) (pg_name (i := 2) sc_atoms_in.nd rfl (Or.inl rfl)) (pss_one (ps_expr (pe_bm PySem.F.plainAttrs_list PySem.F.slot_list_extend PySem.F.type_list_extend mt_extend (pv 1) (by exact (pa_cons (pe_call G_atoms_in (hr.mono (by omega)) (by rfl) T.g_atoms_in T.f_atoms_in.kp T.b_atoms_in .nil pass0 (by exact (pa_cons (pv 2) pa_nil))) pa_nil))))))
    (pss_one (ps_ret (pv 1))))), ?_⟩
  refine r_in3 rfl hc fun p1 hp1 => ?_
  rw [isAtom_in]
  have g1 : Same H (upd H p1 (.tup [.int 2, .int 6, .int 7])) := Same.new hp1 _
  refine r_if_lst (v := v) rfl fun f hf => ?_
  have hf0 : H f = none := g1.free hf
  have g2 := g1.put hf0 (.lst (if isAtom c = true then [v] else []))
  have hc2 := hc.mono g2
  refine ⟨_, rfl, v, c, rfl, hc2, fun H2 t xs g3 ht hx => ?_⟩
  refine ⟨t, rfl, ⟨_, ht⟩, for_tup (K := K) (a := t) (xs := xs) (fun j σ H3 => ∃ ys x, Same H H3 ∧ TSame H2 H3 ∧ H3 f = some (.lst ys) ∧ CReps K H3 ((if isAtom c = true then [c] else []) ++ ((parts c).take j).flatMap C.atoms) ys ∧ σ = [some v, some (.ref f), x]) ?_ ?_ ?_ ?_⟩
  · refine ⟨_, none, g2.trans g3, TSame.refl _, g3 _ _ upd_same, ?_, rfl⟩
    rw [List.take_zero]
    cases isAtom c with
    | true => exact CReps.one (hc2.mono g3)
    | false => trivial
  · rintro i σ H3 _ ⟨ys, x, _, g5, _⟩
    exact g5.seqT ht
  · rintro i y σ H3 hi ⟨ys, x, g4, g5, h6, h7, rfl⟩
    obtain ⟨d, hd', hy⟩ := hx.get hi
    have hm : d ∈ parts c := List.mem_of_getElem? hd'
    have hat : d.atoms.length ≤ c.atoms.length := by
      rw [atoms_eq c, List.length_append]
      have := flat_mem hm
      omega
    have hlen : ((if isAtom c = true then [c] else []) ++ ((parts c).take i).flatMap C.atoms).length ≤ c.atoms.length := by
      rw [atoms_eq c, List.length_append, List.length_append]
      have e : (parts c).flatMap C.atoms = ((parts c).take i).flatMap C.atoms ++ ((parts c).drop i).flatMap C.atoms := by
        rw [← List.flatMap_append, List.take_append_drop]
      rw [e, List.length_append]
      omega
    have e7 := h7.length
    refine ⟨_, rfl, .inl ⟨rfl, _, SqL.of h6⟩, _, rfl, y, d, rfl, hy.tmono g5, by have := parts_dep hm; omega, by omega, fun H4 l zs g8 hl4 h8 h9 => ?_⟩
    have e9 := h9.length
    refine ⟨f, l, ys, zs, rfl, rfl, g8 _ _ h6, h8, small (by omega), ?_⟩
    have g10 : Same H (upd H4 f (.lst (ys ++ zs))) := (g4.trans g8).put hf0 _
    have t10 : TSame H4 (upd H4 f (.lst (ys ++ zs))) := TSame.lst (g8 _ _ h6) _
    refine ⟨ys ++ zs, _, g10, (g5.trans g8.t).trans t10, upd_same, ?_, rfl⟩
    rw [take_snoc hd', List.flatMap_append, ← List.append_assoc]
    simp only [List.flatMap_cons, List.flatMap_nil, List.append_nil]
    exact ((h7.tmono (g8.t.trans t10)).append (h9.tmono t10))
  · rintro σ H3 ⟨ys, x, g4, _, h6, h7, rfl⟩
    have e := hx.length
    rw [e, List.take_length, ← atoms_eq] at h7
    exact ⟨_, rfl, q _ f ys g4 hf0 h6 h7⟩
theorem rec_atoms_in (T : Txt K mg A) : ∀ n : Nat, FnOk P w K mg base CX0 (n + 2) A.a_atoms_in A.d_atoms_in ["concept"] (spAtomsIn K n)
  | 0 => none_atoms_in
  | n + 1 => ok_atoms_in T (rec_atoms_in T n)
theorem okr_atoms_in (T : Txt K mg A) : FnOk P w K mg base CX0 42 A.a_atoms_in A.d_atoms_in ["concept"] (spAtomsIn K 40) := rec_atoms_in T 40
/-- atoms_of -/
def spAtomsOf (K : PySem.W.Frag) : Sp := fun vs H Q _ => ∃ (a : Addr) (xs : List V) (cs : List C), vs = [.ref a] ∧ SqL K H a xs ∧ CReps K H cs xs ∧ (∀ c ∈ cs, Okc c) ∧ cs.length ≤ 100 ∧
  ∀ H' l ys, Same H H' → H l = none → H' l = some (.lst ys) → CReps K H' (Oc.atomsOf cs) ys → Q (.ref l) H'
theorem contains_decide (m : List C) (c : C) : m.contains c = decide (c ∈ m) := by
  by_cases h : c ∈ m <;> simp [h]
theorem ok_atoms_of (T : Txt K mg A) : FnOk P w K mg base CX0 43 A.a_atoms_of A.d_atoms_of ["concepts"] (spAtomsOf K) := by
  refine T.f_atoms_of.ok sc_atoms_of (fun vs H Q E h => ?_) (fun cdv A' outer s H vs Q E hr h => ?_)
  · obtain ⟨a, xs, cs, rfl, _⟩ := h
    rfl
  obtain ⟨a, xs, cs, rfl, hS, hC, hok, hlen, q⟩ := h
  have hcl := hC.length
  refine ⟨_, (pss_cons (ps_set (i := 1) sc_atoms_of.nd rfl (Or.inl rfl) (pe_lst pa_nil))
    (pss_cons (ps_for PassesOwn.never rfl (pi_list (pv 0)) (pg_name (i := 2) sc_atoms_of.nd rfl (Or.inl rfl)) (pss_one (ps_for PassesOwn.never rfl (pi_list (pe_call (okr_atoms_in T) (hr.mono (by omega)) (by rfl) T.g_atoms_in T.f_atoms_in.kp T.b_atoms_in .nil pass0 (by exact (pa_cons (pv 2) pa_nil)))) (pg_name (i := 3) sc_atoms_of.nd rfl (Or.inl rfl)) (pss_one (ps_if (pt_cmpR (op_notInD (hu65 hr)) (pv 3) (pv 1) (by rfl)) (pss_one (ps_expr (pe_bm PySem.F.plainAttrs_list PySem.F.slot_list_append PySem.F.type_list_append mt_append (pv 1) (by exact (pa_cons (pv 3) pa_nil))))) pss_nil)))))
    (pss_one (ps_ret (pv 1))))), ?_⟩
  refine ⟨sz0, fun f hf => ?_⟩
  have g1 := Same.new hf (.lst [])
  refine ⟨_, rfl, a, rfl, ⟨_, g1.seq hS⟩, for_list (K := K) (a := a) (xs := xs) (fun j σ H3 => ∃ ys x1 x2, Same H H3 ∧ H3 f = some (.lst ys) ∧ CReps K H3 (((cs.take j).flatMap C.atoms).foldl put1 []) ys ∧ σ = [some (.ref a), some (.ref f), x1, x2]) ?_ ?_ ?_ ?_⟩
  · exact ⟨[], none, none, g1, upd_same, trivial, rfl⟩
  · rintro i σ H3 _ ⟨_, _, _, g2, _⟩
    exact g2.seq hS
  · rintro i v σ H3 hi ⟨ys, x1, x2, g2, h3, h4, rfl⟩
    obtain ⟨c, hc, hv⟩ := hC.get hi
    have okc := hok c (List.mem_of_getElem? hc)
    have hil : i < cs.length := (List.getElem?_eq_some_iff.mp hc).1
    refine ⟨_, rfl, v, c, rfl, hv.mono g2, okc.dep, by have := okc.ats; omega, fun H4 l zs g5 hl h6 h7 => ?_⟩
    have hfl : l ≠ f := fun e => by rw [e, h3] at hl; cases hl
    have h7l := h7.length
    have base0 : (((cs.take i).flatMap C.atoms).foldl put1 []).length ≤ 60 * i := by
      have h := puts_len (l := (cs.take i).flatMap C.atoms) (m := [])
      have h2 : ((cs.take i).flatMap C.atoms).length ≤ 60 * (cs.take i).length := by
        have : ∀ l : List C, (∀ c ∈ l, Okc c) → (l.flatMap C.atoms).length ≤ 60 * l.length := by
          intro l
          induction l with
          | nil => intro _; simp
          | cons d r ih =>
            intro h
            have h1 := ih fun c hc => h c (List.mem_cons_of_mem _ hc)
            have h2 := (h d List.mem_cons_self).ats
            rw [List.flatMap_cons, List.length_append, List.length_cons]
            omega
        exact this _ fun c hc => hok c (List.mem_of_mem_take hc)
      rw [List.length_take] at h2
      simp only [List.length_nil] at h
      have : min i cs.length ≤ i := Nat.min_le_left _ _
      omega
    have prev : ∀ x ∈ ((cs.take i).flatMap C.atoms).foldl put1 [], dep x ≤ 60 := by
      intro x hx
      rw [puts_mem] at hx
      rcases hx with hx | hx
      · cases hx
      · obtain ⟨d, hd, hx⟩ := List.mem_flatMap.mp hx
        have h1 := (atoms_facts d hx).2.1
        have h2 := (hok d (List.mem_of_mem_take hd)).dep
        omega
    refine ⟨l, rfl, ⟨_, SqL.of h6⟩, for_list (K := K) (a := l) (xs := zs) (fun j σ H5 => ∃ ys x2, Same H H5 ∧ TSame H4 H5 ∧ H5 l = some (.lst zs) ∧ H5 f = some (.lst ys) ∧ CReps K H5 ((c.atoms.take j).foldl put1 (((cs.take i).flatMap C.atoms).foldl put1 [])) ys ∧ σ = [some (.ref a), some (.ref f), some v, x2]) ?_ ?_ ?_ ?_⟩
    · exact ⟨ys, x2, g2.trans g5, TSame.refl _, h6, g5 _ _ h3, h4.mono g5, rfl⟩
    · rintro j σ H5 _ ⟨_, _, _, _, h8, _⟩
      exact SqL.of h8
    · rintro j y σ H5 hj ⟨ys', x2', g8, t8, h9, h10, h11, rfl⟩
      obtain ⟨x, hx, hy⟩ := h7.get hj
      have hxm : x ∈ c.atoms := List.mem_of_getElem? hx
      have hjl : j < c.atoms.length := (List.getElem?_eq_some_iff.mp hx).1
      have fx := atoms_facts c hxm
      have h11l := h11.length
      have mlen : ((c.atoms.take j).foldl put1 (((cs.take i).flatMap C.atoms).foldl put1 [])).length ≤ 60 * i + j := by
        have h := puts_len (l := c.atoms.take j) (m := ((cs.take i).flatMap C.atoms).foldl put1 [])
        rw [List.length_take] at h
        omega
      have shp : ∀ z ∈ (c.atoms.take j).foldl put1 (((cs.take i).flatMap C.atoms).foldl put1 []), dep z ≤ 60 := by
        intro z hz
        rw [puts_mem] at hz
        rcases hz with hz | hz
        · exact prev z hz
        · have h1 := (atoms_facts c (List.mem_of_mem_take hz)).2.1
          have h2 := okc.dep
          omega
      refine ⟨_, rfl, _, rfl, cD x, _, (hy.tmono t8).dp, .lst (SqL.of h10) h11.dp, cD_shaped (by have := okc.dep; omega), cDs_shaped shp, _, rfl, ?_⟩
      rw [any_cD]
      have step : (c.atoms.take (j + 1)).foldl put1 (((cs.take i).flatMap C.atoms).foldl put1 []) = put1 ((c.atoms.take j).foldl put1 (((cs.take i).flatMap C.atoms).foldl put1 [])) x := by
        rw [take_snoc hx, List.foldl_append]; rfl
      by_cases hin : x ∈ (c.atoms.take j).foldl put1 (((cs.take i).flatMap C.atoms).foldl put1 [])
      · refine if_false_of (by rw [decide_eq_true hin]; rfl) ?_
        refine ⟨ys', _, g8, t8, h9, h10, ?_, rfl⟩
        rw [step, put1_in hin]
        exact h11
      · refine if_true_of (by rw [decide_eq_false hin]; rfl) ?_
        refine ⟨_, rfl, .inl ⟨rfl, _, SqL.of h10⟩, _, rfl, f, ys', y, rfl, rfl, h10, smallT (by have := okc.ats; omega), ?_⟩
        have t12 : TSame H5 (upd H5 f (.lst (ys' ++ [y]))) := TSame.lst h10 _
        refine ⟨ys' ++ [y], _, g8.put hf _, t8.trans t12, by rw [upd_ne hfl]; exact h9, upd_same, ?_, rfl⟩
        rw [step, put1_out hin]
        exact (h11.tmono t12).append (CReps.one ((hy.tmono t8).tmono t12))
    · rintro σ H5 ⟨ys', x2', g8, t8, h9, h10, h11, rfl⟩
      refine ⟨ys', _, _, g8, h10, ?_, rfl⟩
      rw [h7l, List.take_length] at h11
      rw [atomsOf_take hc]
      exact h11
  · rintro σ H3 ⟨ys, x1, x2, g2, h3, h4, rfl⟩
    rw [hcl, List.take_length] at h4
    exact ⟨_, rfl, q _ f ys g2 hf h3 h4⟩
/-- concepts_of -/
def axc (axs : List Axiom) : List C := axs.flatMap fun a => [a.1, a.2]
def spConceptsOf (K : PySem.W.Frag) : Sp := fun vs H Q _ => ∃ (a : Addr) (xs : List V) (axs : List Axiom), vs = [.ref a] ∧ SqL K H a xs ∧ AReps K H axs xs ∧ axs.length ≤ 10 ∧
  ∀ H' l ys, Same H H' → H l = none → H' l = some (.lst ys) → CReps K H' (axc axs) ys → Q (.ref l) H'
theorem axc_take {axs : List Axiom} {i : Nat} {x : Axiom} (h : axs[i]? = some x) : axc (axs.take (i + 1)) = axc (axs.take i) ++ [x.1, x.2] := by
  unfold axc
  rw [take_snoc h, List.flatMap_append]
  simp
theorem axc_len : ∀ axs : List Axiom, (axc axs).length = 2 * axs.length
  | [] => rfl
  | x :: r => by
    have ih := axc_len r
    show ([x.1, x.2] ++ axc r).length = _
    rw [List.length_append, ih, List.length_cons, List.length_cons, List.length_cons, List.length_nil]
    omega
theorem ok_concepts_of (T : Txt K mg A) : FnOk P w K mg base CX0 1 A.a_concepts_of A.d_concepts_of ["axioms"] (spConceptsOf K) := by
  refine T.f_concepts_of.ok sc_concepts_of (fun vs H Q E h => ?_) (fun cdv A' outer s H vs Q E hr h => ?_)
  · obtain ⟨a, xs, axs, rfl, _⟩ := h
    rfl
  obtain ⟨a, xs, axs, rfl, hS, hC, hlen, q⟩ := h
  have hcl := hC.length
  refine ⟨_, (pss_cons (ps_set (i := 1) sc_concepts_of.nd rfl (Or.inl rfl) (pe_lst pa_nil))
    (pss_cons (ps_for PassesOwn.never rfl (pi_list (pv 0)) (pg_tup rfl (pgs_cons (pg_name (i := 2) sc_concepts_of.nd rfl (Or.inl rfl)) (pgs_cons (pg_name (i := 3) sc_concepts_of.nd rfl (Or.inl rfl)) pgs_nil))) (pss_one (ps_expr (pe_bm PySem.F.plainAttrs_list PySem.F.slot_list_extend PySem.F.type_list_extend mt_extend (pv 1) (by exact (pa_cons (pe_lst (pa_cons (pv 2) (pa_cons (pv 3) pa_nil))) pa_nil))))))
    (pss_one (ps_ret (pv 1))))), ?_⟩
  refine ⟨sz0, fun f hf => ?_⟩
  have g1 := Same.new hf (.lst [])
  refine ⟨_, rfl, a, rfl, ⟨_, g1.seq hS⟩, for_list (K := K) (a := a) (xs := xs) (fun j σ H3 => ∃ ys x1 x2, Same H H3 ∧ H3 f = some (.lst ys) ∧ CReps K H3 (axc (axs.take j)) ys ∧ σ = [some (.ref a), some (.ref f), x1, x2]) ?_ ?_ ?_ ?_⟩
  · exact ⟨[], none, none, g1, upd_same, trivial, rfl⟩
  · rintro i σ H3 _ ⟨_, _, _, g2, _⟩
    exact g2.seq hS
  · rintro i v σ H3 hi ⟨ys, x1, x2, g2, h3, h4, rfl⟩
    obtain ⟨x, hx, hv⟩ := hC.get hi
    have hil : i < axs.length := (List.getElem?_eq_some_iff.mp hx).1
    obtain ⟨t, y, z, rfl, ht, hy, hz⟩ := hv.tmono g2.t
    refine ⟨t, _, rfl, ht, rfl, _, _, rfl, _, _, rfl, rfl, ?_⟩
    have h4l := h4.length
    rw [axc_len, List.length_take] at h4l
    refine ⟨_, rfl, .inl ⟨rfl, _, SqL.of h3⟩, _, rfl, _, rfl, sz2, fun p hp => ?_⟩
    have hpf : f ≠ p := ne_of_none h3 hp
    have g5 := Same.new hp (.lst [y, z])
    refine ⟨f, p, ys, [y, z], rfl, rfl, by rw [upd_ne hpf]; exact h3, upd_same, small (by simp only [List.length_cons, List.length_nil]; omega), ?_⟩
    have h3' : upd H3 p (.lst [y, z]) f = some (.lst ys) := by rw [upd_ne hpf]; exact h3
    have t6 : TSame (upd H3 p (.lst [y, z])) (upd (upd H3 p (.lst [y, z])) f (.lst (ys ++ [y, z]))) := TSame.lst h3' _
    refine ⟨ys ++ [y, z], _, _, (g2.trans g5).put hf _, upd_same, ?_, rfl⟩
    rw [axc_take hx]
    exact (h4.tmono (g5.t.trans t6)).append ⟨hy.tmono (g5.t.trans t6), hz.tmono (g5.t.trans t6), trivial⟩
  · rintro σ H3 ⟨ys, x1, x2, g2, h3, h4, rfl⟩
    rw [hcl, List.take_length] at h4
    exact ⟨_, rfl, q _ f ys g2 hf h3 h4⟩
end
end Ca
namespace Ca
open PySem PySem.Spec PyProof.Rows L2
open Oc (C Axiom)
section
variable {P : Program} {w : World} {K : PySem.W.Frag} {mg : Str → Option Value} {base : Heap} {A : Ads}
/-! ### bits -/
theorem bnot2 (x : Int) : Builtin.bitNot (Builtin.bitNot x) = x := by unfold Builtin.bitNot; omega
theorem band_nat (a b : Nat) : Builtin.bitAnd (a : Int) (b : Int) = ((a &&& b : Nat) : Int) := by
  unfold Builtin.bitAnd
  rw [decide_eq_true (show (0 : Int) ≤ (a : Int) by omega), decide_eq_true (show (0 : Int) ≤ (b : Int) by omega)]
  rfl
theorem band_not (a b : Nat) : Builtin.bitAnd (a : Int) (Builtin.bitNot (b : Int)) = (a : Int) - ((a &&& b : Nat) : Int) := by
  unfold Builtin.bitAnd
  rw [decide_eq_true (show (0 : Int) ≤ (a : Int) by omega), decide_eq_false (show ¬ (0 : Int) ≤ Builtin.bitNot (b : Int) by unfold Builtin.bitNot; omega), bnot2]
  rfl
theorem bor_nat (a b : Nat) : Builtin.bitOr (a : Int) (b : Int) = ((a ||| b : Nat) : Int) := by
  unfold Builtin.bitOr Builtin.bitAnd
  rw [decide_eq_false (show ¬ (0 : Int) ≤ Builtin.bitNot (a : Int) by unfold Builtin.bitNot; omega), decide_eq_false (show ¬ (0 : Int) ≤ Builtin.bitNot (b : Int) by unfold Builtin.bitNot; omega)]
  dsimp only
  rw [bnot2, bnot2, bnot2]
  rfl
theorem band_mk (n : Nat) (p q : Nat → Bool) : Builtin.bitAnd ((mk n p : Nat) : Int) ((mk n q : Nat) : Int) = ((mk n (fun t => p t && q t) : Nat) : Int) := by rw [band_nat, mk_and]
theorem bor_mk (n : Nat) (p q : Nat → Bool) : Builtin.bitOr ((mk n p : Nat) : Int) ((mk n q : Nat) : Int) = ((mk n (fun t => p t || q t) : Nat) : Int) := by rw [bor_nat, mk_or]
/-- all the kinds -/
def wN (n : Nat) : Nat := mk (2 ^ n) fun _ => true
theorem bwithout (n : Nat) (p : Nat → Bool) : Builtin.bitAnd ((wN n : Nat) : Int) (Builtin.bitNot ((mk (2 ^ n) p : Nat) : Int)) = ((mk (2 ^ n) (fun t => !p t) : Nat) : Int) := by
  unfold wN
  rw [band_not, mk_and]
  have h := mk_not (2 ^ n) p
  have e : mk (2 ^ n) (fun t => true && p t) = mk (2 ^ n) p := mk_ext fun t _ => by simp
  rw [e]
  omega
theorem bit_test (m k : Nat) : decide (V.int (Builtin.bitAnd ((m : Int) / 2 ^ ((k : Nat) : Int).toNat) 1) = V.int 1) = Oc.bit m k := by
  rw [Int.toNat_natCast, show ((2 : Int) ^ k) = ((2 ^ k : Nat) : Int) by simp, show ((m : Int) / ((2 ^ k : Nat) : Int)) = ((m / 2 ^ k : Nat) : Int) by simp, show (1 : Int) = ((1 : Nat) : Int) from rfl, band_nat, Nat.and_one_is_mod]
  unfold Oc.bit
  by_cases h : m / 2 ^ k % 2 = 1
  · rw [h]; rfl
  · have e : m / 2 ^ k % 2 = 0 := by omega
    rw [e]; rfl
/-! ### has_bit, members, set_with -/
def spHasBit : Sp := fun vs H Q _ => ∃ (m k : Nat), vs = [.int (m : Int), .int (k : Int)] ∧ Q (.bl (Oc.bit m k)) H
theorem ok_has_bit (T : Txt K mg A) : FnOk P w K mg base CX0 1 A.a_has_bit A.d_has_bit ["number", "k"] spHasBit := by
  refine T.f_has_bit.ok sc_has_bit (fun vs H Q E h => ?_) (fun cdv A' outer s H vs Q E hr h => ?_)
  · obtain ⟨m, k, rfl, _⟩ := h
    rfl
  obtain ⟨m, k, rfl, q⟩ := h
  refine ⟨_, (pss_one (ps_ret (pe_cmpR op_eq (pe_op op_and (pe_op op_shr (pv 0) (pv 1)) pe_int) pe_int (nomark _)))), ?_⟩
  refine ⟨_, rfl, _, rfl, (m : Int), (k : Int), rfl, rfl, by omega, _, _, rfl, rfl, rfl, ?_⟩
  rw [bit_test]
  exact q
def spMembers : Sp := fun vs H Q _ => ∃ (s N : Nat), vs = [.int (s : Int)] ∧ s < 2 ^ N ∧ N ≤ 100 ∧
  ∀ H' l, Same H H' → H l = none → H' l = some (.lst (nV ((List.range N).filter fun t => s.testBit t))) → Q (.ref l) H'
theorem range_snoc (i : Nat) (q : Nat → Bool) : (List.range (i + 1)).filter q = (List.range i).filter q ++ (if q i = true then [i] else []) := by
  rw [List.range_succ, List.filter_append]
  cases h : q i <;> simp [h]
theorem ok_members (T : Txt K mg A) : FnOk P w K mg base CX0 2 A.a_members A.d_members ["some"] spMembers := by
  refine T.f_members.ok sc_members (fun vs H Q E h => ?_) (fun cdv A' outer s H vs Q E hr h => ?_)
  · obtain ⟨m, k, rfl, _⟩ := h
    rfl
  obtain ⟨s', N, rfl, hs, hN, q⟩ := h
  have b1 : Builtin.Int.intBits (s' : Int) ≤ N := PySem.intBits_le_iff.mpr (by simpa using hs)
  have b2 : s' < 2 ^ Builtin.Int.intBits (s' : Int) := by
    have := PySem.intBits_le_iff.mp (Nat.le_refl (Builtin.Int.intBits (s' : Int)))
    simpa using this
  refine ⟨_, (pss_one (ps_ret (pe_lc (own := [("kind", 1)]) (g := gName 1) rfl sc_members.nd (pi_range1 (by rfl) T.z_range (pa_cons (pe_bits (pv 0)) pa_nil)) (blkOk_by (own := [("kind", 1)]) (N := N_members) (sc := (defScope s_members)) (by decide +kernel)) (fun _ _ _ _ _ => pg_name (i := 1) sc_members.nd rfl (Or.inl rfl)) (fun _ _ _ _ _ => by exact (pts_one (pt_val (pe_call (ok_has_bit T) (hr.mono (by omega)) (by rfl) T.g_has_bit T.f_has_bit.kp T.b_has_bit .nil pass0 (by exact (pa_cons (pv 0) (pa_cons (pv 1) pa_nil))))))) (fun _ _ _ _ _ => by exact (pv 1))))), ?_⟩
  refine ⟨_, rfl, (s' : Int), rfl, _, rfl, by omega, by omega, fun D hD => ?_⟩
  refine lc_range (lo := 0) (n := ((Builtin.Int.intBits (s' : Int) : Nat) : Int).toNat) (fun i H1 => Same H H1 ∧ H1 D = some (.lst (nV ((List.range i).filter fun t => s'.testBit t)))) ⟨Same.new hD _, upd_same⟩ ?_ ?_
  · rintro i H1 hi ⟨g1, h1⟩
    refine ⟨rfl, _, rfl, _, rfl, s', i, by rw [Int.zero_add]; rfl, _, rfl, ?_⟩
    have e := range_snoc i fun t => s'.testBit t
    rw [bit_eq]
    by_cases hb : s'.testBit i = true
    · refine if_true_of hb ?_
      rw [if_pos hb] at e
      refine ⟨_, rfl, _, h1, ?_, g1.put hD _, ?_⟩
      · rw [nV_length]
        have := List.length_filter_le (fun t => s'.testBit t) (List.range i)
        rw [List.length_range] at this
        exact smallT (by omega)
      · rw [upd_same, e, nV_append, Int.zero_add]
        rfl
    · have hb' : s'.testBit i = false := Bool.eq_false_iff.mpr hb
      refine if_false_of hb' ?_
      rw [if_neg hb, List.append_nil] at e
      exact ⟨g1, by rw [e]; exact h1⟩
  · rintro H1 ⟨g1, h1⟩
    rw [Int.toNat_natCast, members_eq b1 b2] at h1
    exact q H1 D g1 hD h1
/-- set_with: the sum of the powers -/
def spSetWith (K : PySem.W.Frag) : Sp := fun vs H Q _ => ∃ (a : Addr) (l : List Nat), vs = [.ref a] ∧ SqL K H a (nV l) ∧ (∀ k ∈ l, k ≤ 1000) ∧ l.length ≤ 1000 ∧ ∀ H', Same H H' → Q (.int ((l.map fun k => (2 : Int) ^ k).sum)) H'
theorem ok_set_with (T : Txt K mg A) : FnOk P w K mg base CX0 1 A.a_set_with A.d_set_with ["kinds"] (spSetWith K) := by
  refine T.f_set_with.ok sc_set_with (fun vs H Q E h => ?_) (fun cdv A' outer s H vs Q E hr h => ?_)
  · obtain ⟨m, k, rfl, _⟩ := h
    rfl
  obtain ⟨a, l, rfl, hS, hb, hl, q⟩ := h
  refine ⟨_, (pss_one (ps_ret (pe_callB (cr_sum rfl) (by rfl) T.z_sum (by decide +kernel) (pa_cons (pe_lc (own := [("kind", 1)]) (g := gName 1) (tt := tYes) rfl sc_set_with.nd (pi_list (pv 0)) (blkOk_by (own := [("kind", 1)]) (N := N_set_with) (sc := (defScope s_set_with)) (by decide +kernel)) (fun _ _ _ _ _ => pg_name (i := 1) sc_set_with.nd rfl (Or.inl rfl)) (fun _ _ _ _ _ => by exact pts_nil) (fun _ _ _ _ _ => by exact (pe_op op_shl pe_int (pv 1)))) pa_nil)))), ?_⟩
  refine ⟨_, rfl, a, rfl, ⟨_, hS⟩, fun D hD => ?_⟩
  refine lc_list (K := K) (a := a) (xs := nV l) (fun i H1 => Same H H1 ∧ H1 D = some (.lst (((l.take i).map fun k => (2 : Int) ^ k).map V.int))) ⟨Same.new hD _, upd_same⟩ (fun i H1 _ h => h.1.seq hS) ?_ ?_
  · rintro i x H1 hi ⟨g1, h1⟩
    obtain ⟨k, hk, rfl⟩ := nV_get hi
    have k1 := hb k (List.mem_of_getElem? hk)
    have il : i < l.length := (List.getElem?_eq_some_iff.mp hk).1
    refine ⟨rfl, ?_⟩
    refine ⟨_, rfl, 1, (k : Int), rfl, rfl, ⟨by omega, by omega, by decide⟩, _, h1, smallT (by rw [List.length_map, List.length_map, List.length_take]; omega), g1.put hD _, ?_⟩
    rw [upd_same, take_snoc hk, List.map_append, List.map_append]
    show some (HO.lst (_ ++ [V.int (1 * 2 ^ ((k : Nat) : Int).toNat)])) = _
    rw [Int.toNat_natCast, Int.one_mul]
    rfl
  · rintro H1 ⟨g1, h1⟩
    rw [nV_length, List.take_length] at h1
    exact ⟨D, _, rfl, SqL.of h1, q H1 g1⟩
/-! ### Kinds: its fields -/
def kF (la : Addr) (n : Nat) (r : List (Str × V)) : List (Str × V) := (("atoms" : Str), V.ref la) :: (("many" : Str), V.int ((2 ^ n : Nat) : Int)) :: (("whole" : Str), V.int ((wN n : Nat) : Int)) :: r
def r4 (lh : Addr) : List (Str × V) := [(("holding" : Str), V.ref lh)]
def r5 (lh : Addr) (m : Nat) : List (Str × V) := [(("holding" : Str), V.ref lh), (("possible" : Str), V.int (m : Int))]
def Stg (r : List (Str × V)) : Prop := r = [] ∨ (∃ lh, r = r4 lh) ∨ ∃ lh m, r = r5 lh m
theorem kF_atoms (la : Addr) (n : Nat) (r : List (Str × V)) : (kF la n r).lookup ("atoms" : Str) = some (.ref la) := lk_here
theorem kF_many (la : Addr) (n : Nat) (r : List (Str × V)) : (kF la n r).lookup ("many" : Str) = some (.int ((2 ^ n : Nat) : Int)) := (lk_past (by decide +kernel)).trans lk_here
theorem kF_whole (la : Addr) (n : Nat) (r : List (Str × V)) : (kF la n r).lookup ("whole" : Str) = some (.int ((wN n : Nat) : Int)) := (lk_past (by decide +kernel)).trans ((lk_past (by decide +kernel)).trans lk_here)
theorem kF_past (la : Addr) (n : Nat) (r : List (Str × V)) {k : Str} (h1 : (k == ("atoms" : Str)) = false) (h2 : (k == ("many" : Str)) = false) (h3 : (k == ("whole" : Str)) = false) : (kF la n r).lookup k = r.lookup k :=
  (lk_past h1).trans ((lk_past h2).trans (lk_past h3))
theorem kF_none {la : Addr} {n : Nat} {r : List (Str × V)} (hr : Stg r) {k : Str} (h1 : (k == ("atoms" : Str)) = false) (h2 : (k == ("many" : Str)) = false) (h3 : (k == ("whole" : Str)) = false) (h4 : (k == ("holding" : Str)) = false) (h5 : (k == ("possible" : Str)) = false) :
    (kF la n r).lookup k = none := by
  rw [kF_past la n r h1 h2 h3]
  rcases hr with rfl | ⟨lh, rfl⟩ | ⟨lh, m, rfl⟩
  · rfl
  · exact (lk_past h4).trans rfl
  · exact (lk_past h4).trans ((lk_past h5).trans rfl)
/-- at a: a Kinds object over these atoms -/
structure KAt (K : PySem.W.Frag) (A : Ads) (H : Hp) (a : Addr) (at_ : List C) (r : List (Str × V)) (dx la : Addr) (xs : List V) : Prop where
  ins : H a = some (.ins A.C_Kinds dx (kF la at_.length r))
  lst : H la = some (.lst xs)
  rep : CReps K H at_ xs
  stg : Stg r
theorem KAt.mono {H H' : Hp} {a dx la : Addr} {at_ : List C} {r : List (Str × V)} {xs : List V} (h : KAt K A H a at_ r dx la xs) (e : Same H H') : KAt K A H' a at_ r dx la xs := ⟨e _ _ h.ins, e _ _ h.lst, h.rep.mono e, h.stg⟩
/-- the sets by the atoms' bits -/
def holdV (n : Nat) : List V := (List.range n).map fun k => V.int ((mk (2 ^ n) (fun t => Oc.bit t k) : Nat) : Int)
/-- .. with its field holding -/
structure KHold (K : PySem.W.Frag) (A : Ads) (H : Hp) (a : Addr) (at_ : List C) (r : List (Str × V)) (dx la : Addr) (xs : List V) (lh : Addr) : Prop where
  kat : KAt K A H a at_ r dx la xs
  hold : H lh = some (.lst (holdV at_.length))
  stg : r = r4 lh ∨ ∃ m, r = r5 lh m
theorem KHold.mono {H H' : Hp} {a dx la lh : Addr} {at_ : List C} {r : List (Str × V)} {xs : List V} (h : KHold K A H a at_ r dx la xs lh) (e : Same H H') : KHold K A H' a at_ r dx la xs lh := ⟨h.kat.mono e, e _ _ h.hold, h.stg⟩
theorem KHold.look {H : Hp} {a dx la lh : Addr} {at_ : List C} {r : List (Str × V)} {xs : List V} (h : KHold K A H a at_ r dx la xs lh) : (kF la at_.length r).lookup ("holding" : Str) = some (.ref lh) := by
  rw [kF_past la _ r (by decide +kernel) (by decide +kernel) (by decide +kernel)]
  rcases h.stg with rfl | ⟨m, rfl⟩
  · exact lk_here
  · exact lk_here
theorem rlo (m : Nat) : -(2 ^ 62) ≤ (m : Int) := by omega
theorem rhi {m : Nat} (h : m ≤ 1000000) : (m : Int) < 2 ^ 62 := by omega
theorem many_le {n : Nat} (h : n ≤ 6) : 2 ^ n ≤ 64 := by
  have := Nat.pow_le_pow_right (show 0 < 2 by decide) h
  omega
/-- set_by_bit -/
def spSetByBit (K : PySem.W.Frag) (A : Ads) : Sp := fun vs H Q _ => ∃ (a : Addr) (k : Nat) (at_ : List C) (r : List (Str × V)) (dx la : Addr) (xs : List V), vs = [.ref a, .int (k : Int)] ∧ KAt K A H a at_ r dx la xs ∧ at_.length ≤ 6 ∧
  ∀ H', Same H H' → Q (.int ((mk (2 ^ at_.length) (fun t => Oc.bit t k) : Nat) : Int)) H'
theorem ok_set_by_bit (T : Txt K mg A) : FnOk P w K mg base CX0 2 A.a_set_by_bit A.d_set_by_bit ["self", "k"] (spSetByBit K A) := by
  refine T.f_set_by_bit.ok sc_set_by_bit (fun vs H Q E h => ?_) (fun cdv A' outer s H vs Q E hr h => ?_)
  · obtain ⟨_, _, _, _, _, _, _, rfl, _⟩ := h
    rfl
  obtain ⟨a, k, at_, r, dx, la, xs, rfl, hk, hlen, q⟩ := h
  have h64 := many_le hlen
  refine ⟨_, (pss_one (ps_ret (pe_call (ok_set_with T) (hr.mono (by omega)) (by rfl) T.g_set_with T.f_set_with.kp T.b_set_with .nil pass0 (by exact (pa_cons (pe_lc (own := [("kind", 2)]) (g := gName 2) rfl sc_set_by_bit.nd (pi_range1 (by rfl) T.z_range (pa_cons (pe_fld (pv 0) rfl) pa_nil)) (blkOk_by (own := [("kind", 2)]) (N := N_set_by_bit) (sc := (defScope s_set_by_bit)) (by decide +kernel)) (fun _ _ _ _ _ => pg_name (i := 2) sc_set_by_bit.nd rfl (Or.inl rfl)) (fun _ _ _ _ _ => by exact (pts_one (pt_val (pe_call (ok_has_bit T) (hr.mono (by omega)) (by rfl) T.g_has_bit T.f_has_bit.kp T.b_has_bit .nil pass0 (by exact (pa_cons (pv 2) (pa_cons (pv 1) pa_nil))))))) (fun _ _ _ _ _ => by exact (pv 2))) pa_nil))))), ?_⟩
  refine ⟨_, rfl, a, _, _, _, _, rfl, hk.ins, T.cl_Kinds, T.n_many, kF_many _ _ _, _, rfl, rlo _, rhi (by omega), fun D hD => ?_⟩
  refine lc_range (lo := 0) (n := ((2 ^ at_.length : Nat) : Int).toNat) (fun i H1 => Same H H1 ∧ H1 D = some (.lst (nV ((List.range i).filter fun t => Oc.bit t k)))) ⟨Same.new hD _, upd_same⟩ ?_ ?_
  · rintro i H1 hi ⟨g1, h1⟩
    refine ⟨rfl, _, rfl, _, rfl, i, k, by rw [Int.zero_add]; rfl, _, rfl, ?_⟩
    have e := range_snoc i fun t => Oc.bit t k
    by_cases hb : Oc.bit i k = true
    · refine if_true_of hb ?_
      rw [if_pos hb] at e
      refine ⟨_, rfl, _, h1, ?_, g1.put hD _, ?_⟩
      · rw [nV_length]
        have := List.length_filter_le (fun t => Oc.bit t k) (List.range i)
        rw [List.length_range] at this
        exact smallT (by omega)
      · rw [upd_same, e, nV_append, Int.zero_add]
        rfl
    · have hb' : Oc.bit i k = false := Bool.eq_false_iff.mpr hb
      refine if_false_of hb' ?_
      rw [if_neg hb, List.append_nil] at e
      exact ⟨g1, by rw [e]; exact h1⟩
  · rintro H1 ⟨g1, h1⟩
    rw [Int.toNat_natCast] at h1
    refine ⟨D, _, rfl, SqL.of h1, fun x hx => ?_, ?_, fun H2 g2 => ?_⟩
    · have := List.mem_range.mp (List.mem_filter.mp hx).1
      omega
    · have := List.length_filter_le (fun t => Oc.bit t k) (List.range (2 ^ at_.length))
      rw [List.length_range] at this
      omega
    · have e := mk_sumI (fun t => Oc.bit t k) (2 ^ at_.length)
      rw [e]
      exact q H2 (g1.trans g2)
/-- without -/
def spWithout (K : PySem.W.Frag) (A : Ads) : Sp := fun vs H Q _ => ∃ (a : Addr) (at_ : List C) (r : List (Str × V)) (dx la : Addr) (xs : List V) (p : Nat → Bool), vs = [.ref a, .int ((mk (2 ^ at_.length) p : Nat) : Int)] ∧ KAt K A H a at_ r dx la xs ∧
  Q (.int ((mk (2 ^ at_.length) (fun t => !p t) : Nat) : Int)) H
theorem ok_without (T : Txt K mg A) : FnOk P w K mg base CX0 1 A.a_without A.d_without ["self", "some"] (spWithout K A) := by
  refine T.f_without.ok sc_without (fun vs H Q E h => ?_) (fun cdv A' outer s H vs Q E hr h => ?_)
  · obtain ⟨_, _, _, _, _, _, _, rfl, _⟩ := h
    rfl
  obtain ⟨a, at_, r, dx, la, xs, p, rfl, hk, q⟩ := h
  refine ⟨_, (pss_one (ps_ret (pe_op op_and (pe_fld (pv 0) rfl) (pe_un un_inv (pv 1))))), ?_⟩
  refine ⟨_, rfl, a, _, _, _, _, rfl, hk.ins, T.cl_Kinds, T.n_whole, kF_whole _ _ _, _, rfl, _, rfl, _, _, rfl, rfl, ?_⟩
  show Q (V.int (Builtin.bitAnd ((wN at_.length : Nat) : Int) (Builtin.bitNot ((mk (2 ^ at_.length) p : Nat) : Int)))) H
  rw [bwithout]
  exact q
end
end Ca
namespace Ca
open PySem PySem.Spec PyProof.Rows L2
open Oc (C Axiom)
section
variable {P : Program} {w : World} {K : PySem.W.Frag} {mg : Str → Option Value} {base : Heap} {A : Ads}
/-! ### set_of -/
def spSetOf (K : PySem.W.Frag) (A : Ads) (n : Nat) : Sp := fun vs H Q _ => ∃ (a : Addr) (v : V) (c : C) (at_ : List C) (r : List (Str × V)) (dx la : Addr) (xs : List V) (lh : Addr), vs = [.ref a, v] ∧ KHold K A H a at_ r dx la xs lh ∧ CRep K H c v ∧ dep c ≤ n ∧ (∀ x ∈ c.atoms, x ∈ at_) ∧ WFat at_ ∧
  ∀ H', Same H H' → Q (.int ((mk (2 ^ at_.length) (fun t => Oc.holds at_ t c) : Nat) : Int)) H'
theorem none_set_of {f : Addr} {fd : FuncData} {k : Nat} : FnOk P w K mg base CX0 k f fd ["self", "concept"] (spSetOf K A 0) := by
  have no : ∀ vs H Q E, ¬ spSetOf K A 0 vs H Q E := fun vs H Q E h => by
    obtain ⟨_, _, c, _, _, _, _, _, _, _, _, _, h1, _⟩ := h
    have := dep_pos c
    omega
  exact ⟨fun vs H Q E h => absurd h (no vs H Q E), fun A outer s H args us vs Q E _ _ _ _ h => absurd h (no vs H Q E)⟩
theorem ex_of {at_ : List C} {c : C} (w : WFat at_) (h : c ∈ at_) : ∃ j, at_[j]? = some c ∧ j < at_.length ∧ ∀ (m : Nat) z, m < j → at_[m]? = some z → z ≠ c := by
  obtain ⟨j, hj, e⟩ := List.getElem_of_mem h
  refine ⟨j, by rw [List.getElem?_eq_getElem hj, e], hj, fun m z hm hz ez => ?_⟩
  obtain ⟨hm', e'⟩ := List.getElem?_eq_some_iff.mp hz
  have : m = j := (List.getElem_inj w.nodup).mp (by rw [e', ez, e])
  omega
/-- an atom's set, by its place -/
theorem r_holding (T : Txt K mg A) {σ : L2.St} {H : Hp} {Q : VK} {a dx la lh : Addr} {at_ : List C} {r : List (Str × V)} {xs : List V} {v : V} {c : C} (h0 : σ[0]? = some (some (.ref a))) (h1 : σ[1]? = some (some v)) (hk : KHold K A H a at_ r dx la xs lh) (hc : CRep K H c v) (w : WFat at_) (hm : c ∈ at_)
    (q : Q (.int ((mk (2 ^ at_.length) (fun t => Oc.holds at_ t c) : Nat) : Int)) H) :
    tOp (rIxL K) (tFld K (tVar 0) "holding") (fun σ H Q => tFld K (tVar 0) "atoms" σ H fun x H1 => tyV K "list" x H1 ∧ (tCons (tVar 1) tNil) σ H1 fun vs H2 => rIndexD K x vs H2 Q) σ H Q := by
  obtain ⟨j, hj, hjl, hno⟩ := ex_of w hm
  have e : (holdV at_.length)[j]? = some (.int ((mk (2 ^ at_.length) (fun t => Oc.holds at_ t c) : Nat) : Int)) := by
    unfold holdV
    rw [List.getElem?_map, List.getElem?_range hjl]
    show some (V.int ((mk (2 ^ at_.length) (fun t => Oc.bit t j) : Nat) : Int)) = _
    rw [mk_ext fun t _ => (holds_at (t := t) w.nodup hj (w.atom c hm)).symm]
  refine ⟨_, h0, a, _, _, _, _, rfl, hk.kat.ins, T.cl_Kinds, T.n_holding, hk.look, _, h0, a, _, _, _, _, rfl, hk.kat.ins, T.cl_Kinds, T.n_atoms, kF_atoms _ _ _, .inl ⟨rfl, _, SqL.of hk.kat.lst⟩, _, h1, ?_⟩
  refine ⟨la, v, cD c, _, j, cD c, rfl, rfl, .lst (SqL.of hk.kat.lst) hk.kat.rep.dp, hc.dp, cDs_shaped (fun x hx => Nat.le_trans (w.dep x hx) (by decide)), cD_shaped (Nat.le_trans (w.dep c hm) (by decide)), by rw [List.getElem?_map, hj]; rfl, by rw [cD_eqv]; exact decide_eq_true rfl, fun m z' hm' hz' => ?_, ?_⟩
  · rw [List.getElem?_map] at hz'
    cases ez : at_[m]? with
    | none => rw [ez] at hz'; cases hz'
    | some z =>
      rw [ez] at hz'
      cases hz'
      rw [cD_eqv]
      exact decide_eq_false (hno m z hm' ez)
  · exact ⟨lh, _, _, _, rfl, rfl, SqL.of hk.hold, atI_nat e, q⟩
theorem ok_set_of {n : Nat} (T : Txt K mg A) (G_set_of : FnOk P w K mg base CX0 (n + 2) A.a_set_of A.d_set_of ["self", "concept"] (spSetOf K A n)) :
    FnOk P w K mg base CX0 (n + 3) A.a_set_of A.d_set_of ["self", "concept"] (spSetOf K A (n + 1)) := by
  refine T.f_set_of.ok sc_set_of (fun vs H Q E h => ?_) (fun cdv A' outer s H vs Q E hr h => ?_)
  · obtain ⟨_, _, _, _, _, _, _, _, _, rfl, _⟩ := h
    rfl
  obtain ⟨a, v, c, at_, r, dx, la, xs, lh, rfl, hk, hc, hd, hat, w, q⟩ := h
  refine ⟨_, (pss_cons (ps_set (i := 2) sc_set_of.nd rfl (Or.inl rfl) (pe_ix ix_tup (pv 1) pe_int (fun _ _ => rfl)))
    (pss_cons (ps_if (pt_cmpR op_in_seq (pv 2) (pe_tup (pa_cons (pe_glob (v := .int (0)) rfl T.g_ALL ⟨_, rfl⟩) (pa_cons (pe_glob (v := .int (1)) rfl T.g_NO_ONE ⟨_, rfl⟩) pa_nil))) (by rfl)) (pss_one (ps_ret (pe_ifExp (pt_cmpR op_eq (pv 2) (pe_glob (v := .int (0)) rfl T.g_ALL ⟨_, rfl⟩) (nomark _)) (pe_fld (pv 0) rfl) pe_int))) pss_nil)
    (pss_cons (ps_if (pt_cmpR op_eq (pv 2) (pe_glob (v := .int (3)) rfl T.g_BOTH ⟨_, rfl⟩) (nomark _)) (pss_one (ps_ret (pe_op op_and (pe_meth (pv 0) T.cl_Kinds T.m_set_of G_set_of (hr.mono (by omega)) T.b_set_of .nil pass0 (by exact (pa_cons (pe_ix ix_tup (pv 1) pe_int (fun _ _ => rfl)) pa_nil))) (pe_meth (pv 0) T.cl_Kinds T.m_set_of G_set_of (hr.mono (by omega)) T.b_set_of .nil pass0 (by exact (pa_cons (pe_ix ix_tup (pv 1) pe_int (fun _ _ => rfl)) pa_nil)))))) pss_nil)
    (pss_cons (ps_if (pt_cmpR op_eq (pv 2) (pe_glob (v := .int (4)) rfl T.g_EITHER ⟨_, rfl⟩) (nomark _)) (pss_one (ps_ret (pe_op op_or (pe_meth (pv 0) T.cl_Kinds T.m_set_of G_set_of (hr.mono (by omega)) T.b_set_of .nil pass0 (by exact (pa_cons (pe_ix ix_tup (pv 1) pe_int (fun _ _ => rfl)) pa_nil))) (pe_meth (pv 0) T.cl_Kinds T.m_set_of G_set_of (hr.mono (by omega)) T.b_set_of .nil pass0 (by exact (pa_cons (pe_ix ix_tup (pv 1) pe_int (fun _ _ => rfl)) pa_nil)))))) pss_nil)
    (pss_cons (ps_if (pt_cmpR op_eq (pv 2) (pe_glob (v := .int (5)) rfl T.g_NOT ⟨_, rfl⟩) (nomark _)) (pss_one (ps_ret (pe_meth (pv 0) T.cl_Kinds T.m_without (ok_without T) (hr.mono (by omega)) T.b_without .nil pass0 (by exact (pa_cons (pe_meth (pv 0) T.cl_Kinds T.m_set_of G_set_of (hr.mono (by omega)) T.b_set_of .nil pass0 (by exact (pa_cons (pe_ix ix_tup (pv 1) pe_int (fun _ _ => rfl)) pa_nil))) pa_nil))))) pss_nil)
    (pss_one (ps_ret (pe_ix ix_list (pe_fld (pv 0) rfl) (pe_bm PySem.F.plainAttrs_list PySem.F.slot_list_index PySem.F.type_list_index (mt_indexD (hu65 hr)) (pe_fld (pv 0) rfl) (by exact (pa_cons (pv 1) pa_nil))) (fun _ _ => rfl))))))))), ?_⟩
  refine r_word rfl hc ?_
  have no : (kF la at_.length r).lookup ("set_of" : Str) = none := kF_none hk.kat.stg (by decide +kernel) (by decide +kernel) (by decide +kernel) (by decide +kernel) (by decide +kernel)
  have no2 : (kF la at_.length r).lookup ("without" : Str) = none := kF_none hk.kat.stg (by decide +kernel) (by decide +kernel) (by decide +kernel) (by decide +kernel) (by decide +kernel)
  refine ⟨_, rfl, sz2, fun p1 hp1 => ⟨p1, _, rfl, .inr (SqT.of upd_same), rfl, rfl, _, rfl, ?_⟩⟩
  have g1 : Same H (upd H p1 (.tup [.int 0, .int 1])) := Same.new hp1 _
  have hk1 := hk.mono g1
  cases c with
  | top =>
    refine if_true_of (by rfl) ⟨_, rfl, rfl, _, rfl, if_true_of (by rfl) ⟨_, rfl, a, _, _, _, _, rfl, hk1.kat.ins, T.cl_Kinds, T.n_whole, kF_whole _ _ _, ?_⟩⟩
    exact q _ g1
  | bot =>
    refine if_true_of (by rfl) ⟨_, rfl, rfl, _, rfl, if_false_of (by rfl) ?_⟩
    have h := q _ g1
    have e : mk (2 ^ at_.length) (fun t => Oc.holds at_ t .bot) = 0 := mk_false _
    rw [e] at h
    exact h
  | and c d =>
    obtain ⟨b, x, y, rfl, hs, hx, hy⟩ := hc
    simp only [dep] at hd
    have hs1 := g1.seqT hs
    refine if_false_of (by rfl) ?_
    refine ⟨_, rfl, rfl, _, rfl, if_true_of (by rfl) ?_⟩
    refine ⟨_, rfl, a, _, _, rfl, hk1.kat.ins, no, _, rfl, b, _, _, _, rfl, rfl, hs1, atI_nat (j := 1) rfl, ?_⟩
    refine ⟨a, x, c, at_, r, dx, la, xs, lh, rfl, hk1, hx.mono g1, by omega, fun z hz => hat z (by simp only [C.atoms, List.mem_append]; exact .inl hz), w, fun H2 g2 => ?_⟩
    have hk2 := hk1.mono g2
    refine ⟨_, rfl, a, _, _, rfl, hk2.kat.ins, no, _, rfl, b, _, _, _, rfl, rfl, g2.seqT hs1, atI_nat (j := 2) rfl, ?_⟩
    refine ⟨a, y, d, at_, r, dx, la, xs, lh, rfl, hk2, hy.mono (g1.trans g2), by omega, fun z hz => hat z (by simp only [C.atoms, List.mem_append]; exact .inr hz), w, fun H3 g3 => ?_⟩
    refine ⟨_, _, rfl, rfl, ?_⟩
    have h := q _ (g1.trans (g2.trans g3))
    show Q (V.int (Builtin.bitAnd ((mk (2 ^ at_.length) (fun t => Oc.holds at_ t c) : Nat) : Int) ((mk (2 ^ at_.length) (fun t => Oc.holds at_ t d) : Nat) : Int))) H3
    rw [band_mk]
    exact h
  | or c d =>
    obtain ⟨b, x, y, rfl, hs, hx, hy⟩ := hc
    simp only [dep] at hd
    have hs1 := g1.seqT hs
    refine if_false_of (by rfl) ?_
    refine ⟨_, rfl, rfl, _, rfl, if_false_of (by rfl) ?_⟩
    refine ⟨_, rfl, rfl, _, rfl, if_true_of (by rfl) ?_⟩
    refine ⟨_, rfl, a, _, _, rfl, hk1.kat.ins, no, _, rfl, b, _, _, _, rfl, rfl, hs1, atI_nat (j := 1) rfl, ?_⟩
    refine ⟨a, x, c, at_, r, dx, la, xs, lh, rfl, hk1, hx.mono g1, by omega, fun z hz => hat z (by simp only [C.atoms, List.mem_append]; exact .inl hz), w, fun H2 g2 => ?_⟩
    have hk2 := hk1.mono g2
    refine ⟨_, rfl, a, _, _, rfl, hk2.kat.ins, no, _, rfl, b, _, _, _, rfl, rfl, g2.seqT hs1, atI_nat (j := 2) rfl, ?_⟩
    refine ⟨a, y, d, at_, r, dx, la, xs, lh, rfl, hk2, hy.mono (g1.trans g2), by omega, fun z hz => hat z (by simp only [C.atoms, List.mem_append]; exact .inr hz), w, fun H3 g3 => ?_⟩
    refine ⟨_, _, rfl, rfl, ?_⟩
    have h := q _ (g1.trans (g2.trans g3))
    show Q (V.int (Builtin.bitOr ((mk (2 ^ at_.length) (fun t => Oc.holds at_ t c) : Nat) : Int) ((mk (2 ^ at_.length) (fun t => Oc.holds at_ t d) : Nat) : Int))) H3
    rw [bor_mk]
    exact h
  | not c =>
    obtain ⟨b, x, rfl, hs, hx⟩ := hc
    simp only [dep] at hd
    have hs1 := g1.seqT hs
    refine if_false_of (by rfl) ?_
    refine ⟨_, rfl, rfl, _, rfl, if_false_of (by rfl) ?_⟩
    refine ⟨_, rfl, rfl, _, rfl, if_false_of (by rfl) ?_⟩
    refine ⟨_, rfl, rfl, _, rfl, if_true_of (by rfl) ?_⟩
    refine ⟨_, rfl, a, _, _, rfl, hk1.kat.ins, no2, _, rfl, a, _, _, rfl, hk1.kat.ins, no, _, rfl, b, _, _, _, rfl, rfl, hs1, atI_nat (j := 1) rfl, ?_⟩
    refine ⟨a, x, c, at_, r, dx, la, xs, lh, rfl, hk1, hx.mono g1, by omega, fun z hz => hat z (by simp only [C.atoms]; exact hz), w, fun H2 g2 => ?_⟩
    exact ⟨a, at_, r, dx, la, xs, _, rfl, (hk1.mono g2).kat, q _ (g1.trans g2)⟩
  | name n0 =>
    refine if_false_of (by rfl) ?_
    refine ⟨_, rfl, rfl, _, rfl, if_false_of (by rfl) ?_⟩
    refine ⟨_, rfl, rfl, _, rfl, if_false_of (by rfl) ?_⟩
    refine ⟨_, rfl, rfl, _, rfl, if_false_of (by rfl) ?_⟩
    exact r_holding T rfl rfl hk1 (hc.mono g1) w (hat _ (by simp [C.atoms])) (q _ g1)
  | some r0 c =>
    refine if_false_of (by rfl) ?_
    refine ⟨_, rfl, rfl, _, rfl, if_false_of (by rfl) ?_⟩
    refine ⟨_, rfl, rfl, _, rfl, if_false_of (by rfl) ?_⟩
    refine ⟨_, rfl, rfl, _, rfl, if_false_of (by rfl) ?_⟩
    exact r_holding T rfl rfl hk1 (hc.mono g1) w (hat _ (by simp [C.atoms])) (q _ g1)
  | all r0 c =>
    refine if_false_of (by rfl) ?_
    refine ⟨_, rfl, rfl, _, rfl, if_false_of (by rfl) ?_⟩
    refine ⟨_, rfl, rfl, _, rfl, if_false_of (by rfl) ?_⟩
    refine ⟨_, rfl, rfl, _, rfl, if_false_of (by rfl) ?_⟩
    exact r_holding T rfl rfl hk1 (hc.mono g1) w (hat _ (by simp [C.atoms])) (q _ g1)
theorem rec_set_of (T : Txt K mg A) : ∀ n : Nat, FnOk P w K mg base CX0 (n + 2) A.a_set_of A.d_set_of ["self", "concept"] (spSetOf K A n)
  | 0 => none_set_of
  | n + 1 => ok_set_of T (rec_set_of T n)
theorem okr_set_of (T : Txt K mg A) : FnOk P w K mg base CX0 52 A.a_set_of A.d_set_of ["self", "concept"] (spSetOf K A 50) := rec_set_of T 50
end
end Ca
namespace Ca
open PySem PySem.Spec PyProof.Rows L2
open Oc (C Axiom)
section
variable {P : Program} {w : World} {K : PySem.W.Frag} {mg : Str → Option Value} {base : Heap} {A : Ads}
/-! ### what a kind permits and asks -/
/-- the parts of a Kinds object -/
structure KO where
  r : List (Str × V)
  dx : Addr
  la : Addr
  xs : List V
  lh : Addr
abbrev KH (K : PySem.W.Frag) (A : Ads) (H : Hp) (a : Addr) (at_ : List C) (o : KO) : Prop := KHold K A H a at_ o.r o.dx o.la o.xs o.lh
/-- no method's name is a field -/
theorem KH.no {H : Hp} {a : Addr} {at_ : List C} {o : KO} (h : KH K A H a at_ o) {k : Str} (h1 : (k == ("atoms" : Str)) = false) (h2 : (k == ("many" : Str)) = false) (h3 : (k == ("whole" : Str)) = false) (h4 : (k == ("holding" : Str)) = false) (h5 : (k == ("possible" : Str)) = false) :
    (kF o.la at_.length o.r).lookup k = none := kF_none h.kat.stg h1 h2 h3 h4 h5
def Restr (x : C) (s : Nat) (c : C) : Prop := x = .some s c ∨ x = .all s c
theorem Restr.rep {H : Hp} {x : C} {s : Nat} {c : C} {v : V} (h : Restr x s c) (hv : CRep K H x v) : ∃ b z y, v = .ref b ∧ SqT K H b [.int z, .int (s : Int), y] ∧ CRep K H c y ∧ z = wd x := by
  rcases h with rfl | rfl
  · obtain ⟨b, y, h1, h2, h3⟩ := hv
    exact ⟨b, _, y, h1, h2, h3, rfl⟩
  · obtain ⟨b, y, h1, h2, h3⟩ := hv
    exact ⟨b, _, y, h1, h2, h3, rfl⟩
theorem Restr.atoms {x : C} {s : Nat} {c : C} (h : Restr x s c) : ∀ y ∈ c.atoms, y ∈ x.atoms := fun y hy => by
  rcases h with rfl | rfl <;> simp [C.atoms, hy]
theorem Restr.dep {x : C} {s : Nat} {c : C} (h : Restr x s c) : dep c < dep x := by
  rcases h with rfl | rfl <;> simp only [Ca.dep] <;> omega
/-- inside -/
def spInside (K : PySem.W.Frag) (A : Ads) : Sp := fun vs H Q _ => ∃ (a : Addr) (v : V) (x : C) (s : Nat) (c : C) (at_ : List C) (o : KO), vs = [.ref a, v] ∧ KH K A H a at_ o ∧ WFat at_ ∧ CRep K H x v ∧ x ∈ at_ ∧ Restr x s c ∧
  ∀ H', Same H H' → Q (.int ((mk (2 ^ at_.length) (fun t => Oc.holds at_ t c) : Nat) : Int)) H'
theorem ok_inside (T : Txt K mg A) : FnOk P w K mg base CX0 53 A.a_inside A.d_inside ["self", "atom"] (spInside K A) := by
  refine T.f_inside.ok sc_inside (fun vs H Q E h => ?_) (fun cdv A' outer s H vs Q E hr h => ?_)
  · obtain ⟨_, _, _, _, _, _, _, rfl, _⟩ := h
    rfl
  obtain ⟨a, v, x, s0, c, at_, o, rfl, hk, w, hv, hm, hr0, q⟩ := h
  refine ⟨_, (pss_one (ps_ret (pe_meth (pv 0) T.cl_Kinds T.m_set_of (okr_set_of T) (hr.mono (by omega)) T.b_set_of .nil pass0 (by exact (pa_cons (pe_ix ix_tup (pv 1) pe_int (fun _ _ => rfl)) pa_nil))))), ?_⟩
  obtain ⟨b, z, y, rfl, hs, hy, _⟩ := hr0.rep hv
  refine ⟨_, rfl, a, _, _, rfl, hk.kat.ins, KH.no hk (by decide +kernel) (by decide +kernel) (by decide +kernel) (by decide +kernel) (by decide +kernel), _, rfl, b, _, _, _, rfl, rfl, hs, atI_nat (j := 2) rfl, ?_⟩
  exact ⟨a, y, c, at_, o.r, o.dx, o.la, o.xs, o.lh, rfl, hk, hy, by have := hr0.dep; have := w.dep x hm; omega, fun u hu => w.closed x hm u (hr0.atoms u hu), w, q⟩
/-- permitted -/
def spPermitted (K : PySem.W.Frag) (A : Ads) : Sp := fun vs H Q _ => ∃ (a : Addr) (t role : Nat) (at_ : List C) (o : KO), vs = [.ref a, .int (t : Int), .int (role : Int)] ∧ KH K A H a at_ o ∧ WFat at_ ∧
  ∀ H', Same H H' → Q (.int ((mk (2 ^ at_.length) (fun u => Oc.fits at_ role t u) : Nat) : Int)) H'
theorem fit_name {at_ : List C} {r t u a : Nat} : fitF at_ r t u (.name a) = true := rfl
theorem int_eq (m n : Nat) : decide (V.int (m : Int) = V.int (n : Int)) = decide (m = n) := by
  by_cases h : m = n
  · subst h
    rw [decide_eq_true rfl, decide_eq_true rfl]
  · rw [decide_eq_false h, decide_eq_false]
    intro e
    injection e with e
    omega
theorem ok_permitted (T : Txt K mg A) : FnOk P w K mg base CX0 54 A.a_permitted A.d_permitted ["self", "kind", "role"] (spPermitted K A) := by
  refine T.f_permitted.ok sc_permitted (fun vs H Q E h => ?_) (fun cdv A' outer s H vs Q E hr h => ?_)
  · obtain ⟨_, _, _, _, _, rfl, _⟩ := h
    rfl
  obtain ⟨a, t, role, at_, o, rfl, hk, w, q⟩ := h
  refine ⟨_, (pss_cons (ps_set (i := 3) sc_permitted.nd rfl (Or.inl rfl) (pe_fld (pv 0) rfl))
    (pss_cons (ps_for PassesOwn.never rfl (pi_enum (by rfl) T.z_enumerate (pa_cons (pe_fld (pv 0) rfl) pa_nil)) (pg_tup rfl (pgs_cons (pg_name (i := 4) sc_permitted.nd rfl (Or.inl rfl)) (pgs_cons (pg_name (i := 5) sc_permitted.nd rfl (Or.inl rfl)) pgs_nil))) (pss_cons (ps_if (PW.pt (pw_and (pt_cmpR op_eq (pe_ix ix_tup (pv 5) pe_int (fun _ _ => rfl)) (pe_glob (v := .int (6)) rfl T.g_SOME ⟨_, rfl⟩) (nomark _)) (pw_and (pt_cmpR op_eq (pe_ix ix_tup (pv 5) pe_int (fun _ _ => rfl)) (pv 2) (nomark _)) (pw_and1 (pt_not (pt_val (pe_call (ok_has_bit T) (hr.mono (by omega)) (by rfl) T.g_has_bit T.f_has_bit.kp T.b_has_bit .nil pass0 (by exact (pa_cons (pv 1) (pa_cons (pv 4) pa_nil)))))))))) (pss_one (ps_set (i := 3) sc_permitted.nd rfl (Or.inl rfl) (pe_op op_and (pv 3) (pe_meth (pv 0) T.cl_Kinds T.m_without (ok_without T) (hr.mono (by omega)) T.b_without .nil pass0 (by exact (pa_cons (pe_meth (pv 0) T.cl_Kinds T.m_inside (ok_inside T) (hr.mono (by omega)) T.b_inside .nil pass0 (by exact (pa_cons (pv 5) pa_nil))) pa_nil)))))) pss_nil)
    (pss_one (ps_if (PW.pt (pw_and (pt_cmpR op_eq (pe_ix ix_tup (pv 5) pe_int (fun _ _ => rfl)) (pe_glob (v := .int (7)) rfl T.g_EVERY ⟨_, rfl⟩) (nomark _)) (pw_and (pt_cmpR op_eq (pe_ix ix_tup (pv 5) pe_int (fun _ _ => rfl)) (pv 2) (nomark _)) (pw_and1 (pt_val (pe_call (ok_has_bit T) (hr.mono (by omega)) (by rfl) T.g_has_bit T.f_has_bit.kp T.b_has_bit .nil pass0 (by exact (pa_cons (pv 1) (pa_cons (pv 4) pa_nil))))))))) (pss_one (ps_set (i := 3) sc_permitted.nd rfl (Or.inl rfl) (pe_op op_and (pv 3) (pe_meth (pv 0) T.cl_Kinds T.m_inside (ok_inside T) (hr.mono (by omega)) T.b_inside .nil pass0 (by exact (pa_cons (pv 5) pa_nil)))))) pss_nil))))
    (pss_one (ps_ret (pv 3))))), ?_⟩
  refine ⟨_, rfl, a, _, _, _, _, rfl, hk.kat.ins, T.cl_Kinds, T.n_whole, kF_whole _ _ _, ?_⟩
  refine ⟨_, rfl, a, _, _, _, _, rfl, hk.kat.ins, T.cl_Kinds, T.n_atoms, kF_atoms _ _ _, o.la, o.xs, rfl, SqL.of hk.kat.lst, ?_⟩
  have hxl := hk.kat.rep.length
  refine for_it (walk_enum (K := K) (a := o.la) (xs := o.xs)) (fun i σ H1 => ∃ x4 x5, Same H H1 ∧ σ = [some (.ref a), some (.int (t : Int)), some (.int (role : Int)), some (.int ((mk (2 ^ at_.length) (fun u => (at_.take i).all (fitF at_ role t u)) : Nat) : Int)), x4, x5]) ?_ ?_ ?_ ?_
  · refine ⟨none, none, Same.refl _, ?_⟩
    rw [show mk (2 ^ at_.length) (fun u => (at_.take 0).all (fitF at_ role t u)) = wN at_.length from rfl]
    rfl
  · rintro i σ H1 _ ⟨_, _, g1, _⟩
    exact SqL.of (hk.mono g1).kat.lst
  · rintro i v σ H1 H2 hi ⟨x4, x5, g1, rfl⟩ ⟨T0, y0, y, rfl, hT, rfl, e0, e1⟩
    cases e0
    have gT : Same H1 (upd H1 T0 (.tup [.int (i : Int), y])) := Same.new hT _
    obtain ⟨x, hx, hy⟩ := hk.kat.rep.get e1
    have hxm := List.mem_of_getElem? hx
    have g2 := g1.trans gT
    have hk2 := hk.mono g2
    have hy2 := hy.mono g2
    refine ⟨T0, _, rfl, SqT.of upd_same, rfl, _, _, rfl, _, _, rfl, rfl, ?_⟩
    have step : ∀ p : Nat → Bool, (∀ u, p u = fitF at_ role t u x) → mk (2 ^ at_.length) (fun u => (at_.take i).all (fitF at_ role t u) && p u) = mk (2 ^ at_.length) (fun u => (at_.take (i + 1)).all (fitF at_ role t u)) := fun p hp => mk_ext fun u _ => by
      rw [take_snoc hx, List.all_append, hp u]
      simp
    have stay : (∀ u, fitF at_ role t u x = true) → mk (2 ^ at_.length) (fun u => (at_.take i).all (fitF at_ role t u)) = mk (2 ^ at_.length) (fun u => (at_.take (i + 1)).all (fitF at_ role t u)) := fun h => by
      rw [← step (fun _ => true) (fun u => (h u).symm)]
      exact mk_ext fun u _ => by simp
    have hb : ∀ t, Oc.holds at_ t x = Oc.bit t i := fun t => holds_at w.nodup hx (w.atom x hxm)
    have nI := KH.no hk2 (k := "inside") (by decide +kernel) (by decide +kernel) (by decide +kernel) (by decide +kernel) (by decide +kernel)
    have nW := KH.no hk2 (k := "without") (by decide +kernel) (by decide +kernel) (by decide +kernel) (by decide +kernel) (by decide +kernel)
    refine r_word rfl hy2 ⟨rfl, _, rfl, ?_⟩
    cases x with
    | top => cases w.atom _ hxm
    | bot => cases w.atom _ hxm
    | and _ _ => cases w.atom _ hxm
    | or _ _ => cases w.atom _ hxm
    | not _ => cases w.atom _ hxm
    | name n0 =>
      refine if_false_of (by rfl) ?_
      refine if_false_of (by rfl) ?_
      refine r_word rfl hy2 ⟨rfl, _, rfl, ?_⟩
      refine if_false_of (by rfl) ?_
      refine if_false_of (by rfl) ?_
      exact ⟨_, _, g2, by rw [← stay fun u => rfl]; rfl⟩
    | some s0 c =>
      obtain ⟨b, y', rfl, hs, hy'⟩ := id hy2
      refine if_true_of (by rfl) ?_
      refine ⟨_, rfl, b, _, _, _, rfl, rfl, hs, atI_nat (j := 1) rfl, _, rfl, rfl, _, rfl, ?_⟩
      rw [int_eq]
      by_cases e : s0 = role
      · subst e
        refine if_true_of (decide_eq_true rfl) ?_
        refine ⟨_, rfl, _, rfl, t, i, rfl, _, rfl, ?_⟩
        cases hbt : Oc.bit t i with
        | false =>
          refine if_true_of (by rfl) ?_
          refine ⟨_, rfl, _, rfl, a, _, _, rfl, hk2.kat.ins, nW, _, rfl, a, _, _, rfl, hk2.kat.ins, nI, _, rfl, ?_⟩
          refine ⟨a, _, _, s0, c, at_, o, rfl, hk2, w, hy2, hxm, .inl rfl, fun H3 g3 => ?_⟩
          refine ⟨a, at_, o.r, o.dx, o.la, o.xs, _, rfl, (hk2.mono g3).kat, ?_⟩
          refine ⟨_, _, rfl, rfl, ?_⟩
          refine r_word rfl (hy2.mono g3) ⟨rfl, _, rfl, ?_⟩
          refine if_false_of (by rfl) ?_
          refine if_false_of (by rfl) ?_
          refine ⟨some (.int (i : Int)), some (.ref b), g2.trans g3, ?_⟩
          show [some (V.ref a), some (.int (t : Int)), some (.int (s0 : Int)), some (V.int (Builtin.bitAnd ((mk (2 ^ at_.length) (fun u => (at_.take i).all (fitF at_ s0 t u)) : Nat) : Int) ((mk (2 ^ at_.length) (fun u => !Oc.holds at_ u c) : Nat) : Int))), _, _] = _
          rw [band_mk, step (fun u => !Oc.holds at_ u c) fun u => by unfold fitF; dsimp only; rw [hb t, hbt]; simp]
        | true =>
          refine if_false_of (by rfl) ?_
          refine r_word rfl hy2 ⟨rfl, _, rfl, ?_⟩
          refine if_false_of (by rfl) ?_
          refine if_false_of (by rfl) ?_
          exact ⟨_, _, g2, by rw [← stay fun u => (by unfold fitF; dsimp only; rw [hb t, hbt]; simp)]; rfl⟩
      · refine if_false_of (decide_eq_false e) ?_
        refine if_false_of (by rfl) ?_
        refine r_word rfl hy2 ⟨rfl, _, rfl, ?_⟩
        refine if_false_of (by rfl) ?_
        refine if_false_of (by rfl) ?_
        exact ⟨_, _, g2, by rw [← stay fun u => (by unfold fitF; dsimp only; simp [e])]; rfl⟩
    | all s0 c =>
      obtain ⟨b, y', rfl, hs, hy'⟩ := id hy2
      refine if_false_of (by rfl) ?_
      refine if_false_of (by rfl) ?_
      refine r_word rfl hy2 ⟨rfl, _, rfl, ?_⟩
      refine if_true_of (by rfl) ?_
      refine ⟨_, rfl, b, _, _, _, rfl, rfl, hs, atI_nat (j := 1) rfl, _, rfl, rfl, _, rfl, ?_⟩
      rw [int_eq]
      by_cases e : s0 = role
      · subst e
        refine if_true_of (decide_eq_true rfl) ?_
        refine ⟨_, rfl, _, rfl, t, i, rfl, _, rfl, ?_⟩
        cases hbt : Oc.bit t i with
        | true =>
          refine if_true_of (by rfl) ?_
          refine ⟨_, rfl, _, rfl, a, _, _, rfl, hk2.kat.ins, nI, _, rfl, ?_⟩
          refine ⟨a, _, _, s0, c, at_, o, rfl, hk2, w, hy2, hxm, .inr rfl, fun H3 g3 => ?_⟩
          refine ⟨_, _, rfl, rfl, ?_⟩
          refine ⟨some (.int (i : Int)), some (.ref b), g2.trans g3, ?_⟩
          show [some (V.ref a), some (.int (t : Int)), some (.int (s0 : Int)), some (V.int (Builtin.bitAnd ((mk (2 ^ at_.length) (fun u => (at_.take i).all (fitF at_ s0 t u)) : Nat) : Int) ((mk (2 ^ at_.length) (fun u => Oc.holds at_ u c) : Nat) : Int))), _, _] = _
          rw [band_mk, step (fun u => Oc.holds at_ u c) fun u => by unfold fitF; dsimp only; rw [hb t, hbt]; simp]
        | false =>
          refine if_false_of (by rfl) ?_
          exact ⟨_, _, g2, by rw [← stay fun u => (by unfold fitF; dsimp only; rw [hb t, hbt]; simp)]; rfl⟩
      · refine if_false_of (decide_eq_false e) ?_
        refine if_false_of (by rfl) ?_
        exact ⟨_, _, g2, by rw [← stay fun u => (by unfold fitF; dsimp only; simp [e])]; rfl⟩
  · rintro σ H1 ⟨x4, x5, g1, rfl⟩
    refine ⟨_, rfl, ?_⟩
    rw [hxl, List.take_length]
    exact q _ g1
/-- is_to_support -/
def spIsToSupport (K : PySem.W.Frag) (A : Ads) : Sp := fun vs H Q _ => ∃ (a : Addr) (t k : Nat) (at_ : List C) (o : KO), vs = [.ref a, .int (t : Int), .int (k : Int)] ∧ KH K A H a at_ o ∧ k < at_.length ∧ Q (.bl (needK at_ t k)) H
theorem ok_is_to_support (T : Txt K mg A) : FnOk P w K mg base CX0 2 A.a_is_to_support A.d_is_to_support ["self", "kind", "k"] (spIsToSupport K A) := by
  refine T.f_is_to_support.ok sc_is_to_support (fun vs H Q E h => ?_) (fun cdv A' outer s H vs Q E hr h => ?_)
  · obtain ⟨_, _, _, _, _, rfl, _⟩ := h
    rfl
  obtain ⟨a, t, k, at_, o, rfl, hk, hkl, q⟩ := h
  refine ⟨_, (pss_cons (ps_set (i := 3) sc_is_to_support.nd rfl (Or.inl rfl) (pe_ix ix_tup (pe_ix ix_list (pe_fld (pv 0) rfl) (pv 2) (fun _ _ => rfl)) pe_int (fun _ _ => rfl)))
    (pss_one (ps_ret (pe_or (pe_and (pe_cmpR op_eq (pv 3) (pe_glob (v := .int (6)) rfl T.g_SOME ⟨_, rfl⟩) (nomark _)) (pe_one (pe_call (ok_has_bit T) (hr.mono (by omega)) (by rfl) T.g_has_bit T.f_has_bit.kp T.b_has_bit .nil pass0 (by exact (pa_cons (pv 1) (pa_cons (pv 2) pa_nil)))))) (pe_one (pe_and (pe_cmpR op_eq (pv 3) (pe_glob (v := .int (7)) rfl T.g_EVERY ⟨_, rfl⟩) (nomark _)) (pe_one (pe_not (pe_call (ok_has_bit T) (hr.mono (by omega)) (by rfl) T.g_has_bit T.f_has_bit.kp T.b_has_bit .nil pass0 (by exact (pa_cons (pv 1) (pa_cons (pv 2) pa_nil)))))))))))), ?_⟩
  obtain ⟨x, hx⟩ : ∃ x, at_[k]? = some x := ⟨at_[k], List.getElem?_eq_getElem hkl⟩
  obtain ⟨v, hv, hxv⟩ := hk.kat.rep.at hx
  obtain ⟨b, ys, rfl, hs, _⟩ := hxv.view
  refine ⟨_, rfl, a, _, _, _, _, rfl, hk.kat.ins, T.cl_Kinds, T.n_atoms, kF_atoms _ _ _, _, rfl, o.la, o.xs, _, _, rfl, rfl, SqL.of hk.kat.lst, atI_nat hv, b, _, _, _, rfl, rfl, hs, atI_wd x ys, ?_⟩
  have e : needK at_ t k = needX (Oc.bit t k) x := by unfold needK; rw [hx]
  rw [e] at q
  refine ⟨_, rfl, rfl, _, rfl, ?_⟩
  cases x with
  | some s0 c =>
    refine if_true_of (by rfl) ?_
    refine ⟨_, rfl, _, rfl, t, k, rfl, _, rfl, ?_⟩
    cases hb : Oc.bit t k with
    | true => exact if_true_of rfl (by rw [hb] at q; exact q)
    | false =>
      refine if_false_of rfl ?_
      refine ⟨_, rfl, rfl, _, rfl, if_false_of (by rfl) ?_⟩
      rw [hb] at q
      exact q
  | all s0 c =>
    refine if_false_of (by rfl) ?_
    refine ⟨_, rfl, if_false_of rfl ?_⟩
    refine ⟨_, rfl, rfl, _, rfl, if_true_of (by rfl) ?_⟩
    exact ⟨_, rfl, _, rfl, t, k, rfl, _, rfl, q⟩
  | _ =>
    refine if_false_of (by rfl) ?_
    refine ⟨_, rfl, if_false_of rfl ?_⟩
    refine ⟨_, rfl, rfl, _, rfl, if_false_of (by rfl) ?_⟩
    exact q
/-- to_support -/
def spToSupport (K : PySem.W.Frag) (A : Ads) : Sp := fun vs H Q _ => ∃ (a : Addr) (t : Nat) (at_ : List C) (o : KO), vs = [.ref a, .int (t : Int)] ∧ KH K A H a at_ o ∧ at_.length ≤ 6 ∧
  ∀ H' l, Same H H' → H l = none → H' l = some (.lst (nV (needs_ at_ t))) → Q (.ref l) H'
theorem ok_to_support (T : Txt K mg A) : FnOk P w K mg base CX0 3 A.a_to_support A.d_to_support ["self", "kind"] (spToSupport K A) := by
  refine T.f_to_support.ok sc_to_support (fun vs H Q E h => ?_) (fun cdv A' outer s H vs Q E hr h => ?_)
  · obtain ⟨_, _, _, _, rfl, _⟩ := h
    rfl
  obtain ⟨a, t, at_, o, rfl, hk, hlen, q⟩ := h
  refine ⟨_, (pss_one (ps_ret (pe_lc (own := [("k", 2)]) (g := gName 2) rfl sc_to_support.nd (pi_range1 (by rfl) T.z_range (pa_cons (pe_callB call_len_seq (by rfl) T.z_len PySem.boot_len (pa_cons (pe_fld (pv 0) rfl) pa_nil)) pa_nil)) (blkOk_by (own := [("k", 2)]) (N := N_to_support) (sc := (defScope s_to_support)) (by decide +kernel)) (fun _ _ _ _ _ => pg_name (i := 2) sc_to_support.nd rfl (Or.inl rfl)) (fun _ _ _ _ _ => by exact (pts_one (pt_val (pe_meth (pv 0) T.cl_Kinds T.m_is_to_support (ok_is_to_support T) (hr.mono (by omega)) T.b_is_to_support .nil pass0 (by exact (pa_cons (pv 1) (pa_cons (pv 2) pa_nil))))))) (fun _ _ _ _ _ => by exact (pv 2))))), ?_⟩
  have hxl := hk.kat.rep.length
  refine ⟨_, rfl, a, _, _, _, _, rfl, hk.kat.ins, T.cl_Kinds, T.n_atoms, kF_atoms _ _ _, o.la, o.xs, rfl, .inl (SqL.of hk.kat.lst), _, rfl, rlo _, rhi (by omega), fun D hD => ?_⟩
  refine lc_range (lo := 0) (n := ((o.xs.length : Nat) : Int).toNat) (fun i H1 => Same H H1 ∧ H1 D = some (.lst (nV ((List.range i).filter (needK at_ t))))) ⟨Same.new hD _, upd_same⟩ ?_ ?_
  · rintro i H1 hi ⟨g1, h1⟩
    have hk1 := hk.mono g1
    refine ⟨rfl, _, rfl, a, _, _, rfl, hk1.kat.ins, KH.no hk1 (by decide +kernel) (by decide +kernel) (by decide +kernel) (by decide +kernel) (by decide +kernel), _, rfl, _, rfl, a, t, i, at_, o, by rw [Int.zero_add]; rfl, hk1, by omega, _, rfl, ?_⟩
    have e := range_snoc i (needK at_ t)
    by_cases hb : needK at_ t i = true
    · refine if_true_of hb ?_
      rw [if_pos hb] at e
      refine ⟨_, rfl, _, h1, ?_, g1.put hD _, ?_⟩
      · rw [nV_length]
        have := List.length_filter_le (needK at_ t) (List.range i)
        rw [List.length_range] at this
        exact smallT (by omega)
      · rw [upd_same, e, nV_append, Int.zero_add]
        rfl
    · have hb' : needK at_ t i = false := Bool.eq_false_iff.mpr hb
      refine if_false_of hb' ?_
      rw [if_neg hb, List.append_nil] at e
      exact ⟨g1, by rw [e]; exact h1⟩
  · rintro H1 ⟨g1, h1⟩
    rw [Int.toNat_natCast, hxl] at h1
    exact q H1 D g1 hD h1
/-- supporting -/
def spSupporting (K : PySem.W.Frag) (A : Ads) : Sp := fun vs H Q _ => ∃ (a : Addr) (t k : Nat) (at_ : List C) (o : KO), vs = [.ref a, .int (t : Int), .int (k : Int)] ∧ KH K A H a at_ o ∧ WFat at_ ∧ needK at_ t k = true ∧
  ∀ H', Same H H' → Q (.int ((mk (2 ^ at_.length) (suppK at_ t k) : Nat) : Int)) H'
theorem needK_some {at_ : List C} {t k : Nat} (h : needK at_ t k = true) : ∃ x s c, at_[k]? = some x ∧ Restr x s c := by
  unfold needK at h
  cases e : at_[k]? with
  | none => rw [e] at h; cases h
  | some x =>
    rw [e] at h
    cases x with
    | some s c => exact ⟨_, s, c, rfl, .inl rfl⟩
    | all s c => exact ⟨_, s, c, rfl, .inr rfl⟩
    | _ => cases h
theorem ok_supporting (T : Txt K mg A) : FnOk P w K mg base CX0 55 A.a_supporting A.d_supporting ["self", "kind", "k"] (spSupporting K A) := by
  refine T.f_supporting.ok sc_supporting (fun vs H Q E h => ?_) (fun cdv A' outer s H vs Q E hr h => ?_)
  · obtain ⟨_, _, _, _, _, rfl, _⟩ := h
    rfl
  obtain ⟨a, t, k, at_, o, rfl, hk, w, hn, q⟩ := h
  refine ⟨_, (pss_cons (ps_set (i := 3) sc_supporting.nd rfl (Or.inl rfl) (pe_ix ix_list (pe_fld (pv 0) rfl) (pv 2) (fun _ _ => rfl)))
    (pss_cons (ps_set (i := 4) sc_supporting.nd rfl (Or.inl rfl) (pe_ifExp (pt_cmpR op_eq (pe_ix ix_tup (pv 3) pe_int (fun _ _ => rfl)) (pe_glob (v := .int (6)) rfl T.g_SOME ⟨_, rfl⟩) (nomark _)) (pe_meth (pv 0) T.cl_Kinds T.m_inside (ok_inside T) (hr.mono (by omega)) T.b_inside .nil pass0 (by exact (pa_cons (pv 3) pa_nil))) (pe_meth (pv 0) T.cl_Kinds T.m_without (ok_without T) (hr.mono (by omega)) T.b_without .nil pass0 (by exact (pa_cons (pe_meth (pv 0) T.cl_Kinds T.m_inside (ok_inside T) (hr.mono (by omega)) T.b_inside .nil pass0 (by exact (pa_cons (pv 3) pa_nil))) pa_nil)))))
    (pss_one (ps_ret (pe_op op_and (pe_meth (pv 0) T.cl_Kinds T.m_permitted (ok_permitted T) (hr.mono (by omega)) T.b_permitted .nil pass0 (by exact (pa_cons (pv 1) (pa_cons (pe_ix ix_tup (pv 3) pe_int (fun _ _ => rfl)) pa_nil)))) (pv 4)))))), ?_⟩
  obtain ⟨x, s0, c, hx, hr0⟩ := needK_some hn
  have hxm := List.mem_of_getElem? hx
  obtain ⟨v, hv, hxv⟩ := hk.kat.rep.at hx
  obtain ⟨b, z, y, rfl, hs, hy, hz⟩ := hr0.rep hxv
  have nI := KH.no hk (k := "inside") (by decide +kernel) (by decide +kernel) (by decide +kernel) (by decide +kernel) (by decide +kernel)
  have nW := KH.no hk (k := "without") (by decide +kernel) (by decide +kernel) (by decide +kernel) (by decide +kernel) (by decide +kernel)
  have nP := KH.no hk (k := "permitted") (by decide +kernel) (by decide +kernel) (by decide +kernel) (by decide +kernel) (by decide +kernel)
  refine ⟨_, rfl, a, _, _, _, _, rfl, hk.kat.ins, T.cl_Kinds, T.n_atoms, kF_atoms _ _ _, _, rfl, o.la, o.xs, _, _, rfl, rfl, SqL.of hk.kat.lst, atI_nat hv, ?_⟩
  refine r_word rfl hxv ⟨rfl, _, rfl, ?_⟩
  have fin : ∀ (H1 : Hp) (p : Nat → Bool), Same H H1 → (∀ u, (Oc.fits at_ s0 t u && p u) = suppK at_ t k u) →
      (tRet (tOp (rI0 fun i j => .int (Builtin.bitAnd i j)) (tMeth A.C_Kinds "permitted" (spPermitted K A) [] E0 (tVar 0) (tCons (tVar 1) (tCons (tOp (rIxT K) (tVar 3) (tC (.int 1))) tNil))) (tVar 4))) { nx := fun _ H' => Q .non H', rt := Q }
        [some (.ref a), some (.int (t : Int)), some (.int (k : Int)), some (.ref b), some (.int ((mk (2 ^ at_.length) p : Nat) : Int))] H1 := fun H1 p g1 hp => by
    have hk1 := hk.mono g1
    refine ⟨_, rfl, a, _, _, rfl, hk1.kat.ins, nP, _, rfl, _, rfl, b, _, _, _, rfl, rfl, g1.seqT hs, atI_nat (j := 1) rfl, ?_⟩
    refine ⟨a, t, s0, at_, o, rfl, hk1, w, fun H2 g2 => ?_⟩
    refine ⟨_, rfl, _, _, rfl, rfl, ?_⟩
    show Q (V.int (Builtin.bitAnd ((mk (2 ^ at_.length) (fun u => Oc.fits at_ s0 t u) : Nat) : Int) ((mk (2 ^ at_.length) p : Nat) : Int))) H2
    rw [band_mk, mk_ext fun u _ => hp u]
    exact q _ (g1.trans g2)
  rcases hr0 with rfl | rfl
  · refine if_true_of (by rfl) ?_
    refine ⟨_, rfl, a, _, _, rfl, hk.kat.ins, nI, _, rfl, a, _, _, s0, c, at_, o, rfl, hk, w, hxv, hxm, .inl rfl, fun H1 g1 => ?_⟩
    exact fin H1 _ g1 fun u => by unfold suppK; rw [hx]; rfl
  · refine if_false_of (by rfl) ?_
    refine ⟨_, rfl, a, _, _, rfl, hk.kat.ins, nW, _, rfl, a, _, _, rfl, hk.kat.ins, nI, _, rfl, a, _, _, s0, c, at_, o, rfl, hk, w, hxv, hxm, .inr rfl, fun H1 g1 => ?_⟩
    refine ⟨a, at_, o.r, o.dx, o.la, o.xs, _, rfl, (hk.mono g1).kat, ?_⟩
    exact fin H1 _ g1 fun u => by unfold suppK; rw [hx]; rfl
end
end Ca
namespace Ca
open PySem PySem.Spec PyProof.Rows L2
open Oc (C Axiom)
section
variable {P : Program} {w : World} {K : PySem.W.Frag} {mg : Str → Option Value} {base : Heap} {A : Ads}
/-! ### the possible kinds -/
def wantL (at_ : List C) (t : Nat) : List Nat := (needs_ at_ t).map fun k => mk (2 ^ at_.length) (suppK at_ t k)
theorem needs_len (at_ : List C) (t : Nat) : (needs_ at_ t).length ≤ at_.length := by
  unfold needs_
  have := List.length_filter_le (needK at_ t) (List.range at_.length)
  rw [List.length_range] at this
  exact this
theorem needs_mem {at_ : List C} {t k : Nat} (h : k ∈ needs_ at_ t) : needK at_ t k = true ∧ k < at_.length := by
  unfold needs_ at h
  rw [List.mem_filter, List.mem_range] at h
  exact ⟨h.2, h.1⟩
/-- whether a mask meets a set -/
def meet (N : Nat) (p : Nat → Bool) (m : Nat) : Bool := !decide (V.int (Builtin.bitAnd (m : Int) ((mk N p : Nat) : Int)) = V.int 0)
theorem meet_mk (N : Nat) (p q : Nat → Bool) : meet N p (mk N q) = (List.range N).any fun t => p t && q t := by
  unfold meet
  rw [band_mk]
  have e : mk N (fun t => q t && p t) = mk N (fun t => p t && q t) := mk_ext fun t _ => Bool.and_comm _ _
  rw [e]
  cases h : (List.range N).any fun t => p t && q t with
  | false =>
    rw [mk_eq_zero.mpr h]
    rfl
  | true =>
    have hn : ¬ mk N (fun t => p t && q t) = 0 := fun z => by
      rw [mk_eq_zero.mp z] at h
      cases h
    rw [decide_eq_false]
    · rfl
    · intro z
      injection z with z
      omega
theorem meets_borne {at_ : List C} (w : WFat at_) (t : Nat) (p : Nat → Bool) : ((wantL at_ t).map (meet (2 ^ at_.length) p)).all id = Oc.borne at_ (Lof (2 ^ at_.length) p) t := by
  rw [borne_needs w]
  unfold wantL
  rw [List.map_map, List.all_map]
  congr 1
  funext k
  show meet (2 ^ at_.length) p (mk (2 ^ at_.length) (suppK at_ t k)) = _
  rw [meet_mk, Lof_any]
/-- the axioms' concepts are among the atoms -/
def AxIn (axs : List Axiom) (at_ : List C) : Prop := ∀ x ∈ axs, dep x.1 ≤ 50 ∧ dep x.2 ≤ 50 ∧ (∀ y ∈ x.1.atoms, y ∈ at_) ∧ ∀ y ∈ x.2.atoms, y ∈ at_
def spPossibleBy (K : PySem.W.Frag) (A : Ads) : Sp := fun vs H Q _ => ∃ (a l : Addr) (ys : List V) (axs : List Axiom) (at_ : List C) (o : KO), vs = [.ref a, .ref l] ∧ KH K A H a at_ o ∧ WFat at_ ∧ SqL K H l ys ∧ AReps K H axs ys ∧ AxIn axs at_ ∧
  ∀ H' p, Same H H' → Poss at_ axs p → Q (.int ((mk (2 ^ at_.length) p : Nat) : Int)) H'
/-- the lists that are wanted -/
def Wants (at_ : List C) (H : Hp) (D : Addr) (ws : List V) (n : Nat) : Prop := ws.length = n ∧ ∀ j, j < n → ∃ q, ws[j]? = some (.ref q) ∧ q ≠ D ∧ H q = some (.lst (nV (wantL at_ j)))
theorem Wants.mono {at_ : List C} {H H' : Hp} {D : Addr} {ws : List V} {n : Nat} (h : Wants at_ H D ws n) (e : Same H H') : Wants at_ H' D ws n := ⟨h.1, fun j hj => by
  obtain ⟨q, a, b, c⟩ := h.2 j hj
  exact ⟨q, a, b, e _ _ c⟩⟩
def leftOf (σ : L2.St) : Nat := match σ[2]? with
  | some (some (V.int z)) => z.toNat
  | _ => 0
/-- what falls in the while loop -/
def mu (N : Nat) (σ : L2.St) : Nat := if σ[6]? = some (some V.non) then N + 2 else if σ[2]? = σ[6]? then 0 else (Lof N fun t => (leftOf σ).testBit t).length + 1
theorem mu_val (N : Nat) (p : Nat → Bool) (x0 x1 x3 x4 x5 x7 x8 x9 x10 : Option V) (bv : V) :
    mu N [x0, x1, some (.int ((mk N p : Nat) : Int)), x3, x4, x5, some bv, x7, x8, x9, x10] = if bv = .non then N + 2 else if V.int ((mk N p : Nat) : Int) = bv then 0 else (Lof N p).length + 1 := by
  unfold mu
  have e6 : ([x0, x1, some (.int ((mk N p : Nat) : Int)), x3, x4, x5, some bv, x7, x8, x9, x10] : L2.St)[6]? = some (some bv) := rfl
  have e2 : ([x0, x1, some (.int ((mk N p : Nat) : Int)), x3, x4, x5, some bv, x7, x8, x9, x10] : L2.St)[2]? = some (some (.int ((mk N p : Nat) : Int))) := rfl
  have el : leftOf [x0, x1, some (.int ((mk N p : Nat) : Int)), x3, x4, x5, some bv, x7, x8, x9, x10] = mk N p := by
    unfold leftOf
    rw [e2]
    exact Int.toNat_natCast _
  rw [e6, e2, el]
  have em : (Lof N fun t => (mk N p).testBit t) = Lof N p := mk_members N p
  rw [em]
  by_cases h : bv = .non
  · rw [if_pos h, if_pos (by rw [h])]
  · rw [if_neg h, if_neg (fun z => h (Option.some.inj (Option.some.inj z)))]
    by_cases g : V.int ((mk N p : Nat) : Int) = bv
    · rw [if_pos g, if_pos (by rw [g])]
    · rw [if_neg g, if_neg (fun z => g (Option.some.inj (Option.some.inj z)))]
theorem ok_possible_by (T : Txt K mg A) : FnOk P w K mg base CX0 56 A.a_possible_by A.d_possible_by ["self", "axioms"] (spPossibleBy K A) := by
  refine T.f_possible_by.ok sc_possible_by (fun vs H Q E h => ?_) (fun cdv A' outer s H vs Q E hr h => ?_)
  · obtain ⟨_, _, _, _, _, _, rfl, _⟩ := h
    rfl
  obtain ⟨a, l, ys, axs, at_, o, rfl, hk, w, hS, hA, hin, q⟩ := h
  have hN := many_le w.len
  have hyl := hA.length
  refine ⟨_, (pss_cons (ps_set (i := 2) sc_possible_by.nd rfl (Or.inl rfl) (pe_fld (pv 0) rfl))
    (pss_cons (ps_for PassesOwn.never rfl (pi_list (pv 1)) (pg_tup rfl (pgs_cons (pg_name (i := 3) sc_possible_by.nd rfl (Or.inl rfl)) (pgs_cons (pg_name (i := 4) sc_possible_by.nd rfl (Or.inl rfl)) pgs_nil))) (pss_one (ps_set (i := 2) sc_possible_by.nd rfl (Or.inl rfl) (pe_op op_and (pv 2) (pe_op op_or (pe_meth (pv 0) T.cl_Kinds T.m_without (ok_without T) (hr.mono (by omega)) T.b_without .nil pass0 (by exact (pa_cons (pe_meth (pv 0) T.cl_Kinds T.m_set_of (okr_set_of T) (hr.mono (by omega)) T.b_set_of .nil pass0 (by exact (pa_cons (pv 3) pa_nil))) pa_nil))) (pe_meth (pv 0) T.cl_Kinds T.m_set_of (okr_set_of T) (hr.mono (by omega)) T.b_set_of .nil pass0 (by exact (pa_cons (pv 4) pa_nil))))))))
    (pss_cons (ps_set (i := 5) sc_possible_by.nd rfl (Or.inr rfl) (pe_lc (own := [("kind", 8)]) (g := gName 8) (tt := tYes) rfl sc_possible_by.nd (pi_range1 (by rfl) T.z_range (pa_cons (pe_fld (pv 0) rfl) pa_nil)) (blkOk_by (own := [("kind", 8)]) (N := N_possible_by) (sc := (defScope s_possible_by)) (by decide +kernel)) (fun _ _ _ _ _ => pg_name (i := 8) sc_possible_by.nd rfl (Or.inr rfl)) (fun _ _ _ _ _ => by exact pts_nil) (fun _ _ _ _ _ => by exact (by refine' pe_lc (own := [("k", 9)]) (g := gName 9) (tt := tYes) rfl sc_possible_by.nd ?hi (blkOk_by (own := [("k", 9)]) (N := N_possible_by) (sc := (relS (lcScope (stVal ((defBody s_possible_by).getD 2 (.Pass ⟨0, 0, 0, 0⟩)))) (defScope s_possible_by))) (by decide +kernel)) (fun _ _ _ _ _ => pg_name (i := 9) sc_possible_by.nd rfl (Or.inl rfl)) ?ht ?he; (case hi => exact (pi_listK (K := K) rfl (pe_meth (pv 0) T.cl_Kinds T.m_to_support (ok_to_support T) (hr.mono (by omega)) T.b_to_support .nil pass0 (by exact (pa_cons (pv 8) pa_nil))))); (case ht => exact (fun _ _ _ _ _ => by exact pts_nil)); (case he => exact (fun _ _ _ _ _ => by exact (pe_meth (pv 0) T.cl_Kinds T.m_supporting (ok_supporting T) (hr.mono (by omega)) T.b_supporting .nil pass0 (by exact (pa_cons (pv 8) (pa_cons (pv 9) pa_nil))))))))))
    (pss_cons (ps_set (i := 6) sc_possible_by.nd rfl (Or.inr rfl) pe_non)
    (pss_cons (ps_while PassesOwn.never (pt_cmpR op_ne (pv 2) (pv 6) (nomark _)) (pss_cons (ps_set (i := 6) sc_possible_by.nd rfl (Or.inr rfl) (pv 2))
    (pss_cons (ps_setLc (i := 7) (own := [("kind", 8)]) (g := gName 8) rfl sc_possible_by.nd rfl rfl (sw_true rfl rfl rfl (by decide +kernel)) (pi_list (pe_call (ok_members T) (hr.mono (by omega)) (by rfl) T.g_members T.f_members.kp T.b_members .nil pass0 (by exact (pa_cons (pv 6) pa_nil)))) (blkOk_by (own := [("kind", 8)]) (N := N_possible_by) (sc := (defScope s_possible_by)) (by decide +kernel)) (fun _ _ _ _ _ => pg_name (i := 8) sc_possible_by.nd rfl (Or.inl rfl)) (fun _ _ _ _ _ => by exact (pts_one (pt_val (pe_callB (cr_allK (K := K) rfl rfl) (by rfl) T.z_all (by decide +kernel) (pa_cons (by refine' pe_lc (own := [("some", 10)]) (g := gName 10) (tt := tYes) rfl sc_possible_by.nd ?hi (blkOk_by (own := [("some", 10)]) (N := N_possible_by) (sc := (relS (lcScope (stVal ((whBody ((defBody s_possible_by).getD 4 (.Pass ⟨0, 0, 0, 0⟩))).getD 1 (.Pass ⟨0, 0, 0, 0⟩)))) (defScope s_possible_by))) (by decide +kernel)) (fun _ _ _ _ _ => pg_name (i := 10) sc_possible_by.nd rfl (Or.inl rfl)) ?ht ?he; (case hi => exact (pi_listK (K := K) rfl (pe_ix (ix_listK (K := K) rfl) (pv 5) (pv 8) (fun _ _ => rfl)))); (case ht => exact (fun _ _ _ _ _ => by exact pts_nil)); (case he => exact (fun _ _ _ _ _ => by exact (pe_cmpR op_ne (pe_op op_and (pv 10) (pv 6)) pe_int (nomark _))))) pa_nil))))) (fun _ _ _ _ _ => by exact (pv 8)))
    (pss_one (ps_set (i := 2) sc_possible_by.nd rfl (Or.inl rfl) (pe_call (ok_set_with T) (hr.mono (by omega)) (by rfl) T.g_set_with T.f_set_with.kp T.b_set_with .nil pass0 (by exact (pa_cons (pv 7) pa_nil))))))))
    (pss_one (ps_ret (pv 2)))))))), ?_⟩
  refine ⟨_, rfl, a, _, _, _, _, rfl, hk.kat.ins, T.cl_Kinds, T.n_whole, kF_whole _ _ _, ?_⟩
  refine ⟨_, rfl, l, rfl, ⟨_, hS⟩, for_list (K := K) (a := l) (xs := ys) (fun i σ H1 => ∃ x3 x4, Same H H1 ∧ σ = [some (.ref a), some (.ref l), some (.int ((mk (2 ^ at_.length) (Oc.keeps at_ (axs.take i)) : Nat) : Int)), x3, x4, none, none, none, none, none, none]) ?_ ?_ ?_ ?_⟩
  · exact ⟨none, none, Same.refl _, rfl⟩
  · rintro i σ H1 _ ⟨_, _, g1, _⟩
    exact g1.seq hS
  · rintro i v σ H1 hi ⟨x3, x4, g1, rfl⟩
    obtain ⟨x, hx, hv⟩ := hA.get hi
    have hxi := hin x (List.mem_of_getElem? hx)
    obtain ⟨t, y, z, rfl, ht, hy, hz⟩ := hv.tmono g1.t
    have hk1 := hk.mono g1
    have nS := KH.no hk1 (k := "set_of") (by decide +kernel) (by decide +kernel) (by decide +kernel) (by decide +kernel) (by decide +kernel)
    have nW := KH.no hk1 (k := "without") (by decide +kernel) (by decide +kernel) (by decide +kernel) (by decide +kernel) (by decide +kernel)
    refine ⟨t, _, rfl, ht, rfl, _, _, rfl, _, _, rfl, rfl, ?_⟩
    refine ⟨_, rfl, _, rfl, a, _, _, rfl, hk1.kat.ins, nW, _, rfl, a, _, _, rfl, hk1.kat.ins, nS, _, rfl, a, y, x.1, at_, o.r, o.dx, o.la, o.xs, o.lh, rfl, hk1, hy, hxi.1, hxi.2.2.1, w, fun H2 g2 => ?_⟩
    have hk2 := KHold.mono hk1 g2
    refine ⟨a, at_, o.r, o.dx, o.la, o.xs, _, rfl, hk2.kat, ?_⟩
    refine ⟨_, rfl, a, _, _, rfl, hk2.kat.ins, nS, _, rfl, a, z, x.2, at_, o.r, o.dx, o.la, o.xs, o.lh, rfl, hk2, hz.mono g2, hxi.2.1, hxi.2.2.2, w, fun H3 g3 => ?_⟩
    refine ⟨_, _, rfl, rfl, _, _, rfl, rfl, ?_⟩
    refine ⟨some y, some z, g1.trans (g2.trans g3), ?_⟩
    show [some (V.ref a), some (.ref l), some (V.int (Builtin.bitAnd ((mk (2 ^ at_.length) (Oc.keeps at_ (axs.take i)) : Nat) : Int) (Builtin.bitOr ((mk (2 ^ at_.length) (fun t => !Oc.holds at_ t x.1) : Nat) : Int) ((mk (2 ^ at_.length) (fun t => Oc.holds at_ t x.2) : Nat) : Int)))), _, _, none, none, none, none, none, none] = _
    rw [bor_mk, band_mk, mk_ext fun t _ => (keeps_take hx t).symm]
  · rintro σ H1 ⟨x3, x4, g1, rfl⟩
    rw [hyl, List.take_length]
    have hk1 := hk.mono g1
    refine ⟨_, rfl, a, _, _, _, _, rfl, hk1.kat.ins, T.cl_Kinds, T.n_many, kF_many _ _ _, _, rfl, rlo _, rhi (by omega), fun D hD => ?_⟩
    refine lc_range (lo := 0) (n := ((2 ^ at_.length : Nat) : Int).toNat) (fun i H2 => ∃ ws, Same H1 H2 ∧ H2 D = some (.lst ws) ∧ Wants at_ H2 D ws i) ?_ ?_ ?_
    · exact ⟨[], Same.new hD _, upd_same, rfl, fun j hj => absurd hj (Nat.not_lt_zero _)⟩
    · rintro i H2 hi ⟨ws, g2, h2, hw⟩
      rw [Int.toNat_natCast] at hi
      have hk2 := KHold.mono hk1 g2
      have nT := KH.no hk2 (k := "to_support") (by decide +kernel) (by decide +kernel) (by decide +kernel) (by decide +kernel) (by decide +kernel)
      refine ⟨rfl, ?_⟩
      refine ⟨_, rfl, a, _, _, rfl, hk2.kat.ins, nT, _, rfl, a, i, at_, o, by rw [Int.zero_add]; rfl, hk2, w.len, fun H3 l3 g3 hl3 h3 => ?_⟩
      refine ⟨l3, rfl, ⟨_, SqL.of h3⟩, fun D2 hD2 => ?_⟩
      refine lc_list (K := K) (a := l3) (xs := nV (needs_ at_ i)) (fun j H4 => Same H3 H4 ∧ H4 D2 = some (.lst (nV (((needs_ at_ i).take j).map fun k => mk (2 ^ at_.length) (suppK at_ i k))))) ⟨Same.new hD2 _, upd_same⟩ (fun j H4 _ h => SqL.of (h.1 _ _ h3)) ?_ ?_
      · rintro j v H4 hj ⟨g4, h4⟩
        obtain ⟨k, hkj, rfl⟩ := nV_get hj
        have hkm := needs_mem (List.mem_of_getElem? hkj)
        have hk4 := KHold.mono (KHold.mono hk2 g3) g4
        have nP := KH.no hk4 (k := "supporting") (by decide +kernel) (by decide +kernel) (by decide +kernel) (by decide +kernel) (by decide +kernel)
        refine ⟨rfl, ?_⟩
        refine ⟨_, rfl, a, _, _, rfl, hk4.kat.ins, nP, _, rfl, _, rfl, a, i, k, at_, o, by rw [Int.zero_add]; rfl, hk4, w, hkm.1, fun H5 g5 => ?_⟩
        have hjl : j < (needs_ at_ i).length := (List.getElem?_eq_some_iff.mp hkj).1
        refine ⟨_, g5 _ _ h4, ?_, (g4.trans g5).put hD2 _, ?_⟩
        · rw [nV_length, List.length_map, List.length_take]
          have := needs_len at_ i
          have := w.len
          exact smallT (by omega)
        · rw [upd_same, take_snoc hkj, List.map_append, nV_append]
          rfl
      · rintro H4 ⟨g4, h4⟩
        rw [nV_length, List.take_length] at h4
        have hD4 := g4 _ _ (g3 _ _ h2)
        have g24 := g3.trans g4
        have hne : D2 ≠ D := fun e => by
          rw [e, g3 _ _ h2] at hD2
          cases hD2
        have hwl := hw.1
        refine ⟨_, hD4, smallT (by omega), ws ++ [.ref D2], (g2.trans g24).put hD _, upd_same, ?_, fun j hj => ?_⟩
        · rw [List.length_append, hwl]; rfl
        · by_cases ej : j = i
          · subst ej
            refine ⟨D2, by rw [List.getElem?_append_right (by omega), hwl]; simp, hne, by rw [upd_ne hne]; exact h4⟩
          · obtain ⟨q2, e1, e2, e3⟩ := hw.2 j (by omega)
            exact ⟨q2, by rw [List.getElem?_append_left (by omega)]; exact e1, e2, by rw [upd_ne e2]; exact g24 _ _ e3⟩
    · rintro H2 ⟨ws, g2, h2, hw⟩
      rw [Int.toNat_natCast] at hw
      have hk2 := KHold.mono hk1 g2
      refine while_by (fun σ H3 => ∃ (p : Nat → Bool) (f : Nat) (bv : V) (x7 : Option V), Same H2 H3 ∧ Loop at_ axs p f ∧ (bv = .non ∨ ∃ pb, bv = .int ((mk (2 ^ at_.length) pb : Nat) : Int) ∧ mk (2 ^ at_.length) p = mk (2 ^ at_.length) (stp at_ (2 ^ at_.length) pb)) ∧
        σ = [some (.ref a), some (.ref l), some (.int ((mk (2 ^ at_.length) p : Nat) : Int)), x3, x4, some (.ref D), some bv, x7, none, none, none]) (fun σ _ => mu (2 ^ at_.length) σ) ?_ ?_ ?_
      · exact ⟨_, _, .non, none, Same.refl _, loop_start at_ axs, .inl rfl, rfl⟩
      · rintro σ H3 ⟨p, f, bv, x7, g3, hL, hb, rfl⟩
        have hk3 := KHold.mono hk2 g3
        have sc : scal (V.int ((mk (2 ^ at_.length) p : Nat) : Int)) bv = true := by
          rcases hb with rfl | ⟨pb, rfl, _⟩
          · rfl
          · rfl
        refine ⟨_, rfl, _, rfl, sc, _, rfl, ?_⟩
        by_cases eb : V.int ((mk (2 ^ at_.length) p : Nat) : Int) = bv
        · refine if_false_of (by rw [decide_eq_true eb]; rfl) ?_
          rcases hb with rfl | ⟨pb, rfl, hpb⟩
          · cases eb
          · injection eb with eb
            have eb' : mk (2 ^ at_.length) p = mk (2 ^ at_.length) pb := by omega
            have e2 : mk (2 ^ at_.length) (stp at_ (2 ^ at_.length) p) = mk (2 ^ at_.length) p := by rw [stp_congr eb', ← hpb]
            exact ⟨_, rfl, q _ p (g1.trans (g2.trans g3)) (loop_end hL e2)⟩
        · refine if_true_of (by rw [decide_eq_false eb]; rfl) ?_
          refine ⟨_, rfl, ?_⟩
          refine ⟨_, rfl, mk (2 ^ at_.length) p, 2 ^ at_.length, rfl, mk_lt _ _, by omega, fun H4 l4 g4 hl4 h4 => ?_⟩
          rw [mk_members] at h4
          refine ⟨l4, rfl, ⟨_, SqL.of h4⟩, fun D3 hD3 => ?_⟩
          refine lc_list (K := K) (a := l4) (xs := nV (Lof (2 ^ at_.length) p)) (fun j H5 => Same H4 H5 ∧ H5 D3 = some (.lst (nV (((Lof (2 ^ at_.length) p).take j).filter (Oc.borne at_ (Lof (2 ^ at_.length) p)))))) ⟨Same.new hD3 _, upd_same⟩ (fun j H5 _ h => SqL.of (h.1 _ _ h4)) ?_ ?_
          · rintro j v H5 hj ⟨g5, h5⟩
            obtain ⟨t, htj, rfl⟩ := nV_get hj
            have htm := Lof_mem.mp (List.mem_of_getElem? htj)
            have hjl : j < (Lof (2 ^ at_.length) p).length := (List.getElem?_eq_some_iff.mp htj).1
            have hLl := Lof_len (2 ^ at_.length) p
            obtain ⟨wq, e1, e2, e3⟩ := hw.2 t htm.1
            have g25 := g3.trans (g4.trans g5)
            refine ⟨rfl, ?_⟩
            refine ⟨_, rfl, _, rfl, D, ws, _, _, rfl, rfl, SqL.of (g25 _ _ h2), atI_nat e1, wq, rfl, ⟨_, SqL.of (g25 _ _ e3)⟩, fun D4 hD4 => ?_⟩
            refine lc_list (K := K) (a := wq) (xs := nV (wantL at_ t)) (fun i H6 => Same H5 H6 ∧ H6 D4 = some (.lst ((((wantL at_ t).take i).map (meet (2 ^ at_.length) p)).map V.bl))) ⟨Same.new hD4 _, upd_same⟩ (fun i H6 _ h => SqL.of ((g25.trans h.1) _ _ e3)) ?_ ?_
            · rintro i v H6 hi ⟨g6, h6⟩
              obtain ⟨m, hm, rfl⟩ := nV_get hi
              refine ⟨rfl, ?_⟩
              have hil : i < (wantL at_ t).length := (List.getElem?_eq_some_iff.mp hm).1
              have hwl : (wantL at_ t).length ≤ at_.length := by unfold wantL; rw [List.length_map]; exact needs_len at_ t
              refine ⟨_, rfl, _, rfl, _, _, rfl, rfl, rfl, _, h6, ?_, g6.put hD4 _, ?_⟩
              · rw [List.length_map, List.length_map, List.length_take]
                have := w.len
                exact smallT (by omega)
              · rw [upd_same, take_snoc hm, List.map_append, List.map_append]
                rfl
            · rintro H6 ⟨g6, h6⟩
              rw [nV_length, List.take_length] at h6
              refine ⟨D4, (wantL at_ t).map (meet (2 ^ at_.length) p), rfl, SqL.of h6, _, rfl, ?_⟩
              rw [meets_borne w]
              have snoc : ((Lof (2 ^ at_.length) p).take (j + 1)).filter (Oc.borne at_ (Lof (2 ^ at_.length) p)) = ((Lof (2 ^ at_.length) p).take j).filter (Oc.borne at_ (Lof (2 ^ at_.length) p)) ++ (if Oc.borne at_ (Lof (2 ^ at_.length) p) t = true then [t] else []) := by
                rw [take_snoc htj, List.filter_append]
                cases hbb : Oc.borne at_ (Lof (2 ^ at_.length) p) t <;> simp [hbb]
              cases hbb : Oc.borne at_ (Lof (2 ^ at_.length) p) t with
              | true =>
                refine if_true_of rfl ?_
                rw [if_pos hbb] at snoc
                refine ⟨_, rfl, _, g6 _ _ h5, ?_, (g5.trans g6).put hD3 _, ?_⟩
                · rw [nV_length]
                  have := List.length_filter_le (Oc.borne at_ (Lof (2 ^ at_.length) p)) ((Lof (2 ^ at_.length) p).take j)
                  rw [List.length_take] at this
                  exact smallT (by omega)
                · rw [upd_same, snoc, nV_append]
                  rfl
              | false =>
                refine if_false_of rfl ?_
                rw [if_neg (by rw [hbb]; decide), List.append_nil] at snoc
                exact ⟨g5.trans g6, by rw [snoc]; exact g6 _ _ h5⟩
          · rintro H5 ⟨g5, h5⟩
            rw [nV_length, List.take_length, stp_Lof] at h5
            refine ⟨_, rfl, D3, _, rfl, SqL.of h5, fun k hk' => ?_, ?_, fun H6 g6 => ?_⟩
            · have := (Lof_mem.mp hk').1
              omega
            · have := Lof_len (2 ^ at_.length) (stp at_ (2 ^ at_.length) p)
              omega
            · rw [show ((Lof (2 ^ at_.length) (stp at_ (2 ^ at_.length) p)).map fun k => (2 : Int) ^ k).sum = ((mk (2 ^ at_.length) (stp at_ (2 ^ at_.length) p) : Nat) : Int) from mk_sumI _ _]
              obtain ⟨f', hL'⟩ := loop_turn hL
              refine ⟨⟨stp at_ (2 ^ at_.length) p, f', _, _, g3.trans (g4.trans (g5.trans g6)), hL', .inr ⟨p, rfl, rfl⟩, rfl⟩, ?_⟩
              show mu (2 ^ at_.length) [some (.ref a), some (.ref l), some (.int ((mk (2 ^ at_.length) (stp at_ (2 ^ at_.length) p) : Nat) : Int)), x3, x4, some (.ref D), some (.int ((mk (2 ^ at_.length) p : Nat) : Int)), _, none, none, none] < mu (2 ^ at_.length) [some (.ref a), some (.ref l), some (.int ((mk (2 ^ at_.length) p : Nat) : Int)), x3, x4, some (.ref D), some bv, x7, none, none, none]
              rw [mu_val, mu_val, if_neg (by intro z; cases z)]
              have hle := Lof_len (2 ^ at_.length) (stp at_ (2 ^ at_.length) p)
              by_cases e1 : V.int ((mk (2 ^ at_.length) (stp at_ (2 ^ at_.length) p) : Nat) : Int) = V.int ((mk (2 ^ at_.length) p : Nat) : Int)
              · rw [if_pos e1]
                by_cases e2 : bv = .non
                · rw [if_pos e2]; omega
                · rw [if_neg e2, if_neg eb]; omega
              · rw [if_neg e1]
                by_cases e2 : bv = .non
                · rw [if_pos e2]; omega
                · rw [if_neg e2, if_neg eb]
                  have := (settle_less (at_ := at_) (n := 2 ^ at_.length) (p := p) (fun z => e1 (by rw [z])) 0).2
                  omega
      · rintro σ H3 Q1 Q2 hq ⟨v, e, v2, e2, hs, k, ek, q1⟩
        exact ⟨v, e, v2, e2, hs, k, ek, hq _ _ q1⟩
end
end Ca
namespace Ca
open PySem PySem.Spec PyProof.Rows L2
open Oc (C Axiom)
section
variable {P : Program} {w : World} {K : PySem.W.Frag} {mg : Str → Option Value} {base : Heap} {A : Ads}
theorem ints_lay : ∀ l : List Nat, PyData.canLayAll0 (l.map fun (n : Nat) => PyData.int (n : Int)) = true
  | [] => by simp [PyData.canLayAll0]
  | n :: l => by simp [PyData.canLayAll0, PyData.canLay0, ints_lay l]
theorem ints_depth : ∀ l : List Nat, PyData.depthAll (l.map fun (n : Nat) => PyData.int (n : Int)) = 0
  | [] => by simp [PyData.depthAll]
  | n :: l => by simp [PyData.depthAll, PyData.depth, ints_depth l]
theorem ints_shaped (l : List Nat) : SeqAt.shaped (.list (l.map fun (n : Nat) => PyData.int (n : Int))) = true := by
  show (PyData.canLay0 (.list _) && decide (PyData.depth (.list _) ≤ 64)) = true
  rw [Bool.and_eq_true]
  refine ⟨by simp only [PyData.canLay0]; exact ints_lay l, decide_eq_true ?_⟩
  simp only [PyData.depth]
  rw [ints_depth]
  omega
theorem ints_dp {H : Hp} : ∀ l : List Nat, DpAll K H (nV l) (l.map fun (n : Nat) => PyData.int (n : Int))
  | [] => .nil
  | _ :: l => .cons (.int _) (ints_dp l)
theorem eqv_nil (ds : List PyData) : PyData.eqv (.list ds) (.list []) = ds.isEmpty := by
  cases ds <;> simp only [PyData.eqv, PyData.eqvAll] <;> rfl
/-- a kind, or None -/
def optV : Option Nat → V
  | none => .non
  | some n => .int (n : Int)
/-- first_of -/
def spFirstOf (K : PySem.W.Frag) (A : Ads) : Sp := fun vs H Q _ => ∃ (a : Addr) (at_ : List C) (o : KO) (axs : List Axiom) (p q : Nat → Bool), vs = [.ref a, .int ((mk (2 ^ at_.length) q : Nat) : Int)] ∧ KH K A H a at_ o ∧ at_.length ≤ 6 ∧ o.r = r5 o.lh (mk (2 ^ at_.length) p) ∧ Poss at_ axs p ∧
  ∀ H', Same H H' → Q (optV ((Oc.types at_ axs).find? q)) H'
theorem kF_possible (la : Addr) (n : Nat) (lh : Addr) (m : Nat) : (kF la n (r5 lh m)).lookup ("possible" : Str) = some (.int (m : Int)) := by
  rw [kF_past la n _ (by decide +kernel) (by decide +kernel) (by decide +kernel)]
  exact (lk_past (by decide +kernel)).trans lk_here
theorem ok_first_of (T : Txt K mg A) : FnOk P w K mg base CX0 3 A.a_first_of A.d_first_of ["self", "some"] (spFirstOf K A) := by
  refine T.f_first_of.ok sc_first_of (fun vs H Q E h => ?_) (fun cdv A' outer s H vs Q E hr h => ?_)
  · obtain ⟨_, _, _, _, _, _, rfl, _⟩ := h
    rfl
  obtain ⟨a, at_, o, axs, p, q, rfl, hk, hlen, ho, hP, hq⟩ := h
  have hN := many_le hlen
  refine ⟨_, (pss_cons (ps_set (i := 2) sc_first_of.nd rfl (Or.inl rfl) (pe_call (ok_members T) (hr.mono (by omega)) (by rfl) T.g_members T.f_members.kp T.b_members .nil pass0 (by exact (pa_cons (pe_op op_and (pe_fld (pv 0) rfl) (pv 1)) pa_nil))))
    (pss_one (ps_ret (pe_ifExp (pt_cmpR (op_neD hr.units) (pv 2) (pe_lst pa_nil) (nomark _)) (pe_ix ix_list (pv 2) pe_int (fun _ _ => rfl)) pe_non)))), ?_⟩
  have hi := hk.kat.ins
  rw [ho] at hi
  refine ⟨_, rfl, a, _, _, _, _, rfl, hi, T.cl_Kinds, T.n_possible, kF_possible _ _ _ _, _, rfl, _, _, rfl, rfl, ?_⟩
  refine ⟨mk (2 ^ at_.length) (fun t => p t && q t), 2 ^ at_.length, ?_, mk_lt _ _, by omega, fun H1 l g1 hl h1 => ?_⟩
  · show [V.int (Builtin.bitAnd ((mk (2 ^ at_.length) p : Nat) : Int) ((mk (2 ^ at_.length) q : Nat) : Int))] = _
    rw [band_mk]
  rw [mk_members] at h1
  have fe := first_eq hP q
  generalize hL : (List.range (2 ^ at_.length)).filter (fun t => p t && q t) = L at h1 fe
  refine ⟨_, rfl, sz0, fun e he => ?_⟩
  have ge := Same.new he (.lst [])
  refine ⟨.list (L.map fun (n : Nat) => PyData.int (n : Int)), .list [], .lst (SqL.of (ge _ _ h1)) (ints_dp L), .lst (SqL.of upd_same) .nil, ints_shaped L, ints_shaped [], _, rfl, ?_⟩
  rw [eqv_nil]
  cases L with
  | nil =>
    refine if_false_of (by rfl) ?_
    have h := hq _ (g1.trans ge)
    rw [← fe] at h
    exact h
  | cons t r =>
    refine if_true_of (by rfl) ?_
    refine ⟨_, rfl, l, _, _, _, rfl, rfl, SqL.of (ge _ _ h1), atI_nat (j := 0) rfl, ?_⟩
    have h := hq _ (g1.trans ge)
    rw [← fe] at h
    exact h
/-! ### Kinds.__init__ -/
/-- all but the object at a stays -/
def SB (a : Addr) (H H' : Hp) : Prop := ∀ b u, H b = some u → b ≠ a → H' b = some u
theorem SB.of {a : Addr} {H H' : Hp} (e : Same H H') : SB a H H' := fun b u h _ => e b u h
theorem SB.trans {a : Addr} {H H1 H2 : Hp} (e : SB a H H1) (f : SB a H1 H2) : SB a H H2 := fun b u h n => f b u (e b u h n) n
theorem SB.upd (a : Addr) (H : Hp) (o : HO) : SB a H (upd H a o) := fun b u h n => by rw [upd_ne n]; exact h
theorem SB.at {a b : Addr} {H H' : Hp} {u : HO} (e : SB a H H') (h : H b = some u) (n : b ≠ a) : H' b = some u := e b u h n
theorem axc_mem {axs : List Axiom} {x : Axiom} (h : x ∈ axs) : x.1 ∈ axc axs ∧ x.2 ∈ axc axs := by
  unfold axc
  rw [List.mem_flatMap, List.mem_flatMap]
  exact ⟨⟨x, h, by simp⟩, ⟨x, h, by simp⟩⟩
def spInitKinds (K : PySem.W.Frag) (A : Ads) : Sp := fun vs H Q _ => ∃ (a dx l1 l2 : Addr) (ys zs : List V) (axs : List Axiom) (cs : List C), vs = [.ref a, .ref l1, .ref l2] ∧ H a = some (.ins A.C_Kinds dx []) ∧ SqL K H l1 ys ∧ AReps K H axs ys ∧ SqL K H l2 zs ∧ CReps K H cs zs ∧
  axs.length ≤ 6 ∧ cs.length ≤ 4 ∧ (∀ c ∈ axc axs ++ cs, Okc c) ∧ (Oc.atomsOf (axc axs ++ cs)).length ≤ 6 ∧
  ∀ H' o p, SB a H H' → TSame H H' → KH K A H' a (Oc.atomsOf (axc axs ++ cs)) o → o.r = r5 o.lh (mk (2 ^ (Oc.atomsOf (axc axs ++ cs)).length) p) → Poss (Oc.atomsOf (axc axs ++ cs)) axs p → Q .non H'
theorem SB.seq {a b : Addr} {H H' : Hp} {C dx : Addr} {fs : List (Str × V)} {ys : List V} (e : SB a H H') (ha : H a = some (.ins C dx fs)) (h : SqL K H b ys) : SqL K H' b ys := by
  rcases h with (h | ⟨o, h⟩) | h
  · exact .inl (.inl (e _ _ h (ne_of h ha (by intro z; cases z))))
  · exact .inl (.inr ⟨o, e _ _ h (ne_of h ha (by intro z; cases z))⟩)
  · exact .inr h
theorem ok_initKinds (T : Txt K mg A) : FnOk P w K mg base CX0 57 A.a_initKinds A.d_initKinds ["self", "axioms", "concepts"] (spInitKinds K A) := by
  refine T.f_initKinds.ok sc_initKinds (fun vs H Q E h => ?_) (fun cdv A' outer s H vs Q E hr h => ?_)
  · obtain ⟨_, _, _, _, _, _, _, _, rfl, _⟩ := h
    rfl
  obtain ⟨a, dx, l1, l2, ys, zs, axs, cs, rfl, ha, hS1, hA, hS2, hC, hax, hcs, hok, hlen, q⟩ := h
  refine ⟨_, (pss_cons (ps_fld (pv 0) (pe_call (ok_atoms_of T) (hr.mono (by omega)) (by rfl) T.g_atoms_of T.f_atoms_of.kp T.b_atoms_of .nil pass0 (by exact (pa_cons (pe_op op_cat (pe_call (ok_concepts_of T) (hr.mono (by omega)) (by rfl) T.g_concepts_of T.f_concepts_of.kp T.b_concepts_of .nil pass0 (by exact (pa_cons (pv 1) pa_nil))) (pe_callTy call_list_of (by rfl) T.z_list (by decide +kernel) (pa_cons (pv 2) pa_nil))) pa_nil))) rfl)
    (pss_cons (ps_fld (pv 0) (pe_op op_shl pe_int (pe_callB call_len_seq (by rfl) T.z_len PySem.boot_len (pa_cons (pe_fld (pv 0) rfl) pa_nil))) rfl)
    (pss_cons (ps_fld (pv 0) (pe_op op_sub (pe_op op_shl pe_int (pe_fld (pv 0) rfl)) pe_int) rfl)
    (pss_cons (ps_fld (pv 0) (pe_lc (own := [("k", 3)]) (g := gName 3) (tt := tYes) rfl sc_initKinds.nd (pi_range1 (by rfl) T.z_range (pa_cons (pe_callB call_len_seq (by rfl) T.z_len PySem.boot_len (pa_cons (pe_fld (pv 0) rfl) pa_nil)) pa_nil)) (blkOk_by (own := [("k", 3)]) (N := N_initKinds) (sc := (defScope s_initKinds)) (by decide +kernel)) (fun _ _ _ _ _ => pg_name (i := 3) sc_initKinds.nd rfl (Or.inl rfl)) (fun _ _ _ _ _ => by exact pts_nil) (fun _ _ _ _ _ => by exact (pe_meth (pv 0) T.cl_Kinds T.m_set_by_bit (ok_set_by_bit T) (hr.mono (by omega)) T.b_set_by_bit .nil pass0 (by exact (pa_cons (pv 3) pa_nil))))) rfl)
    (pss_one (ps_fld (pv 0) (pe_meth (pv 0) T.cl_Kinds T.m_possible_by (ok_possible_by T) (hr.mono (by omega)) T.b_possible_by .nil pass0 (by exact (pa_cons (pv 1) pa_nil))) rfl)))))), ?_⟩
  -- the atoms
  refine ⟨_, rfl, l1, ys, axs, rfl, hS1, hA, by omega, fun H1 f1 vs1 g1 hf1 h1 hc1 => ?_⟩
  refine ⟨_, rfl, l2, zs, rfl, .inl (g1.seq hS2), fun f2 hf2 => ?_⟩
  have g2 := Same.new hf2 (.lst zs)
  have n12 : f1 ≠ f2 := ne_of_none h1 hf2
  have lc1 := hc1.length
  have lc2 := hC.length
  rw [axc_len] at lc1
  refine ⟨f1, f2, vs1, zs, rfl, rfl, g2 _ _ h1, upd_same, small (by omega), fun f3 hf3 => ?_⟩
  have g3 := Same.new hf3 (.lst (vs1 ++ zs))
  have g13 := g1.trans (g2.trans g3)
  refine ⟨f3, vs1 ++ zs, axc axs ++ cs, rfl, SqL.of upd_same, (hc1.mono (g2.trans g3)).append (hC.mono g13), hok, by rw [List.length_append, axc_len]; omega, fun H4 la xs g4 hla h4 hx4 => ?_⟩
  have ga4 := g13.trans g4
  have hw := wfat_of hok hlen
  generalize hat : Oc.atomsOf (axc axs ++ cs) = at_ at hx4 hlen hw q
  have ha4 := ga4 _ _ ha
  refine ⟨_, rfl, a, _, _, _, rfl, ha4, T.cl_Kinds, T.n_atoms, by show 0 < 1000; decide, ?_⟩
  have nla : la ≠ a := ne_of h4 ha4 (by intro z; cases z)
  have e5 : putF ("atoms" : Str) (V.ref la) ([] : List (Str × V)) = [(("atoms" : Str), V.ref la)] := rfl
  rw [e5]
  have h5a : (upd H4 a (.ins A.C_Kinds dx [(("atoms" : Str), V.ref la)])) a = some (.ins A.C_Kinds dx [(("atoms" : Str), V.ref la)]) := upd_same
  have h5l : (upd H4 a (.ins A.C_Kinds dx [(("atoms" : Str), V.ref la)])) la = some (.lst xs) := by rw [upd_ne nla]; exact h4
  have t5 : TSame H4 (upd H4 a (.ins A.C_Kinds dx [(("atoms" : Str), V.ref la)])) := TSame.ins ha4 _
  have s5 : SB a H (upd H4 a (.ins A.C_Kinds dx [(("atoms" : Str), V.ref la)])) := (SB.of ga4).trans (SB.upd a _ _)
  have tt5 := ga4.t.trans t5
  have hx5 := hx4.tmono t5
  generalize upd H4 a (.ins A.C_Kinds dx [(("atoms" : Str), V.ref la)]) = H5 at h5a h5l t5 s5 tt5 hx5 ⊢
  have hxl := hx5.length
  -- how many kinds
  refine ⟨_, rfl, a, _, _, _, _, rfl, h5a, T.cl_Kinds, T.n_atoms, lk_here, la, xs, rfl, .inl (SqL.of h5l), 1, (xs.length : Int), rfl, rfl, ⟨by omega, by omega, by decide⟩, ?_⟩
  refine ⟨_, rfl, a, _, _, _, rfl, h5a, T.cl_Kinds, T.n_many, by show 1 < 1000; decide, ?_⟩
  have e6 : putF ("many" : Str) (V.int ((1 : Int) * 2 ^ ((xs.length : Nat) : Int).toNat)) [(("atoms" : Str), V.ref la)] = [(("atoms" : Str), V.ref la), (("many" : Str), V.int ((2 ^ at_.length : Nat) : Int))] := by
    rw [put_past (by decide +kernel), Int.toNat_natCast, Int.one_mul, hxl]
    show [_, (("many" : Str), V.int ((2 : Int) ^ at_.length))] = _
    rw [show ((2 : Int) ^ at_.length) = ((2 ^ at_.length : Nat) : Int) by simp]
  show tSeq _ _ _ _ (upd H5 a (.ins A.C_Kinds dx (putF ("many" : Str) (V.int ((1 : Int) * 2 ^ ((xs.length : Nat) : Int).toNat)) [(("atoms" : Str), V.ref la)])))
  rw [e6]
  have h6a : (upd H5 a (.ins A.C_Kinds dx [(("atoms" : Str), V.ref la), (("many" : Str), V.int ((2 ^ at_.length : Nat) : Int))])) a = some (.ins A.C_Kinds dx [(("atoms" : Str), V.ref la), (("many" : Str), V.int ((2 ^ at_.length : Nat) : Int))]) := upd_same
  have h6l : (upd H5 a (.ins A.C_Kinds dx [(("atoms" : Str), V.ref la), (("many" : Str), V.int ((2 ^ at_.length : Nat) : Int))])) la = some (.lst xs) := by rw [upd_ne nla]; exact h5l
  have t6 : TSame H5 (upd H5 a (.ins A.C_Kinds dx [(("atoms" : Str), V.ref la), (("many" : Str), V.int ((2 ^ at_.length : Nat) : Int))])) := TSame.ins h5a _
  have s6 := s5.trans (SB.upd a H5 (.ins A.C_Kinds dx [(("atoms" : Str), V.ref la), (("many" : Str), V.int ((2 ^ at_.length : Nat) : Int))]))
  have tt6 := tt5.trans t6
  have hx6 := hx5.tmono t6
  generalize upd H5 a (.ins A.C_Kinds dx [(("atoms" : Str), V.ref la), (("many" : Str), V.int ((2 ^ at_.length : Nat) : Int))]) = H6 at h6a h6l t6 s6 tt6 hx6 ⊢
  have hN := many_le hw.len
  -- the set of all kinds
  refine ⟨_, rfl, a, _, _, _, _, rfl, h6a, T.cl_Kinds, T.n_many, (lk_past (by decide +kernel)).trans lk_here, 1, ((2 ^ at_.length : Nat) : Int), rfl, rfl, ⟨Int.natCast_nonneg _, by omega, by decide⟩, _, 1, rfl, rfl, ?_⟩
  refine ⟨_, rfl, a, _, _, _, rfl, h6a, T.cl_Kinds, T.n_whole, by show 2 < 1000; decide, ?_⟩
  have e7 : putF ("whole" : Str) (V.int ((1 : Int) * 2 ^ ((2 ^ at_.length : Nat) : Int).toNat - 1)) [(("atoms" : Str), V.ref la), (("many" : Str), V.int ((2 ^ at_.length : Nat) : Int))] = kF la at_.length [] := by
    rw [put_past (by decide +kernel), put_past (by decide +kernel), Int.toNat_natCast, Int.one_mul]
    unfold kF wN
    rw [mk_true]
    show [_, _, (("whole" : Str), V.int ((2 : Int) ^ (2 ^ at_.length) - 1))] = _
    have hp : 0 < 2 ^ (2 ^ at_.length) := Nat.pow_pos (by decide)
    rw [show ((2 : Int) ^ (2 ^ at_.length) - 1) = ((2 ^ (2 ^ at_.length) - 1 : Nat) : Int) by rw [Int.ofNat_sub hp]; simp]
  show tSeq _ _ _ _ (upd H6 a (.ins A.C_Kinds dx (putF ("whole" : Str) (V.int ((1 : Int) * 2 ^ ((2 ^ at_.length : Nat) : Int).toNat - 1)) [(("atoms" : Str), V.ref la), (("many" : Str), V.int ((2 ^ at_.length : Nat) : Int))])))
  rw [e7]
  have t7 : TSame H6 (upd H6 a (.ins A.C_Kinds dx (kF la at_.length []))) := TSame.ins h6a _
  have k7 : KAt K A (upd H6 a (.ins A.C_Kinds dx (kF la at_.length []))) a at_ [] dx la xs := ⟨upd_same, by rw [upd_ne nla]; exact h6l, hx6.tmono t7, .inl rfl⟩
  have s7 := s6.trans (SB.upd a H6 (.ins A.C_Kinds dx (kF la at_.length [])))
  have tt7 := tt6.trans t7
  generalize upd H6 a (.ins A.C_Kinds dx (kF la at_.length [])) = H7 at t7 k7 s7 tt7 ⊢
  -- the atoms' sets
  refine ⟨_, rfl, a, _, _, _, _, rfl, k7.ins, T.cl_Kinds, T.n_atoms, kF_atoms _ _ _, la, xs, rfl, .inl (SqL.of k7.lst), _, rfl, rlo _, rhi (by have := hw.len; omega), fun D hD => ?_⟩
  refine lc_range (lo := 0) (n := ((xs.length : Nat) : Int).toNat) (fun i H8 => Same H7 H8 ∧ H8 D = some (.lst ((List.range i).map fun k => V.int ((mk (2 ^ at_.length) (fun t => Oc.bit t k) : Nat) : Int)))) ⟨Same.new hD _, upd_same⟩ ?_ ?_
  · rintro i H8 hi ⟨g8, h8⟩
    have k8 := k7.mono g8
    refine ⟨rfl, _, rfl, a, _, _, rfl, k8.ins, kF_none k8.stg (by decide +kernel) (by decide +kernel) (by decide +kernel) (by decide +kernel) (by decide +kernel), _, rfl, a, i, at_, _, _, _, _, by rw [Int.zero_add]; rfl, k8, hw.len, fun H9 g9 => ?_⟩
    refine ⟨_, g9 _ _ h8, ?_, (g8.trans g9).put hD _, ?_⟩
    · rw [List.length_map, List.length_range]
      have := hw.len
      exact smallT (by omega)
    · rw [upd_same, List.range_succ, List.map_append]
      rfl
  rintro H8 ⟨g8, h8⟩
  rw [Int.toNat_natCast, hxl] at h8
  have k8 := k7.mono g8
  refine ⟨_, rfl, a, _, _, _, rfl, k8.ins, T.cl_Kinds, T.n_holding, by show 3 < 1000; decide, ?_⟩
  have e9 : putF ("holding" : Str) (V.ref D) (kF la at_.length []) = kF la at_.length (r4 D) := by
    unfold kF r4
    rw [put_past (by decide +kernel), put_past (by decide +kernel), put_past (by decide +kernel)]
    rfl
  rw [e9]
  have nD : D ≠ a := ne_of h8 k8.ins (by intro z; cases z)
  have t9 : TSame H8 (upd H8 a (.ins A.C_Kinds dx (kF la at_.length (r4 D)))) := TSame.ins k8.ins _
  have k9 : KH K A (upd H8 a (.ins A.C_Kinds dx (kF la at_.length (r4 D)))) a at_ ⟨r4 D, dx, la, xs, D⟩ := ⟨⟨upd_same, by rw [upd_ne nla]; exact k8.lst, k8.rep.tmono t9, .inr (.inl ⟨D, rfl⟩)⟩, by rw [upd_ne nD]; exact h8, .inl rfl⟩
  have s9 := (s7.trans (SB.of g8)).trans (SB.upd a H8 (.ins A.C_Kinds dx (kF la at_.length (r4 D))))
  have tt9 := (tt7.trans g8.t).trans t9
  generalize upd H8 a (.ins A.C_Kinds dx (kF la at_.length (r4 D))) = H9 at t9 k9 s9 tt9 ⊢
  -- the possible kinds
  refine ⟨_, rfl, a, _, _, rfl, k9.kat.ins, KH.no k9 (by decide +kernel) (by decide +kernel) (by decide +kernel) (by decide +kernel) (by decide +kernel), _, rfl, a, l1, ys, axs, at_, _, rfl, k9, hw, s9.seq ha hS1, hA.tmono tt9, fun x hx => ?_, fun H10 p g10 hP => ?_⟩
  · have hm := axc_mem hx
    have o1 := hok x.1 (List.mem_append_left _ hm.1)
    have o2 := hok x.2 (List.mem_append_left _ hm.2)
    refine ⟨Nat.le_trans o1.dep (by decide), Nat.le_trans o2.dep (by decide), fun y hy => ?_, fun y hy => ?_⟩
    · rw [← hat, atomsOf_mem]
      exact ⟨x.1, List.mem_append_left _ hm.1, hy⟩
    · rw [← hat, atomsOf_mem]
      exact ⟨x.2, List.mem_append_left _ hm.2, hy⟩
  have k10 := KHold.mono k9 g10
  refine ⟨_, rfl, a, _, _, _, rfl, k10.kat.ins, T.cl_Kinds, T.n_possible, by show 4 < 1000; decide, ?_⟩
  have e11 : putF ("possible" : Str) (V.int ((mk (2 ^ at_.length) p : Nat) : Int)) (kF la at_.length (r4 D)) = kF la at_.length (r5 D (mk (2 ^ at_.length) p)) := by
    unfold kF r4 r5
    rw [put_past (by decide +kernel), put_past (by decide +kernel), put_past (by decide +kernel), put_past (by decide +kernel)]
    rfl
  show Q .non (upd H10 a (.ins A.C_Kinds dx (putF ("possible" : Str) (V.int ((mk (2 ^ at_.length) p : Nat) : Int)) (kF la at_.length (r4 D)))))
  rw [e11]
  have t11 : TSame H10 (upd H10 a (.ins A.C_Kinds dx (kF la at_.length (r5 D (mk (2 ^ at_.length) p))))) := TSame.ins k10.kat.ins _
  refine q _ ⟨r5 D (mk (2 ^ at_.length) p), dx, la, xs, D⟩ p ((s9.trans (SB.of g10)).trans (SB.upd a H10 _)) ((tt9.trans g10.t).trans t11) ?_ rfl hP
  exact ⟨⟨upd_same, by rw [upd_ne nla]; exact k10.kat.lst, k10.kat.rep.tmono t11, .inr (.inr ⟨D, _, rfl⟩)⟩, by rw [upd_ne nD]; exact k10.hold, .inr ⟨_, rfl⟩⟩
end
end Ca
namespace Ca
open PySem PySem.Spec PyProof.Rows L2
open Oc (C Axiom)
section
variable {P : Program} {w : World} {K : PySem.W.Frag} {mg : Str → Option Value} {base : Heap} {A : Ads}
/-! ### a Kinds object is made -/
structure PreK (axs : List Axiom) (cs : List C) : Prop where
  nax : axs.length ≤ 6
  ncs : cs.length ≤ 4
  ok : ∀ c ∈ axc axs ++ cs, Okc c
  len : (Oc.atomsFor axs cs).length ≤ 6
theorem PreK.wf {axs : List Axiom} {cs : List C} (h : PreK axs cs) : WFat (Oc.atomsFor axs cs) := wfat_of h.ok h.len
theorem PreK.in {axs : List Axiom} {cs : List C} {c : C} (h : PreK axs cs) (hc : c ∈ cs) : dep c ≤ 50 ∧ ∀ x ∈ c.atoms, x ∈ Oc.atomsFor axs cs := by
  have hm : c ∈ axc axs ++ cs := List.mem_append_right _ hc
  exact ⟨Nat.le_trans (h.ok c hm).dep (by decide), fun x hx => atomsOf_mem.mpr ⟨c, hm, hx⟩⟩
/-- at x: the Kinds object of these axioms and concepts -/
structure KP (K : PySem.W.Frag) (A : Ads) (H : Hp) (x : Addr) (axs : List Axiom) (cs : List C) (o : KO) (p : Nat → Bool) : Prop where
  kh : KH K A H x (Oc.atomsFor axs cs) o
  r : o.r = r5 o.lh (mk (2 ^ (Oc.atomsFor axs cs).length) p)
  poss : Poss (Oc.atomsFor axs cs) axs p
theorem KP.mono {H H' : Hp} {x : Addr} {axs : List Axiom} {cs : List C} {o : KO} {p : Nat → Bool} (h : KP K A H x axs cs o p) (e : Same H H') : KP K A H' x axs cs o p := ⟨KHold.mono h.kh e, h.r, h.poss⟩
theorem KP.tmono {H H' : Hp} {x : Addr} {axs : List Axiom} {cs : List C} {o : KO} {p : Nat → Bool} (h : KP K A H x axs cs o p) (e : Same H H') : KP K A H' x axs cs o p := ⟨KHold.mono h.kh e, h.r, h.poss⟩
theorem mk_kinds {H1 : Hp} {Q : VK} {E : XK} {l1 l2 : Addr} {ys zs : List V} {axs : List Axiom} {cs : List C} (hS1 : SqL K H1 l1 ys) (hA : AReps K H1 axs ys) (hS2 : SqL K H1 l2 zs) (hC : CReps K H1 cs zs) (pre : PreK axs cs)
    (q : ∀ H2 x o p, Same H1 H2 → H1 x = none → KP K A H2 x axs cs o p → Q (.ref x) H2) :
    ∀ x dx, H1 x = none → H1 dx = none → dx ≠ x → spInitKinds K A [.ref x, .ref l1, .ref l2] (upd (upd H1 dx (.own x)) x (.ins A.C_Kinds dx [])) (fun v H2 => v = .non ∧ Q (.ref x) H2) E := by
  intro x dx hx hdx hne
  have hx' : upd H1 dx (.own x) x = none := by rw [upd_ne hne.symm]; exact hx
  have g1 : Same H1 (upd (upd H1 dx (.own x)) x (.ins A.C_Kinds dx [])) := (Same.new hdx _).trans (Same.new hx' _)
  refine ⟨x, dx, l1, l2, ys, zs, axs, cs, rfl, upd_same, g1.seq hS1, hA.mono g1, g1.seq hS2, hC.mono g1, pre.nax, pre.ncs, pre.ok, pre.len, fun H2 o p s2 t2 k2 r2 hP => ⟨rfl, ?_⟩⟩
  refine q H2 x o p (fun b u hb => ?_) hx ⟨k2, r2, hP⟩
  exact s2 b u (g1 b u hb) (ne_of_none hb hx)
/-- the first statement of two defs: a Kinds object over the axioms and one concept, both in the first two slots -/
theorem r_kinds1 {σ : L2.St} {H : Hp} {u : TS} {D : Ends} {l1 : Addr} {v : V} {ys : List V} {axs : List Axiom} {c : C} (h0 : σ[0]? = some (some (.ref l1))) (h1 : σ[1]? = some (some v)) (hS1 : SqL K H l1 ys) (hA : AReps K H axs ys) (hc : CRep K H c v) (pre : PreK axs [c])
    (q : ∀ H2 x o p, Same H H2 → KP K A H2 x axs [c] o p → u D (σ.set 2 (some (.ref x))) H2) : tSeq (tAsg (tMake A.C_Kinds (spInitKinds K A) [] E0 (tCons (tVar 0) (tCons (tLst (tCons (tVar 1) tNil)) tNil))) (gName 2)) u D σ H := by
  refine ⟨_, h0, _, h1, sz1, fun l hl => ?_⟩
  have g1 := Same.new hl (.lst [v])
  exact mk_kinds (Q := fun x H2 => u D (σ.set 2 (some x)) H2) (g1.seq hS1) (hA.mono g1) (SqL.of upd_same) (CReps.one (hc.mono g1)) pre fun H2 x o p g2 _ kp => q H2 x o p (g1.trans g2) kp
/-- the same over the axioms alone -/
theorem r_kinds0 {σ : L2.St} {H : Hp} {u : TS} {D : Ends} {l1 : Addr} {ys : List V} {axs : List Axiom} (h0 : σ[0]? = some (some (.ref l1))) (hS1 : SqL K H l1 ys) (hA : AReps K H axs ys) (pre : PreK axs [])
    (q : ∀ H2 x o p, Same H H2 → KP K A H2 x axs [] o p → u D (σ.set 2 (some (.ref x))) H2) : tSeq (tAsg (tMake A.C_Kinds (spInitKinds K A) [] E0 (tCons (tVar 0) (tCons (tLst tNil) tNil))) (gName 2)) u D σ H := by
  refine ⟨_, h0, sz0, fun l hl => ?_⟩
  have g1 := Same.new hl (.lst [])
  exact mk_kinds (Q := fun x H2 => u D (σ.set 2 (some x)) H2) (g1.seq hS1) (hA.mono g1) (SqL.of upd_same) (cs := []) trivial pre fun H2 x o p g2 _ kp => q H2 x o p (g1.trans g2) kp
theorem kh_find (h : Option Nat) : (!decide (optV h = V.non)) = h.isSome := by
  cases h with
  | none => rfl
  | some n => rfl
/-! ### is_possible, is_subsumed -/
def spIsPossible (K : PySem.W.Frag) : Sp := fun vs H Q _ => ∃ (l1 : Addr) (v : V) (ys : List V) (axs : List Axiom) (c : C), vs = [.ref l1, v] ∧ SqL K H l1 ys ∧ AReps K H axs ys ∧ CRep K H c v ∧ PreK axs [c] ∧
  ∀ H', Same H H' → Q (.bl (Oc.can axs c)) H'
theorem ok_is_possible (T : Txt K mg A) : FnOk P w K mg base CX0 60 A.a_is_possible A.d_is_possible ["axioms", "concept"] (spIsPossible K) := by
  refine T.f_is_possible.ok sc_is_possible (fun vs H Q E h => ?_) (fun cdv A' outer s H vs Q E hr h => ?_)
  · obtain ⟨_, _, _, _, _, rfl, _⟩ := h
    rfl
  obtain ⟨l1, v, ys, axs, c, rfl, hS, hA, hc, pre, q⟩ := h
  refine ⟨_, (pss_cons (ps_set (i := 2) sc_is_possible.nd rfl (Or.inl rfl) (pe_make T.mk_Kinds (ok_initKinds T) (hr.mono (by omega)) (by rfl) T.g_Kinds T.b_initKinds .nil pass0 (by exact (pa_cons (pv 0) (pa_cons (pe_lst (pa_cons (pv 1) pa_nil)) pa_nil)))))
    (pss_one (ps_ret (pe_cmpR op_notN (pe_meth (pv 2) T.cl_Kinds T.m_first_of (ok_first_of T) (hr.mono (by omega)) T.b_first_of .nil pass0 (by exact (pa_cons (pe_meth (pv 2) T.cl_Kinds T.m_set_of (okr_set_of T) (hr.mono (by omega)) T.b_set_of .nil pass0 (by exact (pa_cons (pv 1) pa_nil))) pa_nil))) pe_non (nomark _))))), ?_⟩
  refine r_kinds1 (K := K) (A := A) (by rfl) (by rfl) hS hA hc pre fun H2 x o p g2 kp => ?_
  have hin := pre.in (c := c) (by simp)
  refine ⟨_, rfl, x, _, _, rfl, kp.kh.kat.ins, KH.no kp.kh (by decide +kernel) (by decide +kernel) (by decide +kernel) (by decide +kernel) (by decide +kernel), _, rfl, x, _, _, rfl, kp.kh.kat.ins, KH.no kp.kh (by decide +kernel) (by decide +kernel) (by decide +kernel) (by decide +kernel) (by decide +kernel), _, rfl, ?_⟩
  refine ⟨x, v, c, _, o.r, o.dx, o.la, o.xs, o.lh, rfl, kp.kh, hc.mono g2, hin.1, hin.2, pre.wf, fun H3 g3 => ?_⟩
  refine ⟨x, _, o, axs, p, _, rfl, KHold.mono kp.kh g3, pre.len, kp.r, kp.poss, fun H4 g4 => ?_⟩
  refine ⟨rfl, ?_⟩
  rw [kh_find, find_any]
  exact q _ (g2.trans (g3.trans g4))
def spFirstAlone (K : PySem.W.Frag) : Sp := fun vs H Q _ => ∃ (v u : V) (c d : C), vs = [v, u] ∧ CRep K H c v ∧ CRep K H d u ∧ ∀ H' z, Same H H' → CRep K H' (.and c (.not d)) z → Q z H'
theorem ok_first_alone (T : Txt K mg A) : FnOk P w K mg base CX0 1 A.a_first_alone A.d_first_alone ["first", "second"] (spFirstAlone K) := by
  refine T.f_first_alone.ok sc_first_alone (fun vs H Q E h => ?_) (fun cdv A' outer s H vs Q E hr h => ?_)
  · obtain ⟨_, _, _, _, rfl, _⟩ := h
    rfl
  obtain ⟨v, u, c, d, rfl, hc, hd, q⟩ := h
  refine ⟨_, (pss_one (ps_ret (pe_tup (pa_cons (pe_glob (v := .int (3)) rfl T.g_BOTH ⟨_, rfl⟩) (pa_cons (pv 0) (pa_cons (pe_tup (pa_cons (pe_glob (v := .int (5)) rfl T.g_NOT ⟨_, rfl⟩) (pa_cons (pv 1) pa_nil))) pa_nil)))))), ?_⟩
  refine ⟨_, rfl, _, rfl, sz2, fun p1 hp1 => ⟨sz3, fun p2 hp2 => ?_⟩⟩
  have g1 := Same.new hp1 (.tup [.int 5, u])
  have g2 := Same.new hp2 (.tup [.int 3, v, .ref p1])
  exact q _ _ (g1.trans g2) ⟨p2, v, .ref p1, rfl, SqT.of upd_same, hc.mono (g1.trans g2), p1, u, rfl, g2.seqT (SqT.of upd_same), hd.mono (g1.trans g2)⟩
theorem pre_alone {axs : List Axiom} {c d : C} (h : PreK axs [c, d]) (h1 : dep c ≤ 30) (h2 : dep d ≤ 30) (h3 : c.atoms.length ≤ 30) (h4 : d.atoms.length ≤ 30) : PreK axs [.and c (.not d)] ∧ Oc.atomsFor axs [.and c (.not d)] = Oc.atomsFor axs [c, d] := by
  have e : Oc.atomsFor axs [.and c (.not d)] = Oc.atomsFor axs [c, d] := by
    unfold Oc.atomsFor Oc.atomsOf
    congr 1
    rw [List.flatMap_append, List.flatMap_append]
    simp [C.atoms]
  refine ⟨⟨h.nax, by simp, fun x hx => ?_, by rw [e]; exact h.len⟩, e⟩
  rw [List.mem_append, List.mem_singleton] at hx
  rcases hx with hx | rfl
  · exact h.ok x (List.mem_append_left _ hx)
  · have oc := h.ok c (by simp)
    have od := h.ok d (by simp)
    exact ⟨by simp only [dep]; omega, ⟨oc.okn, od.okn⟩, by simp only [C.atoms, List.length_append]; omega⟩
def spIsSubsumed (K : PySem.W.Frag) : Sp := fun vs H Q _ => ∃ (l1 : Addr) (v u : V) (ys : List V) (axs : List Axiom) (c d : C), vs = [.ref l1, v, u] ∧ SqL K H l1 ys ∧ AReps K H axs ys ∧ CRep K H c v ∧ CRep K H d u ∧ PreK axs [.and c (.not d)] ∧
  ∀ H', Same H H' → Q (.bl (Oc.under axs c d)) H'
theorem ok_is_subsumed (T : Txt K mg A) : FnOk P w K mg base CX0 61 A.a_is_subsumed A.d_is_subsumed ["axioms", "first", "second"] (spIsSubsumed K) := by
  refine T.f_is_subsumed.ok sc_is_subsumed (fun vs H Q E h => ?_) (fun cdv A' outer s H vs Q E hr h => ?_)
  · obtain ⟨_, _, _, _, _, _, _, rfl, _⟩ := h
    rfl
  obtain ⟨l1, v, u, ys, axs, c, d, rfl, hS, hA, hc, hd, pre, q⟩ := h
  refine ⟨_, (pss_one (ps_ret (pe_not (pe_call (ok_is_possible T) (hr.mono (by omega)) (by rfl) T.g_is_possible T.f_is_possible.kp T.b_is_possible .nil pass0 (by exact (pa_cons (pv 0) (pa_cons (pe_call (ok_first_alone T) (hr.mono (by omega)) (by rfl) T.g_first_alone T.f_first_alone.kp T.b_first_alone .nil pass0 (by exact (pa_cons (pv 1) (pa_cons (pv 2) pa_nil)))) pa_nil))))))), ?_⟩
  refine ⟨_, rfl, _, rfl, _, rfl, v, u, c, d, rfl, hc, hd, fun H1 z g1 hz => ?_⟩
  exact ⟨l1, z, ys, axs, _, rfl, g1.seq hS, hA.mono g1, hz, pre, fun H2 g2 => ⟨_, rfl, q _ (g1.trans g2)⟩⟩
/-! ### names -/
def spNamesNumber (K : PySem.W.Frag) (A : Ads) : Sp := fun vs H Q _ => ∃ (a : Addr) (t : Nat) (at_ : List C) (o : KO), vs = [.ref a, .int (t : Int)] ∧ KH K A H a at_ o ∧ WFat at_ ∧ ∀ H', Same H H' → Q (.int ((Oc01.namesOf at_ t : Nat) : Int)) H'
theorem ok_names_number (T : Txt K mg A) : FnOk P w K mg base CX0 2 A.a_names_number A.d_names_number ["kinds", "kind"] (spNamesNumber K A) := by
  refine T.f_names_number.ok sc_names_number (fun vs H Q E h => ?_) (fun cdv A' outer s H vs Q E hr h => ?_)
  · obtain ⟨_, _, _, _, rfl, _⟩ := h
    rfl
  obtain ⟨a, t, at_, o, rfl, hk, w, q⟩ := h
  refine ⟨_, (pss_cons (ps_set (i := 2) sc_names_number.nd rfl (Or.inl rfl) pe_int)
    (pss_cons (ps_for PassesOwn.never rfl (pi_enum (by rfl) T.z_enumerate (pa_cons (pe_fld (pv 0) rfl) pa_nil)) (pg_tup rfl (pgs_cons (pg_name (i := 3) sc_names_number.nd rfl (Or.inl rfl)) (pgs_cons (pg_name (i := 4) sc_names_number.nd rfl (Or.inl rfl)) pgs_nil))) (pss_one (ps_if (PW.pt (pw_and (pt_cmpR op_eq (pe_ix ix_tup (pv 4) pe_int (fun _ _ => rfl)) (pe_glob (v := .int (2)) rfl T.g_NAME ⟨_, rfl⟩) (nomark _)) (pw_and1 (pt_val (pe_call (ok_has_bit T) (hr.mono (by omega)) (by rfl) T.g_has_bit T.f_has_bit.kp T.b_has_bit .nil pass0 (by exact (pa_cons (pv 1) (pa_cons (pv 3) pa_nil)))))))) (pss_one (ps_aug (i := 2) sc_names_number.nd rfl (Or.inl rfl) (pe_op op_shl pe_int (pe_ix ix_tup (pv 4) pe_int (fun _ _ => rfl))) ip_add)) pss_nil)))
    (pss_one (ps_ret (pv 2))))), ?_⟩
  refine ⟨_, rfl, a, _, _, _, _, rfl, hk.kat.ins, T.cl_Kinds, T.n_atoms, kF_atoms _ _ _, o.la, o.xs, rfl, SqL.of hk.kat.lst, ?_⟩
  have hxl := hk.kat.rep.length
  refine for_it (walk_enum (K := K) (a := o.la) (xs := o.xs)) (fun i σ H1 => ∃ x3 x4, Same H H1 ∧ σ = [some (.ref a), some (.int (t : Int)), some (.int ((((at_.take i).map (nameW at_ t)).sum : Nat) : Int)), x3, x4]) ?_ ?_ ?_ ?_
  · exact ⟨none, none, Same.refl _, rfl⟩
  · rintro i σ H1 _ ⟨_, _, g1, _⟩
    exact SqL.of (KHold.mono hk g1).kat.lst
  · rintro i v σ H1 H2 hi ⟨x3, x4, g1, rfl⟩ ⟨T0, y0, y, rfl, hT, rfl, e0, e1⟩
    cases e0
    have gT : Same H1 (upd H1 T0 (.tup [.int (i : Int), y])) := Same.new hT _
    obtain ⟨x, hx, hy⟩ := hk.kat.rep.get e1
    have hxm := List.mem_of_getElem? hx
    have g2 := g1.trans gT
    have hy2 := hy.mono g2
    have step : ((at_.take (i + 1)).map (nameW at_ t)).sum = ((at_.take i).map (nameW at_ t)).sum + nameW at_ t x := by
      rw [take_snoc hx, List.map_append, List.sum_append_nat]
      simp
    have hh : Oc.holds at_ t x = Oc.bit t i := holds_at w.nodup hx (w.atom x hxm)
    refine ⟨T0, _, rfl, SqT.of upd_same, rfl, _, _, rfl, _, _, rfl, rfl, ?_⟩
    refine r_word rfl hy2 ⟨rfl, _, rfl, ?_⟩
    have stay : nameW at_ t x = 0 → ∃ x3 x4, Same H (upd H1 T0 (.tup [.int (i : Int), y])) ∧ [some (V.ref a), some (.int (t : Int)), some (.int ((((at_.take i).map (nameW at_ t)).sum : Nat) : Int)), some (.int (i : Int)), some y] = [some (V.ref a), some (.int (t : Int)), some (.int ((((at_.take (i + 1)).map (nameW at_ t)).sum : Nat) : Int)), x3, x4] := fun h =>
      ⟨_, _, g2, by rw [step, h]; rfl⟩
    cases x with
    | name n0 =>
      refine if_true_of (by rfl) ?_
      refine ⟨_, rfl, _, rfl, t, i, rfl, _, rfl, ?_⟩
      cases hb : Oc.bit t i with
      | false =>
        refine if_false_of rfl ?_
        refine stay ?_
        show (if Oc.holds at_ t (.name n0) = true then 2 ^ n0 else 0) = 0
        rw [hh, hb, if_neg (by decide)]
      | true =>
        refine if_true_of rfl ?_
        obtain ⟨b, rfl, hs⟩ := hy2
        have h4 : n0 < 4 := w.okn _ hxm
        refine ⟨_, rfl, _, rfl, b, _, _, _, rfl, rfl, hs, atI_nat (j := 1) rfl, 1, (n0 : Int), rfl, rfl, ⟨by omega, by omega, by decide⟩, _, _, rfl, rfl, ?_⟩
        refine ⟨some (.int (i : Int)), some (.ref b), g2, ?_⟩
        have e : nameW at_ t (.name n0) = 2 ^ n0 := by
          show (if Oc.holds at_ t (.name n0) = true then 2 ^ n0 else 0) = 2 ^ n0
          rw [hh, hb, if_pos rfl]
        rw [step, e]
        show [_, _, some (V.int (((((at_.take i).map (nameW at_ t)).sum : Nat) : Int) + (1 : Int) * 2 ^ ((n0 : Nat) : Int).toNat)), _, _] = _
        rw [Int.toNat_natCast, Int.one_mul, show ((2 : Int) ^ n0) = ((2 ^ n0 : Nat) : Int) by simp]
        rfl
    | top => cases w.atom _ hxm
    | bot => cases w.atom _ hxm
    | and _ _ => cases w.atom _ hxm
    | or _ _ => cases w.atom _ hxm
    | not _ => cases w.atom _ hxm
    | some s0 c =>
      refine if_false_of (by rfl) ?_
      refine if_false_of (by rfl) ?_
      exact stay rfl
    | all s0 c =>
      refine if_false_of (by rfl) ?_
      refine if_false_of (by rfl) ?_
      exact stay rfl
  · rintro σ H1 ⟨x3, x4, g1, rfl⟩
    refine ⟨_, rfl, ?_⟩
    rw [hxl, List.take_length, names_eq w]
    exact q _ g1
end
end Ca
namespace Ca
open PySem PySem.Spec PyProof.Rows L2
open Oc (C Axiom)
section
variable {P : Program} {w : World} {K : PySem.W.Frag} {mg : Str → Option Value} {base : Heap} {A : Ads}
/-! ### relations -/
def PRep (K : PySem.W.Frag) (H : Hp) (x : Nat × Nat) (v : V) : Prop := ∃ t, v = .ref t ∧ SqT K H t [.int (x.1 : Int), .int (x.2 : Int)]
def PReps (K : PySem.W.Frag) (H : Hp) : List (Nat × Nat) → List V → Prop
  | [], [] => True
  | c :: cs, v :: vs => PRep K H c v ∧ PReps K H cs vs
  | _, _ => False
def pD (x : Nat × Nat) : PyData := .tuple [.int (x.1 : Int), .int (x.2 : Int)]
theorem PRep.tmono {H H' : Hp} (e : TSame H H') {x : Nat × Nat} {v : V} (h : PRep K H x v) : PRep K H' x v := by
  obtain ⟨t, h1, h2⟩ := h
  exact ⟨t, h1, e.seqT h2⟩
theorem PReps.tmono {H H' : Hp} (e : TSame H H') : ∀ {cs : List (Nat × Nat)} {vs : List V}, PReps K H cs vs → PReps K H' cs vs
  | [], [], _ => trivial
  | _ :: _, _ :: _, h => ⟨h.1.tmono e, PReps.tmono e h.2⟩
  | [], _ :: _, h => h.elim
  | _ :: _, [], h => h.elim
theorem PReps.length {H : Hp} : ∀ {cs : List (Nat × Nat)} {vs : List V}, PReps K H cs vs → vs.length = cs.length
  | [], [], _ => rfl
  | _ :: _, _ :: _, h => congrArg (· + 1) (PReps.length h.2)
  | [], _ :: _, h => h.elim
  | _ :: _, [], h => h.elim
theorem PReps.snoc {H : Hp} {x : Nat × Nat} {v : V} (hx : PRep K H x v) : ∀ {cs : List (Nat × Nat)} {vs : List V}, PReps K H cs vs → PReps K H (cs ++ [x]) (vs ++ [v])
  | [], [], _ => ⟨hx, trivial⟩
  | _ :: _, _ :: _, h => ⟨h.1, PReps.snoc hx h.2⟩
  | [], _ :: _, h => h.elim
  | _ :: _, [], h => h.elim
theorem PReps.get {H : Hp} : ∀ {cs : List (Nat × Nat)} {vs : List V} {i : Nat} {v : V}, PReps K H cs vs → vs[i]? = some v → ∃ c, cs[i]? = some c ∧ PRep K H c v
  | c :: _, w :: _, 0, v, h, e => ⟨c, rfl, by cases (Option.some.inj e : w = v); exact h.1⟩
  | _ :: _, _ :: _, i + 1, v, h, e => PReps.get (i := i) h.2 e
  | [], [], _, _, _, e => by simp at e
  | [], _ :: _, _, _, h, _ => h.elim
  | _ :: _, [], _, _, h, _ => h.elim
theorem PRep.dp {H : Hp} {x : Nat × Nat} {v : V} (h : PRep K H x v) : Dp K H v (pD x) := by
  obtain ⟨t, rfl, h2⟩ := h
  exact .tup h2 (.cons (.int _) (.cons (.int _) .nil))
theorem PReps.dp {H : Hp} : ∀ {cs : List (Nat × Nat)} {vs : List V}, PReps K H cs vs → DpAll K H vs (cs.map pD)
  | [], [], _ => .nil
  | _ :: _, _ :: _, h => .cons h.1.dp (PReps.dp h.2)
  | [], _ :: _, h => h.elim
  | _ :: _, [], h => h.elim
theorem pD_lay (x : Nat × Nat) : (pD x).canLay0 = true := by simp [pD, PyData.canLay0, PyData.canLayAll0]
theorem pD_depth (x : Nat × Nat) : (pD x).depth = 1 := by simp [pD, PyData.depth, PyData.depthAll]
theorem pDs_lay : ∀ cs : List (Nat × Nat), PyData.canLayAll0 (cs.map pD) = true
  | [] => by simp [PyData.canLayAll0]
  | c :: cs => by simp [PyData.canLayAll0, pD_lay c, pDs_lay cs]
theorem pDs_depth : ∀ cs : List (Nat × Nat), PyData.depthAll (cs.map pD) ≤ 1
  | [] => by simp [PyData.depthAll]
  | c :: cs => by
    have h1 := pDs_depth cs
    have h2 := pD_depth c
    simp only [List.map_cons, PyData.depthAll]
    omega
theorem pD_shaped (x : Nat × Nat) : SeqAt.shaped (pD x) = true := by
  show ((pD x).canLay0 && decide ((pD x).depth ≤ 64)) = true
  rw [Bool.and_eq_true, pD_depth]
  exact ⟨pD_lay x, by decide⟩
theorem pDs_shaped (cs : List (Nat × Nat)) : SeqAt.shaped (.list (cs.map pD)) = true := by
  have h1 := pDs_depth cs
  show (PyData.canLay0 (.list (cs.map pD)) && decide (PyData.depth (.list (cs.map pD)) ≤ 64)) = true
  rw [Bool.and_eq_true]
  refine ⟨by simp only [PyData.canLay0]; exact pDs_lay cs, decide_eq_true ?_⟩
  simp only [PyData.depth]
  omega
theorem pD_eqv (x y : Nat × Nat) : PyData.eqv (pD x) (pD y) = decide (x = y) := by
  obtain ⟨a, b⟩ := x
  obtain ⟨c, d⟩ := y
  unfold pD
  rw [eqv_tt, eqv_cc, eqv_c2, eqv_ii, eqv_ii, natI_beq, natI_beq]
  by_cases h1 : a = c <;> by_cases h2 : b = d <;> simp [h1, h2]
theorem any_pD (cs : List (Nat × Nat)) (c : Nat × Nat) : ((cs.map pD).any fun z => PyData.eqv z (pD c)) = cs.contains c := by
  induction cs with
  | nil => rfl
  | cons d r ih =>
    rw [List.map_cons, List.any_cons, ih, pD_eqv, List.contains_cons]
    congr 1
    by_cases h : d = c
    · subst h; simp
    · rw [decide_eq_false h]
      exact (beq_eq_false_iff_ne.mpr fun z => h z.symm).symm
theorem inV_nV (u : Nat) (w : List Nat) : inV (.int (u : Int)) (nV w) = w.contains u := by
  induction w with
  | nil => rfl
  | cons d r ih =>
    show (eqV (V.int (d : Int)) (.int (u : Int)) || inV (.int (u : Int)) (nV r)) = _
    rw [ih, List.contains_cons]
    congr 1
    show ((d : Int) == (u : Int)) = _
    rw [natI_beq]
    by_cases h : d = u
    · subst h; simp
    · rw [decide_eq_false h]
      exact (beq_eq_false_iff_ne.mpr fun z => h z.symm).symm
theorem nV_flat (w : List Nat) : (nV w).all flatV = true := by
  rw [List.all_eq_true]
  intro v hv
  obtain ⟨n, _, rfl⟩ := List.mem_map.mp hv
  rfl
/-- a Kinds object under a change of another list -/
theorem KP.sb {H H' : Hp} {x l : Addr} {axs : List Axiom} {cs : List C} {o : KO} {p : Nat → Bool} {ys : List V} (h : KP K A H x axs cs o p) (e : SB l H H') (t : TSame H H') (hl : H l = some (.lst ys)) (n1 : l ≠ o.la) (n2 : l ≠ o.lh) : KP K A H' x axs cs o p :=
  ⟨⟨⟨e _ _ h.kh.kat.ins (ne_of h.kh.kat.ins hl (by intro z; cases z)), e _ _ h.kh.kat.lst n1.symm, h.kh.kat.rep.tmono t, h.kh.kat.stg⟩, e _ _ h.kh.hold n2.symm, h.kh.stg⟩, h.r, h.poss⟩
/-- a kind goes behind the others, if it is new -/
theorem r_push {σ : L2.St} {H : Hp} {u2 : TS} {D : Ends} {l : Addr} {w : List Nat} {u r : Nat} (h5 : σ[5]? = some (some (.int (u : Int)))) (h1 : σ[1]? = some (some (.ref l))) (hl : H l = some (.lst (nV w))) (hw : w.length ≤ 1000)
    (q : ∀ H', SB l H H' → TSame H H' → H' l = some (.lst (nV (pushU w (r, u)))) → u2 D σ H') :
    tSeq (tIfS (tTest (tOp (rIn K true) (tVar 5) (tVar 1))) (tDrop (fun σ H Q => tVar 1 σ H fun x H1 => tyV K "list" x H1 ∧ (tCons (tVar 5) tNil) σ H1 fun vs H2 => rAppend x vs H2 Q)) tNext) u2 D σ H := by
  refine ⟨_, h5, _, h1, l, nV w, rfl, .inl (SqL.of hl), rfl, nV_flat w, _, rfl, ?_⟩
  rw [inV_nV]
  cases c : w.contains u with
  | true =>
    refine if_false_of (by rfl) ?_
    refine q H (SB.of (Same.refl _)) (TSame.refl _) ?_
    unfold pushU
    rw [if_pos c]
    exact hl
  | false =>
    refine if_true_of (by rfl) ?_
    refine ⟨_, h1, .inl ⟨rfl, _, SqL.of hl⟩, _, h5, l, nV w, .int (u : Int), rfl, rfl, hl, smallT (by rw [nV_length]; omega), ?_⟩
    refine q _ (SB.upd _ _ _) (TSame.lst hl _) ?_
    rw [upd_same]
    unfold pushU
    rw [if_neg (by rw [c]; decide), nV_append]
    rfl
/-- relations_of -/
def spRelationsOf (K : PySem.W.Frag) (A : Ads) : Sp := fun vs H Q _ => ∃ (a l : Addr) (t : Nat) (axs : List Axiom) (cs : List C) (o : KO) (p : Nat → Bool) (ws : List Nat), vs = [.ref a, .ref l, .int (t : Int)] ∧ KP K A H a axs cs o p ∧ PreK axs cs ∧
  H l = some (.lst (nV ws)) ∧ l ≠ o.la ∧ l ≠ o.lh ∧ t ∈ Oc.types (Oc.atomsFor axs cs) axs ∧ ws.length ≤ 64 ∧
  ∀ H' f rs, SB l H H' → TSame H H' → H' l = some (.lst (nV ((Oc01.needs (Oc.atomsFor axs cs) (Oc.types (Oc.atomsFor axs cs) axs) t).foldl pushU ws))) → H f = none → H' f = some (.lst rs) →
    PReps K H' (relsOf (Oc.atomsFor axs cs) (Oc.types (Oc.atomsFor axs cs) axs) ((Oc01.needs (Oc.atomsFor axs cs) (Oc.types (Oc.atomsFor axs cs) axs) t).foldl pushU ws) t) rs → Q (.ref f) H'
theorem pushes_len : ∀ (nd : List (Nat × Nat)) (m : List Nat), (nd.foldl pushU m).length ≤ m.length + nd.length
  | [], m => by simp
  | x :: nd, m => by
    have h := pushes_len nd (pushU m x)
    have : (pushU m x).length ≤ m.length + 1 := by
      unfold pushU
      split
      · omega
      · simp
    rw [List.foldl_cons, List.length_cons]
    omega
theorem ok_relations_of (T : Txt K mg A) : FnOk P w K mg base CX0 57 A.a_relations_of A.d_relations_of ["kinds", "things", "kind"] (spRelationsOf K A) := by
  refine T.f_relations_of.ok sc_relations_of (fun vs H Q E h => ?_) (fun cdv A' outer s H vs Q E hr h => ?_)
  · obtain ⟨_, _, _, _, _, _, _, _, rfl, _⟩ := h
    rfl
  obtain ⟨a, l, t, axs, cs, o, p, ws, rfl, kp, pre, hl, n1, n2, ht, hws, q⟩ := h
  refine ⟨_, (pss_cons (ps_set (i := 3) sc_relations_of.nd rfl (Or.inl rfl) (pe_lst pa_nil))
    (pss_cons (ps_for PassesOwn.never rfl (pi_list (pe_meth (pv 0) T.cl_Kinds T.m_to_support (ok_to_support T) (hr.mono (by omega)) T.b_to_support .nil pass0 (by exact (pa_cons (pv 2) pa_nil)))) (pg_name (i := 4) sc_relations_of.nd rfl (Or.inl rfl)) (pss_cons (ps_set (i := 5) sc_relations_of.nd rfl (Or.inl rfl) (pe_meth (pv 0) T.cl_Kinds T.m_first_of (ok_first_of T) (hr.mono (by omega)) T.b_first_of .nil pass0 (by exact (pa_cons (pe_meth (pv 0) T.cl_Kinds T.m_supporting (ok_supporting T) (hr.mono (by omega)) T.b_supporting .nil pass0 (by exact (pa_cons (pv 2) (pa_cons (pv 4) pa_nil)))) pa_nil))))
    (pss_cons (ps_if (pt_cmpR op_notIn_seq (pv 5) (pv 1) (by rfl)) (pss_one (ps_expr (pe_bm PySem.F.plainAttrs_list PySem.F.slot_list_append PySem.F.type_list_append mt_append (pv 1) (by exact (pa_cons (pv 5) pa_nil))))) pss_nil)
    (pss_cons (ps_set (i := 6) sc_relations_of.nd rfl (Or.inl rfl) (pe_tup (pa_cons (pe_ix ix_tup (pe_ix ix_list (pe_fld (pv 0) rfl) (pv 4) (fun _ _ => rfl)) pe_int (fun _ _ => rfl)) (pa_cons (pe_bm PySem.F.plainAttrs_list PySem.F.slot_list_index PySem.F.type_list_index mt_index (pv 1) (by exact (pa_cons (pv 5) pa_nil))) pa_nil))))
    (pss_one (ps_if (pt_cmpR (op_notInD (hu65 hr)) (pv 6) (pv 3) (by rfl)) (pss_one (ps_expr (pe_bm PySem.F.plainAttrs_list PySem.F.slot_list_append PySem.F.type_list_append mt_append (pv 3) (by exact (pa_cons (pv 6) pa_nil))))) pss_nil))))))
    (pss_one (ps_ret (pv 3))))), ?_⟩
  have wf := pre.wf
  generalize hat : Oc.atomsFor axs cs = at_ at wf ht q
  generalize hty : Oc.types at_ axs = ty at ht q
  have hb : Oc.borne at_ ty t = true := by
    have := kp.poss.borne t (by rw [hat, hty]; exact ht)
    rw [hat, hty] at this
    exact this
  have hnd := needs_map wf hb
  refine ⟨sz0, fun f hf => ?_⟩
  have g1 := Same.new hf (.lst [])
  have kp1 := kp.mono g1
  have nfl : l ≠ f := ne_of_none hl hf
  refine ⟨_, rfl, a, _, _, rfl, kp1.kh.kat.ins, KH.no kp1.kh (by decide +kernel) (by decide +kernel) (by decide +kernel) (by decide +kernel) (by decide +kernel), _, rfl, a, t, _, o, rfl, kp1.kh, pre.len, fun H2 l2 g2 hl2 h2 => ?_⟩
  rw [hat] at h2
  have nl2 : l2 ≠ l := fun e => by rw [e, g1 _ _ hl] at hl2; cases hl2
  have nf2 : l2 ≠ f := fun e => by rw [e, upd_same] at hl2; cases hl2
  have nds_le := needs_len at_ t
  have hlen6 := wf.len
  refine ⟨l2, rfl, ⟨_, SqL.of h2⟩, for_list (K := K) (a := l2) (xs := nV (needs_ at_ t)) (fun j σ H3 => ∃ x4 x5 x6 rs, SB l H H3 ∧ TSame H H3 ∧ H3 l2 = some (.lst (nV (needs_ at_ t))) ∧ H3 l = some (.lst (nV ((((needs_ at_ t).take j).map (prK at_ ty t)).foldl pushU ws))) ∧ H3 f = some (.lst rs) ∧
    PReps K H3 (((((needs_ at_ t).take j).map (prK at_ ty t)).map (relK ((((needs_ at_ t).take j).map (prK at_ ty t)).foldl pushU ws))).foldl pushR []) rs ∧ σ = [some (.ref a), some (.ref l), some (.int (t : Int)), some (.ref f), x4, x5, x6]) ?_ ?_ ?_ ?_⟩
  · exact ⟨none, none, none, [], SB.of (g1.trans g2), (g1.trans g2).t, h2, g2 _ _ (g1 _ _ hl), g2 _ _ upd_same, trivial, rfl⟩
  · rintro j σ H3 _ ⟨_, _, _, _, _, _, h, _⟩
    exact SqL.of h
  · rintro j v σ H3 hj ⟨x4, x5, x6, rs, s3, t3, h3a, h3l, h3f, h3p, rfl⟩
    obtain ⟨k, hkj, rfl⟩ := nV_get hj
    have hkm := List.mem_of_getElem? hkj
    have hkn := needs_mem hkm
    have hfk := firstK_mem wf hb hkm
    have kp3 := kp.sb s3 t3 hl n1 n2
    have hjl : j < (needs_ at_ t).length := (List.getElem?_eq_some_iff.mp hkj).1
    -- the first kind that supports the atom
    refine ⟨_, rfl, a, _, _, rfl, kp3.kh.kat.ins, KH.no kp3.kh (by decide +kernel) (by decide +kernel) (by decide +kernel) (by decide +kernel) (by decide +kernel), _, rfl, a, _, _, rfl, kp3.kh.kat.ins, KH.no kp3.kh (by decide +kernel) (by decide +kernel) (by decide +kernel) (by decide +kernel) (by decide +kernel), _, rfl, _, rfl, a, t, k, _, o, rfl, kp3.kh, pre.wf, by rw [hat]; exact hkn.1, fun H4 g4 => ?_⟩
    have kp4 := kp3.mono g4
    refine ⟨a, _, o, axs, p, _, rfl, kp4.kh, pre.len, kp4.r, kp4.poss, fun H5 g5 => ?_⟩
    have e5 : (Oc.types (Oc.atomsFor axs cs) axs).find? (suppK (Oc.atomsFor axs cs) t k) = some (firstK at_ ty t k) := by rw [hat, hty]; exact hfk.1
    rw [e5]
    have g35 := g4.trans g5
    have wl := pushes_len (((needs_ at_ t).take j).map (prK at_ ty t)) ws
    rw [List.length_map, List.length_take] at wl
    -- it goes behind the others, if it is new
    refine r_push (K := K) (r := roleK at_ k) rfl rfl (g35 _ _ h3l) (by omega) fun H6 s6 t6 h6l => ?_
    have kp6 := ((kp3.mono g35).sb s6 t6 (g35 _ _ h3l) n1 n2)
    have stepW : (((needs_ at_ t).take (j + 1)).map (prK at_ ty t)).foldl pushU ws = pushU ((((needs_ at_ t).take j).map (prK at_ ty t)).foldl pushU ws) (roleK at_ k, firstK at_ ty t k) := by
      rw [take_snoc hkj, List.map_append, List.foldl_append]; rfl
    rw [← stepW] at h6l
    generalize hW : (((needs_ at_ t).take (j + 1)).map (prK at_ ty t)).foldl pushU ws = W at h6l
    have hin : firstK at_ ty t k ∈ W := by rw [← hW, stepW, pushU_mem]; exact .inr rfl
    obtain ⟨i, hi, hiw, hil, hino⟩ := idx_some hin
    -- the pair of its role and its place
    obtain ⟨x, s0, c0, hx, hrx⟩ := needK_some hkn.1
    have hx' : (Oc.atomsFor axs cs)[k]? = some x := by rw [hat]; exact hx
    obtain ⟨v, hv, hxv⟩ := kp6.kh.kat.rep.at hx'
    obtain ⟨b, z, y, rfl, hs, hy, hz⟩ := hrx.rep hxv
    have hrole : roleK at_ k = s0 := by unfold roleK; rw [hx]; rcases hrx with rfl | rfl <;> rfl
    refine ⟨_, rfl, a, _, _, _, _, rfl, kp6.kh.kat.ins, T.cl_Kinds, T.n_atoms, kF_atoms _ _ _, _, rfl, o.la, o.xs, _, _, rfl, rfl, SqL.of kp6.kh.kat.lst, atI_nat hv, b, _, _, _, rfl, rfl, hs, atI_nat (j := 1) rfl, ?_⟩
    refine ⟨_, rfl, .inl ⟨rfl, _, SqL.of h6l⟩, _, rfl, l, nV W, .int ((firstK at_ ty t k : Nat) : Int), i, .int ((firstK at_ ty t k : Nat) : Int), rfl, rfl, SqL.of h6l, rfl, nV_flat W, nV_at hiw, by show ((_ : Int) == _) = true; simp, fun m z' hm hz' => ?_, ?_⟩
    · obtain ⟨n', hn', rfl⟩ := nV_get hz'
      have := hino m n' hm hn'
      show ((n' : Int) == ((firstK at_ ty t k : Nat) : Int)) = false
      rw [natI_beq]
      exact decide_eq_false this
    refine ⟨sz2, fun pr hpr => ?_⟩
    have g7 := Same.new hpr (.tup [.int (s0 : Int), .int (i : Int)])
    have h6f : H6 f = some (.lst rs) := s6 _ _ (g35 _ _ h3f) nfl.symm
    have h6p := (h3p.tmono g35.t).tmono t6
    have h7p := h6p.tmono g7.t
    have h7f : upd H6 pr (.tup [.int (s0 : Int), .int (i : Int)]) f = some (.lst rs) := g7 _ _ h6f
    have hrep : PRep K (upd H6 pr (.tup [.int (s0 : Int), .int (i : Int)])) (s0, i) (.ref pr) := ⟨pr, rfl, SqT.of upd_same⟩
    have sW : ∃ zz, W = (((needs_ at_ t).take j).map (prK at_ ty t)).foldl pushU ws ++ zz := by
      rw [← hW, stepW]
      exact pushU_pre _ _
    obtain ⟨zz, hzz⟩ := sW
    have rel_eq : (((needs_ at_ t).take j).map (prK at_ ty t)).map (relK W) = (((needs_ at_ t).take j).map (prK at_ ty t)).map (relK ((((needs_ at_ t).take j).map (prK at_ ty t)).foldl pushU ws)) := by
      apply List.map_congr_left
      intro x1 hx1
      rw [hzz]
      apply relK_pre
      rw [pushes_mem]
      exact .inr ⟨x1, hx1, rfl⟩
    have stepR : ((((needs_ at_ t).take (j + 1)).map (prK at_ ty t)).map (relK W)).foldl pushR [] = pushR (((((needs_ at_ t).take j).map (prK at_ ty t)).map (relK ((((needs_ at_ t).take j).map (prK at_ ty t)).foldl pushU ws))).foldl pushR []) (s0, i) := by
      rw [take_snoc hkj, List.map_append, List.map_append, List.foldl_append, rel_eq]
      have : relK W (prK at_ ty t k) = (s0, i) := by
        unfold relK prK
        rw [hi, hrole]
        rfl
      simp only [List.map_cons, List.map_nil, List.foldl_cons, List.foldl_nil]
      rw [this]
    have rl := h3p.length
    have rlen := pushR_len ((((needs_ at_ t).take j).map (prK at_ ty t)).map (relK ((((needs_ at_ t).take j).map (prK at_ ty t)).foldl pushU ws))) []
    rw [List.length_map, List.length_map, List.length_take] at rlen
    simp only [List.length_nil] at rlen
    have s36 : SB l H H6 := (s3.trans (SB.of g35)).trans s6
    have t36 : TSame H H6 := (t3.trans g35.t).trans t6
    have h6l2 : H6 l2 = some (.lst (nV (needs_ at_ t))) := s6 _ _ (g35 _ _ h3a) nl2
    refine ⟨_, rfl, _, rfl, pD (s0, i), _, hrep.dp, .lst (SqL.of h7f) h7p.dp, pD_shaped _, pDs_shaped _, _, rfl, ?_⟩
    rw [any_pD]
    generalize hR : ((((needs_ at_ t).take j).map (prK at_ ty t)).map (relK ((((needs_ at_ t).take j).map (prK at_ ty t)).foldl pushU ws))).foldl pushR [] = R at h3p h6p h7p stepR rl rlen ⊢
    cases hc : R.contains (s0, i) with
    | true =>
      refine if_false_of (by rfl) ?_
      refine ⟨_, _, _, rs, s36.trans (SB.of g7), t36.trans g7.t, g7 _ _ h6l2, g7 _ _ h6l, h7f, ?_, rfl⟩
      rw [stepR]
      unfold pushR
      rw [if_pos hc]
      exact h7p
    | false =>
      refine if_true_of (by rfl) ?_
      refine ⟨_, rfl, .inl ⟨rfl, _, SqL.of h7f⟩, _, rfl, f, rs, .ref pr, rfl, rfl, h7f, smallT (by omega), ?_⟩
      have t8 : TSame (upd H6 pr (.tup [.int (s0 : Int), .int (i : Int)])) (upd (upd H6 pr (.tup [.int (s0 : Int), .int (i : Int)])) f (.lst (rs ++ [.ref pr]))) := TSame.lst h7f _
      refine ⟨_, _, _, rs ++ [.ref pr], fun b u hb hbl => ?_, (t36.trans g7.t).trans t8, by rw [upd_ne nf2]; exact g7 _ _ h6l2, by rw [upd_ne nfl]; exact g7 _ _ h6l, upd_same, ?_, rfl⟩
      · rw [upd_ne (ne_of_none hb hf)]
        exact g7 _ _ (s36 b u hb hbl)
      · rw [stepR]
        unfold pushR
        rw [if_neg (by rw [hc]; decide)]
        exact (h7p.tmono t8).snoc (hrep.tmono t8)
  · rintro σ H3 ⟨x4, x5, x6, rs, s3, t3, h3a, h3l, h3f, h3p, rfl⟩
    rw [nV_length, List.take_length, ← hnd] at h3l h3p
    refine ⟨_, rfl, q _ f rs s3 t3 h3l hf h3f ?_⟩
    unfold relsOf
    rw [rels_map (fun x hx => by rw [pushes_mem]; exact .inr ⟨x, hx, rfl⟩), once_eq]
    exact h3p
end
end Ca
namespace Ca
open PySem PySem.Spec PyProof.Rows L2
open Oc (C Axiom)
section
variable {P : Program} {w : World} {K : PySem.W.Frag} {mg : Str → Option Value} {base : Heap} {A : Ads}
/-! ### the reported model -/
def spModelTold (K : PySem.W.Frag) : Sp := fun vs H Q _ => ∃ (l1 : Addr) (v : V) (ys : List V) (axs : List Axiom) (c : C), vs = [.ref l1, v] ∧ SqL K H l1 ys ∧ AReps K H axs ys ∧ CRep K H c v ∧ PreK axs [c] ∧
  ((Oc.types (Oc.atomsFor axs [c]) axs).find? (fun t => Oc.holds (Oc.atomsFor axs [c]) t c) = none → ∀ H', Same H H' → Q .non H') ∧
  (∀ t, (Oc.types (Oc.atomsFor axs [c]) axs).find? (fun t => Oc.holds (Oc.atomsFor axs [c]) t c) = some t → ∀ H' m, Same H H' → H m = none →
    H' m = some (.lst (nV (modelL (Oc.atomsFor axs [c]) (Oc.types (Oc.atomsFor axs [c]) axs) (Oc01.gather (Oc.atomsFor axs [c]) (Oc.types (Oc.atomsFor axs [c]) axs) ((Oc.types (Oc.atomsFor axs [c]) axs).length + 1) 0 [t])))) → Q (.ref m) H')
def atOf (σ : L2.St) : Nat := match σ[5]? with
  | some (some (V.int z)) => z.toNat
  | _ => 0
theorem types_len {axs : List Axiom} {cs : List C} {p : Nat → Bool} (pre : PreK axs cs) (h : Poss (Oc.atomsFor axs cs) axs p) : (Oc.types (Oc.atomsFor axs cs) axs).length ≤ 64 := by
  rw [h.eq]
  have := Lof_len (2 ^ (Oc.atomsFor axs cs).length) p
  have := many_le pre.len
  omega
theorem row_pre {at_ : List C} {l w z : List Nat} {i : Nat} (h : ∀ u ∈ w.take i, ∀ x ∈ Oc01.needs at_ l u, x.2 ∈ w) : (w.take i).flatMap (row at_ l (w ++ z)) = (w.take i).flatMap (row at_ l w) := by
  have : ∀ m : List Nat, (∀ u ∈ m, ∀ x ∈ Oc01.needs at_ l u, x.2 ∈ w) → m.flatMap (row at_ l (w ++ z)) = m.flatMap (row at_ l w) := by
    intro m
    induction m with
    | nil => intro _; rfl
    | cons u m ih =>
      intro hm
      rw [List.flatMap_cons, List.flatMap_cons, ih fun u' hu' => hm u' (List.mem_cons_of_mem _ hu')]
      unfold row
      rw [relsOf_pre (hm u List.mem_cons_self)]
  exact this _ h
theorem flat2_len : ∀ l : List (Nat × Nat), (l.flatMap fun e => [e.1, e.2]).length = 2 * l.length
  | [] => rfl
  | x :: r => by
    have ih := flat2_len r
    rw [List.flatMap_cons, List.length_append, ih, List.length_cons, List.length_cons, List.length_cons, List.length_nil]
    omega
theorem ok_model_told (T : Txt K mg A) : FnOk P w K mg base CX0 60 A.a_model_told A.d_model_told ["axioms", "concept"] (spModelTold K) := by
  refine T.f_model_told.ok sc_model_told (fun vs H Q E h => ?_) (fun cdv A' outer s H vs Q E hr h => ?_)
  · obtain ⟨_, _, _, _, _, rfl, _⟩ := h
    rfl
  obtain ⟨l1, v, ys, axs, c, rfl, hS, hA, hc, pre, q1, q2⟩ := h
  refine ⟨_, (pss_cons (ps_set (i := 2) sc_model_told.nd rfl (Or.inl rfl) (pe_make T.mk_Kinds (ok_initKinds T) (hr.mono (by omega)) (by rfl) T.g_Kinds T.b_initKinds .nil pass0 (by exact (pa_cons (pv 0) (pa_cons (pe_lst (pa_cons (pv 1) pa_nil)) pa_nil)))))
    (pss_cons (ps_set (i := 3) sc_model_told.nd rfl (Or.inl rfl) (pe_meth (pv 2) T.cl_Kinds T.m_first_of (ok_first_of T) (hr.mono (by omega)) T.b_first_of .nil pass0 (by exact (pa_cons (pe_meth (pv 2) T.cl_Kinds T.m_set_of (okr_set_of T) (hr.mono (by omega)) T.b_set_of .nil pass0 (by exact (pa_cons (pv 1) pa_nil))) pa_nil))))
    (pss_cons (ps_if (pt_cmpR op_isN (pv 3) pe_non (nomark _)) (pss_one (ps_ret pe_non)) pss_nil)
    (pss_cons (ps_par3 (i := 4) (j := 5) (l := 6) rfl sc_model_told.nd rfl rfl rfl (by decide) (by decide) (by decide) rfl rfl rfl (by exact (pa_cons (pe_lst (pa_cons (pv 3) pa_nil)) (pa_cons pe_int (pa_cons (pe_lst pa_nil) pa_nil)))) (by rfl))
    (pss_cons (ps_while PassesOwn.never (pt_cmpR op_lt (pv 5) (pe_callB call_len_seq (by rfl) T.z_len PySem.boot_len (pa_cons (pv 4) pa_nil)) (nomark _)) (pss_cons (ps_set (i := 7) sc_model_told.nd rfl (Or.inl rfl) (pe_call (ok_relations_of T) (hr.mono (by omega)) (by rfl) T.g_relations_of T.f_relations_of.kp T.b_relations_of .nil pass0 (by exact (pa_cons (pv 2) (pa_cons (pv 4) (pa_cons (pe_ix ix_list (pv 4) (pv 5) (fun _ _ => rfl)) pa_nil))))))
    (pss_cons (ps_expr (pe_bm PySem.F.plainAttrs_list PySem.F.slot_list_extend PySem.F.type_list_extend mt_extend (pv 6) (by exact (pa_cons (pe_lst (pa_cons (pe_call (ok_names_number T) (hr.mono (by omega)) (by rfl) T.g_names_number T.f_names_number.kp T.b_names_number .nil pass0 (by exact (pa_cons (pv 2) (pa_cons (pe_ix ix_list (pv 4) (pv 5) (fun _ _ => rfl)) pa_nil)))) (pa_cons (pe_callB call_len_seq (by rfl) T.z_len PySem.boot_len (pa_cons (pv 7) pa_nil)) pa_nil))) pa_nil))))
    (pss_cons (ps_for PassesOwn.never rfl (pi_list (pv 7)) (pg_tup rfl (pgs_cons (pg_name (i := 8) sc_model_told.nd rfl (Or.inl rfl)) (pgs_cons (pg_name (i := 9) sc_model_told.nd rfl (Or.inl rfl)) pgs_nil))) (pss_one (ps_expr (pe_bm PySem.F.plainAttrs_list PySem.F.slot_list_extend PySem.F.type_list_extend mt_extend (pv 6) (by exact (pa_cons (pe_lst (pa_cons (pv 8) (pa_cons (pv 9) pa_nil))) pa_nil))))))
    (pss_one (ps_aug (i := 5) sc_model_told.nd rfl (Or.inl rfl) pe_int ip_add))))))
    (pss_one (ps_ret (pe_op op_cat (pe_lst (pa_cons (pe_callB call_len_seq (by rfl) T.z_len PySem.boot_len (pa_cons (pv 4) pa_nil)) pa_nil)) (pv 6))))))))), ?_⟩
  refine r_kinds1 (K := K) (A := A) (by rfl) (by rfl) hS hA hc pre fun H2 x o p g2 kp => ?_
  have hin := pre.in (c := c) (by simp)
  have wf := pre.wf
  have tl := types_len pre kp.poss
  refine ⟨_, rfl, x, _, _, rfl, kp.kh.kat.ins, KH.no kp.kh (by decide +kernel) (by decide +kernel) (by decide +kernel) (by decide +kernel) (by decide +kernel), _, rfl, x, _, _, rfl, kp.kh.kat.ins, KH.no kp.kh (by decide +kernel) (by decide +kernel) (by decide +kernel) (by decide +kernel) (by decide +kernel), _, rfl, ?_⟩
  refine ⟨x, v, c, _, o.r, o.dx, o.la, o.xs, o.lh, rfl, kp.kh, hc.mono g2, hin.1, hin.2, wf, fun H3 g3 => ?_⟩
  have kp3 := kp.mono g3
  refine ⟨x, _, o, axs, p, _, rfl, kp3.kh, pre.len, kp.r, kp.poss, fun H4 g4 => ?_⟩
  have kp4 := kp3.mono g4
  have gH4 := g2.trans (g3.trans g4)
  have hborne := kp.poss.borne
  generalize hat : Oc.atomsFor axs [c] = at_ at q1 q2 tl wf hborne ⊢
  generalize hty : Oc.types at_ axs = ty at q1 q2 tl hborne ⊢
  cases hfd : ty.find? (fun t => Oc.holds at_ t c) with
  | none =>
    refine ⟨_, rfl, rfl, _, rfl, ?_⟩
    exact if_true_of (by rfl) (q1 hfd _ gH4)
  | some t =>
    have q2' := q2 t hfd
    have htm : t ∈ ty := List.mem_of_find?_eq_some hfd
    refine ⟨_, rfl, rfl, _, rfl, ?_⟩
    refine if_false_of (by rfl) ?_
    refine ⟨_, rfl, sz1, fun L hL => ⟨sz0, fun F hF => ⟨_, _, _, rfl, ?_⟩⟩⟩
    have g5 := Same.new hL (.lst [optV (some t)])
    have g6 := Same.new hF (.lst [])
    have gH := gH4.trans (g5.trans g6)
    have kp6 := kp4.mono (g5.trans g6)
    have nLa : L ≠ o.la := fun e => by rw [e, kp4.kh.kat.lst] at hL; cases hL
    have nLh : L ≠ o.lh := fun e => by rw [e, kp4.kh.hold] at hL; cases hL
    have hF' : H4 F = none := (g5).free hF
    have nFa : F ≠ o.la := fun e => by rw [e, kp4.kh.kat.lst] at hF'; cases hF'
    have nFh : F ≠ o.lh := fun e => by rw [e, kp4.kh.hold] at hF'; cases hF'
    have nFL : L ≠ F := fun e => by rw [← e, upd_same] at hF; cases hF
    have hLH : H L = none := gH4.free hL
    have hFH : H F = none := (gH4.trans g5).free hF
    generalize hWW : Oc01.gather at_ ty (ty.length + 1) 0 [t] = W at q2'
    refine while_by (fun σ H7 => ∃ (ws : List Nat) (i f : Nat) (x7 x8 x9 : Option V), Same H H7 ∧ KP K A H7 x axs [c] o p ∧ H7 L = some (.lst (nV ws)) ∧ H7 F = some (.lst (nV ((ws.take i).flatMap (row at_ ty ws)))) ∧ GInv at_ ty W ws i f ∧ ((ws.take i).flatMap (row at_ ty ws)).length ≤ 14 * i ∧
      σ = [some (.ref l1), some v, some (.ref x), some (optV (some t)), some (.ref L), some (.int (i : Int)), some (.ref F), x7, x8, x9]) (fun σ _ => ty.length + 1 - atOf σ) ?_ ?_ ?_
    · refine ⟨[t], 0, ty.length + 1, none, none, none, gH, kp6, g6 _ _ upd_same, upd_same, ?_, by simp, rfl⟩
      rw [← hWW]
      exact ginv_start htm
    · rintro σ H7 ⟨ws, i, f, x7, x8, x9, g7, kp7, h7L, h7F, gi, hlen, rfl⟩
      have wl := gi.len
      refine ⟨_, rfl, _, rfl, L, _, rfl, .inl (SqL.of h7L), _, _, rfl, rfl, _, rfl, ?_⟩
      rw [nV_length]
      by_cases ci : i < ws.length
      · refine if_true_of (decide_eq_true (by omega)) ?_
        obtain ⟨t', ht'⟩ : ∃ t', ws[i]? = some t' := ⟨ws[i], List.getElem?_eq_getElem ci⟩
        have ht'm : t' ∈ ty := gi.sub _ (List.mem_of_getElem? ht')
        have hb := hborne t' ht'm
        have hat7 : atI (nV ws) ((i : Nat) : Int) = some (.int (t' : Int)) := atI_nat (nV_at ht')
        refine ⟨_, rfl, _, rfl, _, rfl, _, rfl, L, _, _, _, rfl, rfl, SqL.of h7L, hat7, x, L, t', axs, [c], o, p, ws, rfl, kp7, pre, h7L, nLa, nLh, by rw [hat, hty]; exact ht'm, by omega, fun H8 fr rs s8 t8 h8L hfr h8f h8p => ?_⟩
        rw [hat, hty] at h8L h8p
        have kp8 := kp7.sb s8 t8 h7L nLa nLh
        have h8F := s8 _ _ h7F nFL.symm
        have nfrF : fr ≠ F := fun e => by rw [e, h7F] at hfr; cases hfr
        obtain ⟨zz, hzz⟩ := pushes_pre (Oc01.needs at_ ty t') ws
        have hat8 : atI (nV ((Oc01.needs at_ ty t').foldl pushU ws)) ((i : Nat) : Int) = some (.int (t' : Int)) := atI_nat (nV_at (by rw [hzz, List.getElem?_append_left ci]; exact ht'))
        have gH8 : Same H H8 := fun b u hb' => s8 b u (g7 b u hb') (fun e => by rw [e, hLH] at hb'; cases hb')
        have hsub : ∀ y ∈ Oc01.needs at_ ty t', y.2 ∈ ty := by
          rw [needs_map wf hb]
          intro y hy
          obtain ⟨k, hk, rfl⟩ := List.mem_map.mp hy
          exact (firstK_mem wf hb hk).2
        obtain ⟨f', gi'⟩ := gi.turn ht' hsub
        generalize hw' : (Oc01.needs at_ ty t').foldl pushU ws = ws' at h8L h8p hat8 hzz gi'
        have hrl := relsOf_len wf (ws := ws') hb
        have rsl := h8p.length
        -- two numbers: the names, how many relations
        refine ⟨_, rfl, .inl ⟨rfl, _, SqL.of h8F⟩, _, rfl, _, rfl, _, rfl, L, _, _, _, rfl, rfl, SqL.of h8L, hat8, x, t', _, o, rfl, kp8.kh, pre.wf, fun H9 g9 => ?_⟩
        rw [hat]
        refine ⟨_, rfl, fr, rs, rfl, .inl (SqL.of (g9 _ _ h8f)), sz2, fun qq hqq => ?_⟩
        have g10 := Same.new hqq (.lst [.int ((Oc01.namesOf at_ t' : Nat) : Int), .int ((rs.length : Nat) : Int)])
        have h10F := g10 _ _ (g9 _ _ h8F)
        refine ⟨F, qq, _, _, rfl, rfl, h10F, upd_same, small (by rw [nV_length]; simp only [List.length_cons, List.length_nil]; omega), ?_⟩
        generalize hH10 : upd H9 qq (.lst [.int ((Oc01.namesOf at_ t' : Nat) : Int), .int ((rs.length : Nat) : Int)]) = H10 at g10 h10F ⊢
        have t11 : TSame H10 (upd H10 F (.lst (nV ((ws.take i).flatMap (row at_ ty ws)) ++ [.int ((Oc01.namesOf at_ t' : Nat) : Int), .int ((rs.length : Nat) : Int)]))) := TSame.lst h10F _
        have s11 : SB F H8 (upd H10 F (.lst (nV ((ws.take i).flatMap (row at_ ty ws)) ++ [.int ((Oc01.namesOf at_ t' : Nat) : Int), .int ((rs.length : Nat) : Int)]))) := (SB.of (g9.trans g10)).trans (SB.upd F _ _)
        have tt11 : TSame H8 (upd H10 F (.lst (nV ((ws.take i).flatMap (row at_ ty ws)) ++ [.int ((Oc01.namesOf at_ t' : Nat) : Int), .int ((rs.length : Nat) : Int)]))) := ((g9.trans g10).t).trans t11
        -- two numbers for each relation
        refine ⟨_, rfl, fr, rfl, ⟨_, SqL.of (s11 _ _ h8f nfrF)⟩, for_list (K := K) (a := fr) (xs := rs) (fun j σ H12 => ∃ x8 x9, SB F H8 H12 ∧ TSame H8 H12 ∧ H12 F = some (.lst (nV ((ws.take i).flatMap (row at_ ty ws) ++ (Oc01.namesOf at_ t' :: rs.length :: ((relsOf at_ ty ws' t').take j).flatMap fun e => [e.1, e.2])))) ∧
          σ = [some (.ref l1), some v, some (.ref x), some (optV (some t)), some (.ref L), some (.int (i : Int)), some (.ref F), some (.ref fr), x8, x9]) ?_ ?_ ?_ ?_⟩
        · refine ⟨x8, x9, s11, tt11, ?_, rfl⟩
          rw [upd_same, nV_append]
          rfl
        · rintro j σ H12 _ ⟨_, _, s12, _⟩
          exact SqL.of (s12 _ _ h8f nfrF)
        · rintro j vv σ H12 hj ⟨y8, y9, s12, t12, h12F, rfl⟩
          obtain ⟨e, he, hv⟩ := h8p.get hj
          obtain ⟨tt, rfl, htt⟩ := hv.tmono t12
          have hjl : j < (relsOf at_ ty ws' t').length := (List.getElem?_eq_some_iff.mp he).1
          refine ⟨tt, _, rfl, htt, rfl, _, _, rfl, _, _, rfl, rfl, ?_⟩
          refine ⟨_, rfl, .inl ⟨rfl, _, SqL.of h12F⟩, _, rfl, _, rfl, sz2, fun qq2 hqq2 => ?_⟩
          have g13 := Same.new hqq2 (.lst [.int (e.1 : Int), .int (e.2 : Int)])
          have h13F := g13 _ _ h12F
          have fl := flat2_len ((relsOf at_ ty ws' t').take j)
          rw [List.length_take] at fl
          refine ⟨F, qq2, _, _, rfl, rfl, h13F, upd_same, small (by rw [nV_length, List.length_append]; simp only [List.length_cons, List.length_nil]; omega), ?_⟩
          have t14 := TSame.lst h13F (.lst (nV ((ws.take i).flatMap (row at_ ty ws) ++ (Oc01.namesOf at_ t' :: rs.length :: ((relsOf at_ ty ws' t').take j).flatMap fun e => [e.1, e.2])) ++ [.int (e.1 : Int), .int (e.2 : Int)]))
          refine ⟨_, _, (s12.trans (SB.of g13)).trans (SB.upd F _ _), (t12.trans g13.t).trans t14, ?_, rfl⟩
          rw [upd_same, take_snoc he, List.flatMap_append, nV_append, nV_append]
          show some (HO.lst (_ ++ nV (Oc01.namesOf at_ t' :: rs.length :: _) ++ nV [e.1, e.2])) = _
          rw [← nV_append, ← nV_append, ← nV_append, List.append_assoc]
          simp
        · rintro σ H12 ⟨y8, y9, s12, t12, h12F, rfl⟩
          rw [rsl, List.take_length] at h12F
          refine ⟨_, rfl, _, _, rfl, rfl, ?_⟩
          have hnew : (ws'.take (i + 1)).flatMap (row at_ ty ws') = (ws.take i).flatMap (row at_ ty ws) ++ (Oc01.namesOf at_ t' :: (relsOf at_ ty ws' t').length :: (relsOf at_ ty ws' t').flatMap fun e => [e.1, e.2]) := by
            rw [hzz, List.take_append_of_le_length (by omega), take_snoc ht', List.flatMap_append, row_pre gi.done]
            simp only [List.flatMap_cons, List.flatMap_nil, List.append_nil]
            unfold row
            rfl
          refine ⟨⟨ws', i + 1, f', _, _, _, fun b u hb' => ?_, kp8.sb s12 t12 h8F nFa nFh, s12 _ _ h8L nFL, ?_, gi', ?_, rfl⟩, ?_⟩
          · exact s12 b u (gH8 b u hb') (fun e => by rw [e, hFH] at hb'; cases hb')
          · rw [hnew]
            exact h12F
          · rw [hnew, List.length_append]
            have fl := flat2_len (relsOf at_ ty ws' t')
            simp only [List.length_cons]
            omega
          · show ty.length + 1 - (((i : Int) + 1).toNat) < ty.length + 1 - ((i : Int).toNat)
            omega
      · refine if_false_of (decide_eq_false (by omega)) ?_
        have eW := gi.stop ci
        have ei : ws.take i = ws := List.take_of_length_le (by omega)
        rw [ei] at h7F hlen
        refine ⟨_, rfl, L, _, rfl, .inl (SqL.of h7L), sz1, fun m1 hm1 => ⟨_, rfl, ?_⟩⟩
        have g8 := Same.new hm1 (.lst [.int (((nV ws).length : Nat) : Int)])
        refine ⟨m1, F, _, _, rfl, rfl, upd_same, g8 _ _ h7F, small (by have := gi.le; simp only [nV_length, List.length_cons, List.length_nil]; omega), fun m hm => ?_⟩
        have g9 := Same.new hm (.lst ([.int (((nV ws).length : Nat) : Int)] ++ nV (ws.flatMap (row at_ ty ws))))
        refine q2' _ m (g7.trans (g8.trans g9)) ((g7.trans g8).free hm) ?_
        rw [upd_same, eW, nV_length]
        rfl
    · rintro σ H7 Q1 Q2 hq ⟨v1, e1, v2, e2, a2, b2, c2, d2, i2, j2, e3, e4, k, ek, qq⟩
      exact ⟨v1, e1, v2, e2, a2, b2, c2, d2, i2, j2, e3, e4, k, ek, hq _ _ qq⟩
end
end Ca
namespace Ca
open PySem PySem.Spec PyProof.Rows L2
open Oc (C Axiom)
section
variable {P : Program} {w : World} {K : PySem.W.Frag} {mg : Str → Option Value} {base : Heap} {A : Ads}
/-! ### names under names -/
def nameP (at_ : List C) (a u : Nat) : Bool := if at_.contains (.name a) = true then Oc.holds at_ u (.name a) else true
def nameQ (at_ : List C) (b u : Nat) : Bool := if at_.contains (.name b) = true then Oc.holds at_ u (.name b) else false
def underB (at_ : List C) (ty : List Nat) (a b : Nat) : Bool := ty.all fun u => !nameP at_ a u || (if a = b then true else nameQ at_ b u)
theorem underB_eq (at_ : List C) (ty : List Nat) (a b : Nat) : underB at_ ty a b = (decide (a = b) || (ty.find? fun u => nameP at_ a u && !nameQ at_ b u).isNone) := by
  unfold underB
  by_cases h : a = b
  · rw [decide_eq_true h, Bool.true_or, List.all_eq_true]
    intro u _
    rw [if_pos h, Bool.or_true]
  · rw [decide_eq_false h, Bool.false_or]
    have e : (ty.find? fun u => nameP at_ a u && !nameQ at_ b u).isNone = !(ty.any fun u => nameP at_ a u && !nameQ at_ b u) := by
      rw [← find_any]
      cases ty.find? fun u => nameP at_ a u && !nameQ at_ b u <;> rfl
    rw [e, List.not_any_eq_all_not]
    congr 1
    funext u
    rw [if_neg h]
    cases nameP at_ a u <;> cases nameQ at_ b u <;> rfl
def spWithName (K : PySem.W.Frag) (A : Ads) : Sp := fun vs H Q _ => ∃ (x : Addr) (a : Nat) (axs : List Axiom) (cs : List C) (o : KO) (p : Nat → Bool), vs = [.ref x, .int (a : Int)] ∧ KP K A H x axs cs o p ∧ PreK axs cs ∧
  ∀ H', Same H H' → Q (.int ((mk (2 ^ (Oc.atomsFor axs cs).length) (nameP (Oc.atomsFor axs cs) a) : Nat) : Int)) H'
def spWithoutName (K : PySem.W.Frag) (A : Ads) : Sp := fun vs H Q _ => ∃ (x : Addr) (a : Nat) (axs : List Axiom) (cs : List C) (o : KO) (p : Nat → Bool), vs = [.ref x, .int (a : Int)] ∧ KP K A H x axs cs o p ∧ PreK axs cs ∧
  ∀ H', Same H H' → Q (.int ((mk (2 ^ (Oc.atomsFor axs cs).length) (fun u => !nameQ (Oc.atomsFor axs cs) a u) : Nat) : Int)) H'
theorem ok_with_name (T : Txt K mg A) : FnOk P w K mg base CX0 57 A.a_with_name A.d_with_name ["kinds", "name"] (spWithName K A) := by
  refine T.f_with_name.ok sc_with_name (fun vs H Q E h => ?_) (fun cdv A' outer s H vs Q E hr h => ?_)
  · obtain ⟨_, _, _, _, _, _, rfl, _⟩ := h
    rfl
  obtain ⟨x, a, axs, cs, o, p, rfl, kp, pre, q⟩ := h
  refine ⟨_, (pss_cons (ps_set (i := 2) sc_with_name.nd rfl (Or.inl rfl) (pe_tup (pa_cons (pe_glob (v := .int (2)) rfl T.g_NAME ⟨_, rfl⟩) (pa_cons (pv 1) pa_nil))))
    (pss_one (ps_ret (pe_ifExp (pt_cmpR (op_inD (hu65 hr)) (pv 2) (pe_fld (pv 0) rfl) (by rfl)) (pe_meth (pv 0) T.cl_Kinds T.m_set_of (okr_set_of T) (hr.mono (by omega)) T.b_set_of .nil pass0 (by exact (pa_cons (pv 2) pa_nil))) (pe_fld (pv 0) rfl))))), ?_⟩
  have wf := pre.wf
  refine ⟨_, rfl, sz2, fun t ht => ?_⟩
  have g1 := Same.new ht (.tup [.int 2, .int (a : Int)])
  have kp1 := kp.mono g1
  have hrep : CRep K (upd H t (.tup [.int 2, .int (a : Int)])) (.name a) (.ref t) := ⟨t, rfl, SqT.of upd_same⟩
  refine ⟨_, rfl, _, rfl, x, _, _, _, _, rfl, kp1.kh.kat.ins, T.cl_Kinds, T.n_atoms, kF_atoms _ _ _, cD (.name a), _, hrep.dp, .lst (SqL.of kp1.kh.kat.lst) kp1.kh.kat.rep.dp, cD_shaped (by simp [dep]), cDs_shaped (fun z hz => Nat.le_trans (wf.dep z hz) (by decide)), _, rfl, ?_⟩
  rw [any_cD]
  by_cases hm : C.name a ∈ Oc.atomsFor axs cs
  · refine if_true_of (decide_eq_true hm) ?_
    refine ⟨_, rfl, x, _, _, rfl, kp1.kh.kat.ins, KH.no kp1.kh (by decide +kernel) (by decide +kernel) (by decide +kernel) (by decide +kernel) (by decide +kernel), _, rfl, x, _, .name a, _, o.r, o.dx, o.la, o.xs, o.lh, rfl, kp1.kh, hrep, by simp [dep], fun z hz => ?_, wf, fun H2 g2 => ?_⟩
    · simp only [C.atoms, List.mem_singleton] at hz
      subst hz
      exact hm
    · have h := q _ (g1.trans g2)
      have e : mk (2 ^ (Oc.atomsFor axs cs).length) (nameP (Oc.atomsFor axs cs) a) = mk (2 ^ (Oc.atomsFor axs cs).length) (fun u => Oc.holds (Oc.atomsFor axs cs) u (.name a)) := mk_ext fun u _ => by
        unfold nameP
        rw [if_pos (by simpa using hm)]
      rw [e] at h
      exact h
  · refine if_false_of (decide_eq_false hm) ?_
    refine ⟨_, rfl, x, _, _, _, _, rfl, kp1.kh.kat.ins, T.cl_Kinds, T.n_whole, kF_whole _ _ _, ?_⟩
    have h := q _ g1
    have e : mk (2 ^ (Oc.atomsFor axs cs).length) (nameP (Oc.atomsFor axs cs) a) = wN (Oc.atomsFor axs cs).length := mk_ext fun u _ => by
      unfold nameP
      rw [if_neg (by simpa using hm)]
    rw [e] at h
    exact h
theorem ok_without_name (T : Txt K mg A) : FnOk P w K mg base CX0 57 A.a_without_name A.d_without_name ["kinds", "name"] (spWithoutName K A) := by
  refine T.f_without_name.ok sc_without_name (fun vs H Q E h => ?_) (fun cdv A' outer s H vs Q E hr h => ?_)
  · obtain ⟨_, _, _, _, _, _, rfl, _⟩ := h
    rfl
  obtain ⟨x, a, axs, cs, o, p, rfl, kp, pre, q⟩ := h
  refine ⟨_, (pss_cons (ps_set (i := 2) sc_without_name.nd rfl (Or.inl rfl) (pe_tup (pa_cons (pe_glob (v := .int (2)) rfl T.g_NAME ⟨_, rfl⟩) (pa_cons (pv 1) pa_nil))))
    (pss_one (ps_ret (pe_ifExp (pt_cmpR (op_inD (hu65 hr)) (pv 2) (pe_fld (pv 0) rfl) (by rfl)) (pe_meth (pv 0) T.cl_Kinds T.m_without (ok_without T) (hr.mono (by omega)) T.b_without .nil pass0 (by exact (pa_cons (pe_meth (pv 0) T.cl_Kinds T.m_set_of (okr_set_of T) (hr.mono (by omega)) T.b_set_of .nil pass0 (by exact (pa_cons (pv 2) pa_nil))) pa_nil))) (pe_fld (pv 0) rfl))))), ?_⟩
  have wf := pre.wf
  refine ⟨_, rfl, sz2, fun t ht => ?_⟩
  have g1 := Same.new ht (.tup [.int 2, .int (a : Int)])
  have kp1 := kp.mono g1
  have hrep : CRep K (upd H t (.tup [.int 2, .int (a : Int)])) (.name a) (.ref t) := ⟨t, rfl, SqT.of upd_same⟩
  refine ⟨_, rfl, _, rfl, x, _, _, _, _, rfl, kp1.kh.kat.ins, T.cl_Kinds, T.n_atoms, kF_atoms _ _ _, cD (.name a), _, hrep.dp, .lst (SqL.of kp1.kh.kat.lst) kp1.kh.kat.rep.dp, cD_shaped (by simp [dep]), cDs_shaped (fun z hz => Nat.le_trans (wf.dep z hz) (by decide)), _, rfl, ?_⟩
  rw [any_cD]
  by_cases hm : C.name a ∈ Oc.atomsFor axs cs
  · refine if_true_of (decide_eq_true hm) ?_
    refine ⟨_, rfl, x, _, _, rfl, kp1.kh.kat.ins, KH.no kp1.kh (by decide +kernel) (by decide +kernel) (by decide +kernel) (by decide +kernel) (by decide +kernel), _, rfl, x, _, _, rfl, kp1.kh.kat.ins, KH.no kp1.kh (by decide +kernel) (by decide +kernel) (by decide +kernel) (by decide +kernel) (by decide +kernel), _, rfl, x, _, .name a, _, o.r, o.dx, o.la, o.xs, o.lh, rfl, kp1.kh, hrep, by simp [dep], fun z hz => ?_, wf, fun H2 g2 => ?_⟩
    · simp only [C.atoms, List.mem_singleton] at hz
      subst hz
      exact hm
    · have h := q _ (g1.trans g2)
      have e : mk (2 ^ (Oc.atomsFor axs cs).length) (fun u => !nameQ (Oc.atomsFor axs cs) a u) = mk (2 ^ (Oc.atomsFor axs cs).length) (fun u => !Oc.holds (Oc.atomsFor axs cs) u (.name a)) := mk_ext fun u _ => by
        unfold nameQ
        rw [if_pos (by simpa using hm)]
      rw [e] at h
      exact ⟨x, _, o.r, o.dx, o.la, o.xs, _, rfl, (kp1.mono g2).kh.kat, h⟩
  · refine if_false_of (decide_eq_false hm) ?_
    refine ⟨_, rfl, x, _, _, _, _, rfl, kp1.kh.kat.ins, T.cl_Kinds, T.n_whole, kF_whole _ _ _, ?_⟩
    have h := q _ g1
    have e : mk (2 ^ (Oc.atomsFor axs cs).length) (fun u => !nameQ (Oc.atomsFor axs cs) a u) = wN (Oc.atomsFor axs cs).length := mk_ext fun u _ => by
      unfold nameQ
      rw [if_neg (by simpa using hm)]
      rfl
    rw [e] at h
    exact h
def spIsNameUnder (K : PySem.W.Frag) (A : Ads) : Sp := fun vs H Q _ => ∃ (x : Addr) (a b : Nat) (axs : List Axiom) (cs : List C) (o : KO) (p : Nat → Bool), vs = [.ref x, .int (a : Int), .int (b : Int)] ∧ KP K A H x axs cs o p ∧ PreK axs cs ∧
  ∀ H', Same H H' → Q (.bl (underB (Oc.atomsFor axs cs) (Oc.types (Oc.atomsFor axs cs) axs) a b)) H'
theorem ok_is_name_under (T : Txt K mg A) : FnOk P w K mg base CX0 58 A.a_is_name_under A.d_is_name_under ["kinds", "first", "second"] (spIsNameUnder K A) := by
  refine T.f_is_name_under.ok sc_is_name_under (fun vs H Q E h => ?_) (fun cdv A' outer s H vs Q E hr h => ?_)
  · obtain ⟨_, _, _, _, _, _, _, rfl, _⟩ := h
    rfl
  obtain ⟨x, a, b, axs, cs, o, p, rfl, kp, pre, q⟩ := h
  refine ⟨_, (pss_cons (ps_set (i := 3) sc_is_name_under.nd rfl (Or.inl rfl) (pe_op op_and (pe_call (ok_with_name T) (hr.mono (by omega)) (by rfl) T.g_with_name T.f_with_name.kp T.b_with_name .nil pass0 (by exact (pa_cons (pv 0) (pa_cons (pv 1) pa_nil)))) (pe_call (ok_without_name T) (hr.mono (by omega)) (by rfl) T.g_without_name T.f_without_name.kp T.b_without_name .nil pass0 (by exact (pa_cons (pv 0) (pa_cons (pv 2) pa_nil))))))
    (pss_one (ps_ret (pe_or (pe_cmpR op_eq (pv 1) (pv 2) (nomark _)) (pe_one (pe_cmpR op_isN (pe_meth (pv 0) T.cl_Kinds T.m_first_of (ok_first_of T) (hr.mono (by omega)) T.b_first_of .nil pass0 (by exact (pa_cons (pv 3) pa_nil))) pe_non (nomark _))))))), ?_⟩
  refine ⟨_, rfl, _, rfl, x, a, axs, cs, o, p, rfl, kp, pre, fun H1 g1 => ?_⟩
  refine ⟨_, rfl, _, rfl, x, b, axs, cs, o, p, rfl, kp.mono g1, pre, fun H2 g2 => ?_⟩
  have kp2 := (kp.mono g1).mono g2
  refine ⟨_, _, rfl, rfl, ?_⟩
  refine ⟨_, rfl, _, rfl, rfl, _, rfl, ?_⟩
  rw [int_eq]
  have ub := underB_eq (Oc.atomsFor axs cs) (Oc.types (Oc.atomsFor axs cs) axs) a b
  by_cases hab : a = b
  · refine if_true_of (decide_eq_true hab) ?_
    rw [decide_eq_true hab, Bool.true_or] at ub
    have h := q _ (g1.trans g2)
    rw [ub] at h
    exact h
  · refine if_false_of (decide_eq_false hab) ?_
    rw [decide_eq_false hab, Bool.false_or] at ub
    refine ⟨_, rfl, x, _, _, rfl, kp2.kh.kat.ins, KH.no kp2.kh (by decide +kernel) (by decide +kernel) (by decide +kernel) (by decide +kernel) (by decide +kernel), _, rfl, x, _, o, axs, p, (fun u => nameP (Oc.atomsFor axs cs) a u && !nameQ (Oc.atomsFor axs cs) b u), ?_, kp2.kh, pre.len, kp2.r, kp2.poss, fun H3 g3 => ⟨rfl, ?_⟩⟩
    · show [V.ref x, V.int (Builtin.bitAnd ((mk (2 ^ (Oc.atomsFor axs cs).length) (nameP (Oc.atomsFor axs cs) a) : Nat) : Int) ((mk (2 ^ (Oc.atomsFor axs cs).length) (fun u => !nameQ (Oc.atomsFor axs cs) b u) : Nat) : Int))] = _
      rw [band_mk]
    · have h := q _ (g1.trans (g2.trans g3))
      rw [ub] at h
      have e : decide (optV ((Oc.types (Oc.atomsFor axs cs) axs).find? fun u => nameP (Oc.atomsFor axs cs) a u && !nameQ (Oc.atomsFor axs cs) b u) = V.non) = ((Oc.types (Oc.atomsFor axs cs) axs).find? fun u => nameP (Oc.atomsFor axs cs) a u && !nameQ (Oc.atomsFor axs cs) b u).isNone := by
        cases (Oc.types (Oc.atomsFor axs cs) axs).find? fun u => nameP (Oc.atomsFor axs cs) a u && !nameQ (Oc.atomsFor axs cs) b u <;> rfl
      rw [e]
      exact h
/-- names_told -/
def namesL (axs : List Axiom) (m : Nat) : List Nat := Oc01.flag (!(Oc.types (Oc.atomsFor axs []) axs).isEmpty) :: (List.range m).flatMap fun a => (List.range m).map fun b => Oc01.flag (underB (Oc.atomsFor axs []) (Oc.types (Oc.atomsFor axs []) axs) a b)
def spNamesTold (K : PySem.W.Frag) : Sp := fun vs H Q _ => ∃ (l1 : Addr) (m : Nat) (ys : List V) (axs : List Axiom), vs = [.ref l1, .int (m : Int)] ∧ SqL K H l1 ys ∧ AReps K H axs ys ∧ PreK axs [] ∧ m ≤ 10 ∧
  ∀ H' f, Same H H' → H f = none → H' f = some (.lst (nV (namesL axs m))) → Q (.ref f) H'
theorem flag_int (b : Bool) : (if b then (1 : Int) else 0) = ((Oc01.flag b : Nat) : Int) := by cases b <;> rfl
theorem poss_empty {at_ : List C} {axs : List Axiom} {p : Nat → Bool} (h : Poss at_ axs p) : (!decide (V.int ((mk (2 ^ at_.length) p : Nat) : Int) = V.int 0)) = !(Oc.types at_ axs).isEmpty := by
  congr 1
  rw [h.eq]
  cases hz : (List.range (2 ^ at_.length)).any p with
  | false =>
    have e : Lof (2 ^ at_.length) p = [] := by
      unfold Lof
      rw [List.filter_eq_nil_iff]
      intro t ht
      exact List.any_eq_false.mp hz t ht
    rw [e, mk_eq_zero.mpr hz]
    rfl
  | true =>
    have hn : ¬ mk (2 ^ at_.length) p = 0 := fun z => by
      rw [mk_eq_zero.mp z] at hz
      cases hz
    have e : Lof (2 ^ at_.length) p ≠ [] := by
      unfold Lof
      intro z
      rw [List.filter_eq_nil_iff] at z
      obtain ⟨t, ht, hp⟩ := List.any_eq_true.mp hz
      exact z t ht hp
    rw [decide_eq_false (fun z => by injection z with z; omega)]
    cases hl : Lof (2 ^ at_.length) p with
    | nil => exact absurd hl e
    | cons _ _ => rfl
theorem ok_names_told (T : Txt K mg A) : FnOk P w K mg base CX0 60 A.a_names_told A.d_names_told ["axioms", "many"] (spNamesTold K) := by
  refine T.f_names_told.ok sc_names_told (fun vs H Q E h => ?_) (fun cdv A' outer s H vs Q E hr h => ?_)
  · obtain ⟨_, _, _, _, rfl, _⟩ := h
    rfl
  obtain ⟨l1, m, ys, axs, rfl, hS, hA, pre, hm, q⟩ := h
  refine ⟨_, (pss_cons (ps_set (i := 2) sc_names_told.nd rfl (Or.inr rfl) (pe_make T.mk_Kinds (ok_initKinds T) (hr.mono (by omega)) (by rfl) T.g_Kinds T.b_initKinds .nil pass0 (by exact (pa_cons (pv 0) (pa_cons (pe_lst pa_nil) pa_nil)))))
    (pss_cons (ps_set (i := 3) sc_names_told.nd rfl (Or.inl rfl) (pe_lst (pa_cons (pe_callTy call_int1 (by rfl) T.z_int (by decide +kernel) (pa_cons (pe_cmpR op_ne (pe_fld (pv 2) rfl) pe_int (nomark _)) pa_nil)) pa_nil)))
    (pss_cons (ps_for PassesOwn.never rfl (pi_range1 (by rfl) T.z_range (pa_cons (pv 1) pa_nil)) (pg_name (i := 4) sc_names_told.nd rfl (Or.inr rfl)) (pss_one (ps_expr (pe_bm PySem.F.plainAttrs_list PySem.F.slot_list_extend PySem.F.type_list_extend mt_extend (pv 3) (by exact (pa_cons (pe_lc (own := [("second", 5)]) (g := gName 5) (tt := tYes) rfl sc_names_told.nd (pi_range1 (by rfl) T.z_range (pa_cons (pv 1) pa_nil)) (blkOk_by (own := [("second", 5)]) (N := N_names_told) (sc := (defScope s_names_told)) (by decide +kernel)) (fun _ _ _ _ _ => pg_name (i := 5) sc_names_told.nd rfl (Or.inl rfl)) (fun _ _ _ _ _ => by exact pts_nil) (fun _ _ _ _ _ => by exact (pe_callTy call_int1 (by rfl) T.z_int (by decide +kernel) (pa_cons (pe_call (ok_is_name_under T) (hr.mono (by omega)) (by rfl) T.g_is_name_under T.f_is_name_under.kp T.b_is_name_under .nil pass0 (by exact (pa_cons (pv 2) (pa_cons (pv 4) (pa_cons (pv 5) pa_nil))))) pa_nil)))) pa_nil))))))
    (pss_one (ps_ret (pv 3)))))), ?_⟩
  refine r_kinds0 (K := K) (A := A) (by rfl) hS hA pre fun H2 x o p g2 kp => ?_
  have hi := kp.kh.kat.ins
  rw [kp.r] at hi
  refine ⟨_, rfl, x, _, _, _, _, rfl, hi, T.cl_Kinds, T.n_possible, kF_possible _ _ _ _, rfl, .inr ⟨_, rfl, sz1, fun F hF => ?_⟩⟩
  rw [poss_empty kp.poss, flag_int]
  generalize hat : Oc.atomsFor axs [] = at_ at kp ⊢
  have g3 := Same.new hF (.lst [.int ((Oc01.flag (!(Oc.types at_ axs).isEmpty) : Nat) : Int)])
  have hFH : H F = none := g2.free hF
  refine ⟨_, rfl, (m : Int), rfl, rlo _, rhi (by omega), for_range (lo := 0) (n := (m : Int).toNat) (fun i σ H3 => ∃ x4 x5, Same H H3 ∧ KP K A H3 x axs [] o p ∧ H3 F = some (.lst (nV (Oc01.flag (!(Oc.types at_ axs).isEmpty) :: (List.range i).flatMap fun a => (List.range m).map fun b => Oc01.flag (underB at_ (Oc.types at_ axs) a b)))) ∧
    σ = [some (.ref l1), some (.int (m : Int)), some (.ref x), some (.ref F), x4, x5]) ?_ ?_ ?_⟩
  · exact ⟨none, none, g2.trans g3, kp.mono g3, upd_same, rfl⟩
  · rintro i σ H3 hi3 ⟨x4, x5, g4, kp4, h4F, rfl⟩
    rw [Int.toNat_natCast] at hi3
    refine ⟨_, rfl, .inl ⟨rfl, _, SqL.of h4F⟩, _, rfl, _, rfl, rlo _, rhi (by omega), fun D hD => ?_⟩
    refine lc_range (lo := 0) (n := (m : Int).toNat) (fun j H5 => Same H3 H5 ∧ H5 D = some (.lst (nV ((List.range j).map fun b => Oc01.flag (underB at_ (Oc.types at_ axs) i b))))) ⟨Same.new hD _, upd_same⟩ ?_ ?_
    · rintro j H5 hj ⟨g5, h5⟩
      rw [Int.toNat_natCast] at hj
      refine ⟨rfl, ?_⟩
      refine ⟨_, rfl, _, rfl, _, rfl, x, i, j, axs, [], o, p, by rw [Int.zero_add, Int.zero_add]; rfl, kp4.mono g5, pre, fun H6 g6 => .inr ⟨_, rfl, ?_⟩⟩
      rw [flag_int, hat]
      refine ⟨_, g6 _ _ h5, smallT (by rw [nV_length, List.length_map, List.length_range]; omega), (g5.trans g6).put hD _, ?_⟩
      rw [upd_same, List.range_succ, List.map_append, nV_append]
      rfl
    · rintro H5 ⟨g5, h5⟩
      rw [Int.toNat_natCast] at h5
      have nFD : F ≠ D := ne_of_none h4F hD
      have h5F := g5 _ _ h4F
      have fl : ((List.range i).flatMap fun a => (List.range m).map fun b => Oc01.flag (underB at_ (Oc.types at_ axs) a b)).length = i * m := by
        have : ∀ l : List Nat, (l.flatMap fun a => (List.range m).map fun b => Oc01.flag (underB at_ (Oc.types at_ axs) a b)).length = l.length * m := by
          intro l
          induction l with
          | nil => simp
          | cons y r ih =>
            rw [List.flatMap_cons, List.length_append, ih, List.length_map, List.length_range, List.length_cons, Nat.add_mul]
            omega
        rw [this, List.length_range]
      have him : i * m ≤ 10 * 10 := Nat.mul_le_mul (by omega) hm
      refine ⟨F, D, _, _, rfl, rfl, h5F, h5, small (by rw [nV_length, nV_length, List.length_cons, fl, List.length_map, List.length_range]; omega), ?_⟩
      have gn : Same H (upd H5 F (.lst (nV (Oc01.flag (!(Oc.types at_ axs).isEmpty) :: (List.range i).flatMap fun a => (List.range m).map fun b => Oc01.flag (underB at_ (Oc.types at_ axs) a b)) ++ nV ((List.range m).map fun b => Oc01.flag (underB at_ (Oc.types at_ axs) i b))))) := (g4.trans g5).put hFH _
      have k5 := kp4.mono g5
      have nla : F ≠ o.la := fun e => by rw [e, kp.kh.kat.lst] at hF; cases hF
      have nlh : F ≠ o.lh := fun e => by rw [e, kp.kh.hold] at hF; cases hF
      refine ⟨_, _, gn, k5.sb (SB.upd F _ _) (TSame.lst h5F _) h5F nla nlh, ?_, rfl⟩
      rw [upd_same, List.range_succ, List.flatMap_append, ← nV_append]
      simp
  · rintro σ H3 ⟨x4, x5, g4, kp4, h4F, rfl⟩
    rw [Int.toNat_natCast] at h4F
    refine ⟨_, rfl, q _ F g4 hFH ?_⟩
    rw [h4F]
    unfold namesL
    rw [hat]
/-! ### spare axioms -/
theorem cut_take (xs : List V) (i : Nat) : cutV xs none (some ((i : Nat) : Int)) = xs.take i := by
  unfold cutV
  rw [HT.sIx_none, HT.sIx_nat, List.drop_zero, Nat.sub_zero]
  rcases Nat.le_total i xs.length with h | h
  · rw [Nat.min_eq_left h]
  · rw [Nat.min_eq_right h, List.take_length, List.take_of_length_le h]
theorem cut_drop (xs : List V) (i : Nat) : cutV xs (some ((i : Nat) : Int)) none = xs.drop i := by
  unfold cutV
  rw [HT.sIx_none, HT.sIx_nat]
  rcases Nat.le_total i xs.length with h | h
  · rw [Nat.min_eq_left h, List.take_of_length_le (by rw [List.length_drop]; omega)]
  · rw [Nat.min_eq_right h, List.drop_length, List.drop_eq_nil_of_le h]
    simp
def rest (axs : List Axiom) (i : Nat) : List Axiom := axs.take i ++ axs.drop (i + 1)
def spIsSpare (K : PySem.W.Frag) : Sp := fun vs H Q _ => ∃ (l1 : Addr) (i : Nat) (ys : List V) (axs : List Axiom) (x : Axiom), vs = [.ref l1, .int (i : Int)] ∧ SqL K H l1 ys ∧ AReps K H axs ys ∧ axs[i]? = some x ∧ axs.length ≤ 6 ∧ PreK (rest axs i) [.and x.1 (.not x.2)] ∧
  ∀ H', Same H H' → Q (.bl (Oc.under (rest axs i) x.1 x.2)) H'
theorem ok_is_spare (T : Txt K mg A) : FnOk P w K mg base CX0 62 A.a_is_spare A.d_is_spare ["axioms", "index"] (spIsSpare K) := by
  refine T.f_is_spare.ok sc_is_spare (fun vs H Q E h => ?_) (fun cdv A' outer s H vs Q E hr h => ?_)
  · obtain ⟨_, _, _, _, _, rfl, _⟩ := h
    rfl
  obtain ⟨l1, i, ys, axs, x, rfl, hS, hA, hx, hax, pre, q⟩ := h
  refine ⟨_, (pss_cons (ps_asg (pe_ix ix_list (pv 0) (pv 1) (fun _ _ => rfl)) (pg_tup rfl (pgs_cons (pg_name (i := 2) sc_is_spare.nd rfl (Or.inl rfl)) (pgs_cons (pg_name (i := 3) sc_is_spare.nd rfl (Or.inl rfl)) pgs_nil))))
    (pss_one (ps_ret (pe_call (ok_is_subsumed T) (hr.mono (by omega)) (by rfl) T.g_is_subsumed T.f_is_subsumed.kp T.b_is_subsumed .nil pass0 (by exact (pa_cons (pe_op op_cat (pe_slice sl_list (pv 0) po_none (po_some (pv 1))) (pe_slice sl_list (pv 0) (po_some (pe_op op_add (pv 1) pe_int)) po_none)) (pa_cons (pv 2) (pa_cons (pv 3) pa_nil)))))))), ?_⟩
  have yl := hA.length
  have hil : i < axs.length := (List.getElem?_eq_some_iff.mp hx).1
  obtain ⟨v, hv⟩ : ∃ v, ys[i]? = some v := ⟨ys[i], List.getElem?_eq_getElem (by omega)⟩
  obtain ⟨x', hx', hv'⟩ := hA.get hv
  have : x' = x := Option.some.inj (hx'.symm.trans hx)
  subst this
  obtain ⟨t, y, z, rfl, ht, hy, hz⟩ := hv'
  refine ⟨_, rfl, _, rfl, l1, _, _, _, rfl, rfl, hS, atI_nat hv, t, _, rfl, ht, rfl, _, _, rfl, _, _, rfl, rfl, ?_⟩
  refine ⟨_, rfl, _, rfl, _, rfl, l1, _, rfl, hS, fun p1 hp1 => ?_⟩
  have g1 := Same.new hp1 (.lst (cutV ys none (some ((i : Nat) : Int))))
  refine ⟨_, rfl, _, rfl, _, _, rfl, rfl, _, rfl, l1, _, rfl, g1.seq hS, fun p2 hp2 => ?_⟩
  have e2 : cutV ys (some ((i : Int) + 1)) none = ys.drop (i + 1) := cut_drop ys (i + 1)
  rw [e2]
  rw [cut_take] at hp2 g1 ⊢
  have g2 := Same.new hp2 (.lst (ys.drop (i + 1)))
  refine ⟨p1, p2, ys.take i, ys.drop (i + 1), rfl, rfl, g2 _ _ upd_same, upd_same, small (by rw [List.length_take, List.length_drop]; omega), fun p3 hp3 => ?_⟩
  have g3 := Same.new hp3 (.lst (ys.take i ++ ys.drop (i + 1)))
  have g13 := g1.trans (g2.trans g3)
  refine ⟨_, rfl, _, rfl, p3, y, z, _, rest axs i, x'.1, x'.2, rfl, SqL.of upd_same, ((hA.take i).append (hA.drop (i + 1))).mono g13, hy.mono g13, hz.mono g13, pre, fun H' g' => q _ (g13.trans g')⟩
end
end Ca
namespace Ca
open PySem PySem.Spec PyProof.Rows L2
open Oc (C Axiom)
section
variable {P : Program} {w : World} {K : PySem.W.Frag} {mg : Str → Option Value} {base : Heap} {A : Ads}
/-! ### the service -/
structure SAt (K : PySem.W.Frag) (A : Ads) (H : Hp) (a : Addr) (axs : List Axiom) (dx l : Addr) (ys : List V) : Prop where
  ins : H a = some (.ins A.C_Service dx [(("axioms" : Str), V.ref l)])
  lst : H l = some (.lst ys)
  rep : AReps K H axs ys
theorem SAt.mono {H H' : Hp} {a dx l : Addr} {axs : List Axiom} {ys : List V} (h : SAt K A H a axs dx l ys) (e : Same H H') : SAt K A H' a axs dx l ys := ⟨e _ _ h.ins, e _ _ h.lst, h.rep.mono e⟩
theorem ax_no {l : Addr} {k : Str} (h : (k == ("axioms" : Str)) = false) : ([(("axioms" : Str), V.ref l)] : List (Str × V)).lookup k = none := (lk_past h).trans rfl
def outV (a : Oc01.Ans) : List V := .int a.v :: nV a.l
def OkAns (K : PySem.W.Frag) (A : Ads) (H : Hp) (a la : Addr) (axs' : List Axiom) (Q : VK) (out : List V) : Prop := ∀ H' f dx l ys, SB a H H' → SAt K A H' a axs' dx l ys → (l = la ∨ H l = none) → H f = none → H' f = some (.lst out) → Q (.ref f) H'
theorem OkAns.same {H : Hp} {a dx l : Addr} {axs : List Axiom} {ys : List V} {Q : VK} {out : List V} (h : OkAns K A H a l axs Q out) (s : SAt K A H a axs dx l ys) : ∀ H' f, Same H H' → H f = none → H' f = some (.lst out) → Q (.ref f) H' :=
  fun H' f g hf h' => h H' f dx l ys (SB.of g) (s.mono g) (.inl rfl) hf h'
/-- what an operation does -/
def StepOut (K : PySem.W.Frag) (A : Ads) (H : Hp) (a la : Addr) (axs : List Axiom) (op : Oc01.Call) (Q : VK) (E : XK) : Prop :=
  (∀ c, Oc01.step ⟨axs⟩ op = (⟨axs⟩, Oc01.ok c) → c < 0 → Err A c H E) ∧ (0 ≤ (Oc01.step ⟨axs⟩ op).2.v → OkAns K A H a la (Oc01.step ⟨axs⟩ op).1.axioms Q (outV (Oc01.step ⟨axs⟩ op).2))
def spInitService (K : PySem.W.Frag) (A : Ads) : Sp := fun vs H Q _ => ∃ (a dx : Addr), vs = [.ref a] ∧ H a = some (.ins A.C_Service dx []) ∧ ∀ H' l, SB a H H' → SAt K A H' a [] dx l [] → Q .non H'
theorem ok_initService (T : Txt K mg A) : FnOk P w K mg base CX0 1 A.a_initService A.d_initService ["self"] (spInitService K A) := by
  refine T.f_initService.ok sc_initService (fun vs H Q E h => ?_) (fun cdv A' outer s H vs Q E hr h => ?_)
  · obtain ⟨_, _, rfl, _⟩ := h
    rfl
  obtain ⟨a, dx, rfl, ha, q⟩ := h
  refine ⟨_, (pss_one (ps_fld (pv 0) (pe_lst pa_nil) rfl)), ?_⟩
  refine ⟨sz0, fun l hl => ?_⟩
  have g1 := Same.new hl (.lst [])
  have n : l ≠ a := fun e => by rw [e, ha] at hl; cases hl
  refine ⟨_, rfl, a, _, _, _, rfl, g1 _ _ ha, T.cl_Service, T.n_axioms, by show 0 < 1000; decide, ?_⟩
  exact q _ l ((SB.of g1).trans (SB.upd a _ _)) ⟨upd_same, by rw [upd_ne n, upd_same], trivial⟩
def spWantFew (K : PySem.W.Frag) (A : Ads) : Sp := fun vs H Q E => ∃ (a t dx l : Addr) (axs : List Axiom) (ys xs : List V) (cs : List C), vs = [.ref a, .ref t] ∧ SAt K A H a axs dx l ys ∧ House axs ∧ SqT K H t xs ∧ CReps K H cs xs ∧ (∀ c ∈ cs, Sm c) ∧ cs.length ≤ 2 ∧
  ((Oc.atomsFor axs cs).length ≤ 6 → ∀ H', Same H H' → Q .non H') ∧ (¬ (Oc.atomsFor axs cs).length ≤ 6 → Err A (-7) H E)
theorem ok_want_few_atoms (T : Txt K mg A) : FnOk P w K mg base (L2.CX P w) 45 A.a_want_few_atoms A.d_want_few_atoms ["self", "concepts"] (spWantFew K A) := by
  refine T.f_want_few_atoms.okX sc_want_few_atoms (fun vs H Q E h => ?_) (fun cdv A' outer s H vs Q E hr h => ?_)
  · obtain ⟨_, _, _, _, _, _, _, _, rfl, _⟩ := h
    rfl
  obtain ⟨a, t, dx, l, axs, ys, xs, cs, rfl, hs, hh, ht, hx, hsm, hcl, q1, q2⟩ := h
  refine ⟨_, (pss_one (ps_expr (pe_call (ok_want T) (hr.mono (by omega)) (by rfl) T.g_want T.f_want.kp T.b_want .nil (passes_call (takes_of rfl rfl rfl rfl) (fun _ _ _ _ h => h)) (by exact (pa_cons (pe_cmpR op_le (pe_callB call_len_seq (by rfl) T.z_len PySem.boot_len (pa_cons (pe_call (ok_atoms_of T) (hr.mono (by omega)) (by rfl) T.g_atoms_of T.f_atoms_of.kp T.b_atoms_of .nil pass0 (by exact (pa_cons (pe_op op_cat (pe_call (ok_concepts_of T) (hr.mono (by omega)) (by rfl) T.g_concepts_of T.f_concepts_of.kp T.b_concepts_of .nil pass0 (by exact (pa_cons (pe_fld (pv 0) rfl) pa_nil))) (pe_callTy call_list_of (by rfl) T.z_list (by decide +kernel) (pa_cons (pv 1) pa_nil))) pa_nil))) pa_nil)) (pe_glob (v := .int (6)) rfl T.g_MOST_ATOMS ⟨_, rfl⟩) (nomark _)) (pa_cons (pe_glob (v := .int (-7)) rfl T.g_TOO_MANY ⟨_, rfl⟩) pa_nil)))))), ?_⟩
  refine ⟨_, rfl, a, _, _, _, _, rfl, hs.ins, T.cl_Service, T.n_axioms, lk_here, l, ys, axs, rfl, SqL.of hs.lst, hs.rep, by have := hh.len; omega, fun H1 f1 v1 g1 hf1 h1 hc1 => ?_⟩
  refine ⟨_, rfl, t, xs, rfl, .inr (g1.seqT ht), fun f2 hf2 => ?_⟩
  have g2 := Same.new hf2 (.lst xs)
  have lc1 := hc1.length
  have lc2 := hx.length
  rw [axc_len] at lc1
  have := hh.len
  refine ⟨f1, f2, v1, xs, rfl, rfl, g2 _ _ h1, upd_same, small (by omega), fun f3 hf3 => ?_⟩
  have g3 := Same.new hf3 (.lst (v1 ++ xs))
  have g13 := g1.trans (g2.trans g3)
  refine ⟨f3, v1 ++ xs, axc axs ++ cs, rfl, SqL.of upd_same, (hc1.mono (g2.trans g3)).append (hx.mono g13), fun c hc => ?_, by rw [List.length_append, axc_len]; omega, fun H4 la zs g4 hla h4 hx4 => ?_⟩
  · rcases List.mem_append.mp hc with hc | hc
    · unfold axc at hc
      obtain ⟨y, hy, hc⟩ := List.mem_flatMap.mp hc
      simp at hc
      rcases hc with rfl | rfl
      · exact (hh.sm y hy).1.ok
      · exact (hh.sm y hy).2.ok
    · exact (hsm c hc).ok
  have lz := hx4.length
  have e : Oc.atomsOf (axc axs ++ cs) = Oc.atomsFor axs cs := rfl
  rw [e] at lz
  refine ⟨la, zs, rfl, .inl (SqL.of h4), _, _, rfl, rfl, _, _, rfl, fun hb => ?_, fun hb => ?_⟩
  · have := of_decide_eq_true hb
    exact q1 (by omega) _ (g13.trans g4)
  · have := of_decide_eq_false hb
    exact (q2 (by omega)).mono (g13.trans g4)
def spToldConcepts (K : PySem.W.Frag) (A : Ads) : Sp := fun vs H Q E => ∃ (a nl dx la : Addr) (axs : List Axiom) (ys : List V) (l : List Nat) (k : Nat), vs = [.ref a, .ref nl, .int (k : Int)] ∧ SAt K A H a axs dx la ys ∧ House axs ∧ SqL K H nl (nV l) ∧ l.length ≤ 30 ∧ k ≤ 2 ∧
  ((∀ cs, readMany 31 k l ≠ some (cs, [])) → Err A (-1) H E) ∧
  (∀ cs, readMany 31 k l = some (cs, []) → (¬ (Oc.atomsFor axs cs).length ≤ 6 → Err A (-7) H E) ∧ ((Oc.atomsFor axs cs).length ≤ 6 → ∀ H' u xs, Same H H' → SqT K H' u xs → CReps K H' cs xs → Q (.ref u) H'))
theorem rm_sm {l : List Nat} {k : Nat} {cs : List C} {r : List Nat} (hl : l.length ≤ 30) (h : readMany 31 k l = some (cs, r)) : ∀ c ∈ cs, Sm c := fun c hc => by
  have g := (rm_got h).2 c hc
  exact ⟨by omega, g.2.1, by omega⟩
theorem ok_told_concepts (T : Txt K mg A) : FnOk P w K mg base (L2.CX P w) 70 A.a_told_concepts A.d_told_concepts ["self", "numbers", "many"] (spToldConcepts K A) := by
  refine T.f_told_concepts.okX sc_told_concepts (fun vs H Q E h => ?_) (fun cdv A' outer s H vs Q E hr h => ?_)
  · obtain ⟨_, _, _, _, _, _, _, _, rfl, _⟩ := h
    rfl
  obtain ⟨a, nl, dx, la, axs, ys, l, k, rfl, hs, hh, hS, hl, hk, q1, q2⟩ := h
  refine ⟨_, (pss_cons (ps_set (i := 3) sc_told_concepts.nd rfl (Or.inl rfl) (pe_call (ok_read_concepts T) (hr.mono (by omega)) (by rfl) T.g_read_concepts T.f_read_concepts.kp T.b_read_concepts .nil (passes_call (takes_of rfl rfl rfl rfl) (fun _ _ _ _ h => h)) (by exact (pa_cons (pv 1) (pa_cons (pv 2) pa_nil)))))
    (pss_cons (ps_expr (pe_meth (pv 0) T.cl_Service T.m_want_few_atoms (ok_want_few_atoms T) (hr.mono (by omega)) T.b_want_few_atoms .nil (passes_call (takes_of rfl rfl rfl rfl) (fun _ _ _ _ h => h)) (by exact (pa_cons (pv 3) pa_nil))))
    (pss_one (ps_ret (pv 3))))), ?_⟩
  refine ⟨_, rfl, _, rfl, nl, l, k, rfl, hS, hl, hk, q1, fun cs hcs H1 u xs g1 hu hx => ?_⟩
  obtain ⟨qa, qb⟩ := q2 cs hcs
  refine ⟨_, rfl, a, _, _, rfl, (hs.mono g1).ins, ax_no (by decide +kernel), _, rfl, a, u, dx, la, axs, ys, xs, cs, rfl, hs.mono g1, hh, hu, hx, rm_sm hl hcs, by rw [rm_len hcs]; exact hk, fun h6 H2 g2 => ?_, fun h6 => (qa h6).mono g1⟩
  exact ⟨_, rfl, qb h6 _ u xs (g1.trans g2) (g2.seqT hu) (hx.mono g2)⟩
def spBegins (K : PySem.W.Frag) (A : Ads) : Sp := fun vs H Q E => ∃ (a dx la : Addr) (axs : List Axiom) (ys : List V), vs = [.ref a] ∧ SAt K A H a axs dx la ys ∧ OkAns K A H a la [] Q [.int 0]
theorem ok_begins (T : Txt K mg A) : FnOk P w K mg base CX0 1 A.a_begins A.d_begins ["self"] (spBegins K A) := by
  refine T.f_begins.ok sc_begins (fun vs H Q E h => ?_) (fun cdv A' outer s H vs Q E hr h => ?_)
  · obtain ⟨_, _, _, _, _, rfl, _⟩ := h
    rfl
  obtain ⟨a, dx, la, axs, ys, rfl, hs, q⟩ := h
  refine ⟨_, (pss_cons (ps_fld (pv 0) (pe_lst pa_nil) rfl)
    (pss_one (ps_ret (pe_lst (pa_cons pe_int pa_nil))))), ?_⟩
  refine ⟨sz0, fun l hl => ?_⟩
  have g1 := Same.new hl (.lst [])
  have n : l ≠ a := fun e => by rw [e, hs.ins] at hl; cases hl
  refine ⟨_, rfl, a, _, _, _, rfl, g1 _ _ hs.ins, T.cl_Service, T.n_axioms, by show 1 < 1000; decide, ?_⟩
  rw [put_here]
  refine ⟨sz1, fun f hf => ?_⟩
  have g2 := Same.new hf (.lst [.int 0])
  have s1 : SB a H (upd (upd H l (.lst [])) a (.ins A.C_Service dx [(("axioms" : Str), V.ref l)])) := (SB.of g1).trans (SB.upd a _ _)
  have hfH : H f = none := by
    cases e : H f with
    | none => rfl
    | some u =>
      by_cases ef : f = a
      · rw [ef, upd_same] at hf; cases hf
      · rw [s1 _ _ e ef] at hf; cases hf
  refine q _ f dx l [] (s1.trans (SB.of g2)) ⟨g2 _ _ upd_same, g2 _ _ (by rw [upd_ne n, upd_same]), trivial⟩ (.inr hl) hfH upd_same
theorem sb_free {a f : Addr} {H H' : Hp} {u : HO} (s : SB a H H') (ha : H' a = some u) (hf : H' f = none) : H f = none := by
  cases e : H f with
  | none => rfl
  | some u' =>
    by_cases ef : f = a
    · rw [ef, ha] at hf; cases hf
    · rw [s _ _ e ef] at hf; cases hf
def spLine (K : PySem.W.Frag) (A : Ads) : Sp := fun vs H Q E => ∃ (a nl dx la : Addr) (axs : List Axiom) (ys : List V) (l : List Nat), vs = [.ref a, .ref nl] ∧ SAt K A H a axs dx la ys ∧ House axs ∧ SqL K H nl (nV l) ∧ l.length ≤ 30 ∧ StepOut K A H a la axs (.line l) Q E
theorem ok_line (T : Txt K mg A) : FnOk P w K mg base (L2.CX P w) 70 A.a_line A.d_line ["self", "numbers"] (spLine K A) := by
  refine T.f_line.okX sc_line (fun vs H Q E h => ?_) (fun cdv A' outer s H vs Q E hr h => ?_)
  · obtain ⟨_, _, _, _, _, _, _, rfl, _⟩ := h
    rfl
  obtain ⟨a, nl, dx, la, axs, ys, l, rfl, hs, hh, hS, hl, qe, qo⟩ := h
  refine ⟨_, (pss_cons (ps_set (i := 2) sc_line.nd rfl (Or.inl rfl) (pe_call (ok_read_concepts T) (hr.mono (by omega)) (by rfl) T.g_read_concepts T.f_read_concepts.kp T.b_read_concepts .nil (passes_call (takes_of rfl rfl rfl rfl) (fun _ _ _ _ h => h)) (by exact (pa_cons (pv 1) (pa_cons pe_int pa_nil)))))
    (pss_cons (ps_expr (pe_call (ok_want T) (hr.mono (by omega)) (by rfl) T.g_want T.f_want.kp T.b_want .nil (passes_call (takes_of rfl rfl rfl rfl) (fun _ _ _ _ h => h)) (by exact (pa_cons (pe_cmpR op_lt (pe_callB call_len_seq (by rfl) T.z_len PySem.boot_len (pa_cons (pe_fld (pv 0) rfl) pa_nil)) (pe_glob (v := .int (6)) rfl T.g_MOST_AXIOMS ⟨_, rfl⟩) (nomark _)) (pa_cons (pe_glob (v := .int (-7)) rfl T.g_TOO_MANY ⟨_, rfl⟩) pa_nil)))))
    (pss_cons (ps_expr (pe_meth (pv 0) T.cl_Service T.m_want_few_atoms (ok_want_few_atoms T) (hr.mono (by omega)) T.b_want_few_atoms .nil (passes_call (takes_of rfl rfl rfl rfl) (fun _ _ _ _ h => h)) (by exact (pa_cons (pv 2) pa_nil))))
    (pss_cons (ps_fld (pv 0) (pe_op op_cat (pe_fld (pv 0) rfl) (pe_lst (pa_cons (pv 2) pa_nil))) rfl)
    (pss_one (ps_ret (pe_lst (pa_cons (pe_op op_sub (pe_callB call_len_seq (by rfl) T.z_len PySem.boot_len (pa_cons (pe_fld (pv 0) rfl) pa_nil)) pe_int) pa_nil)))))))), ?_⟩
  have yl := hs.rep.length
  rw [step_line] at qe qo
  refine ⟨_, rfl, nl, l, 2, rfl, hS, hl, by decide, fun hno => ?_, fun cs hcs H1 u xs g1 hu hx => ?_⟩
  · exact qe (-1) (by rw [two_none hl hno]) (by decide)
  obtain ⟨c, d, rfl, e2, sc, sd⟩ := two_some hl hcs
  rw [e2] at qe qo
  dsimp only at qe qo
  have hs1 := hs.mono g1
  refine ⟨_, rfl, a, _, _, _, _, rfl, hs1.ins, T.cl_Service, T.n_axioms, lk_here, la, _, rfl, .inl (SqL.of hs1.lst), _, _, rfl, rfl, _, _, rfl, fun hb => ?_, fun hb => ?_⟩
  case refine_2 =>
    have hb' := of_decide_eq_false hb
    refine (qe (-7) ?_ (by decide)).mono g1
    rw [if_pos (.inl (show axs.length = 6 by have := hh.len; omega))]
  have hb' := of_decide_eq_true hb
  have n6 : ¬ axs.length = Oc01.AXIOMS := fun e => by
    have : Oc01.AXIOMS = 6 := rfl
    omega
  refine ⟨_, rfl, a, _, _, rfl, hs1.ins, ax_no (by decide +kernel), _, rfl, a, u, dx, la, axs, ys, xs, [c, d], rfl, hs1, hh, hu, hx, fun z hz => ?_, by simp, fun h6 H2 g2 => ?_, fun h6 => ?_⟩
  · simp at hz
    rcases hz with rfl | rfl
    · exact sc
    · exact sd
  · have hs2 := hs1.mono g2
    have cond : ¬ (axs.length = Oc01.AXIOMS ∨ Oc01.much ⟨axs⟩ [c, d] = true) := fun z => by
      rcases z with z | z
      · exact n6 z
      · exact (much_iff.mp z) h6
    rw [if_neg cond] at qo
    have q' := qo (by show (0 : Int) ≤ (axs.length : Nat); omega)
    refine ⟨_, rfl, a, _, _, _, _, rfl, hs2.ins, T.cl_Service, T.n_axioms, lk_here, _, rfl, sz1, fun p1 hp1 => ?_⟩
    have g3 := Same.new hp1 (.lst [.ref u])
    refine ⟨la, p1, ys, [.ref u], rfl, rfl, (hs2.mono g3).lst, upd_same, small (by rw [List.length_singleton]; have := hh.len; omega), fun p2 hp2 => ?_⟩
    have g4 := Same.new hp2 (.lst (ys ++ [.ref u]))
    have g24 := g2.trans (g3.trans g4)
    have hs4 := hs1.mono g24
    have n : p2 ≠ a := fun e => by rw [e, (hs2.mono g3).ins] at hp2; cases hp2
    refine ⟨_, rfl, a, _, _, _, rfl, hs4.ins, T.cl_Service, T.n_axioms, by show 1 < 1000; decide, ?_⟩
    rw [put_here]
    generalize hH5 : upd (upd H2 p1 (.lst [.ref u])) p2 (.lst (ys ++ [.ref u])) = H5 at g4 g24 hs4 ⊢
    have h5p : H5 p2 = some (.lst (ys ++ [.ref u])) := by rw [← hH5]; exact upd_same
    have t6 : TSame H5 (upd H5 a (.ins A.C_Service dx [(("axioms" : Str), V.ref p2)])) := TSame.ins hs4.ins _
    have s6 : SB a H (upd H5 a (.ins A.C_Service dx [(("axioms" : Str), V.ref p2)])) := (SB.of (g1.trans g24)).trans (SB.upd a _ _)
    have hxy : ∃ y z, xs = [y, z] ∧ CRep K H1 c y ∧ CRep K H1 d z := by
      match xs, hx with
      | [y, z], hx => exact ⟨y, z, rfl, hx.1, hx.2.1⟩
    obtain ⟨y, z, rfl, hy, hz⟩ := hxy
    have sa6 : SAt K A (upd H5 a (.ins A.C_Service dx [(("axioms" : Str), V.ref p2)])) a (axs ++ [(c, d)]) dx p2 (ys ++ [.ref u]) := by
      refine ⟨upd_same, by rw [upd_ne n]; exact h5p, (hs4.rep.tmono t6).append ⟨⟨u, y, z, rfl, t6.seqT (g24.seqT hu), (hy.mono g24).tmono t6, (hz.mono g24).tmono t6⟩, trivial⟩⟩
    refine ⟨_, rfl, a, _, _, _, _, rfl, upd_same, T.cl_Service, T.n_axioms, lk_here, p2, _, rfl, .inl (SqL.of sa6.lst), _, _, rfl, rfl, sz1, fun f hf => ?_⟩
    have g7 := Same.new hf (.lst [.int ((((ys ++ [V.ref u]).length : Nat) : Int) - 1)])
    refine q' _ f dx p2 _ (s6.trans (SB.of g7)) (sa6.mono g7) (.inr (((g1.trans g2).trans g3).free hp2)) (sb_free s6 sa6.ins hf) ?_
    show upd _ f (.lst [.int ((((ys ++ [V.ref u]).length : Nat) : Int) - 1)]) f = some (.lst [.int ((axs.length : Nat) : Int)])
    rw [upd_same, List.length_append, List.length_singleton, yl]
    have : (((axs.length + 1 : Nat) : Int) - 1) = ((axs.length : Nat) : Int) := by omega
    rw [this]
  · refine ((qe (-7) ?_ (by decide))).mono g1
    rw [if_pos (.inr (much_iff.mpr h6))]
def spDrop (K : PySem.W.Frag) (A : Ads) : Sp := fun vs H Q E => ∃ (a dx la : Addr) (axs : List Axiom) (ys : List V) (i : Nat), vs = [.ref a, .int (i : Int)] ∧ SAt K A H a axs dx la ys ∧ House axs ∧ StepOut K A H a la axs (.drop i) Q E
theorem ok_drop (T : Txt K mg A) : FnOk P w K mg base (L2.CX P w) 5 A.a_drop A.d_drop ["self", "index"] (spDrop K A) := by
  refine T.f_drop.okX sc_drop (fun vs H Q E h => ?_) (fun cdv A' outer s H vs Q E hr h => ?_)
  · obtain ⟨_, _, _, _, _, _, rfl, _⟩ := h
    rfl
  obtain ⟨a, dx, la, axs, ys, i, rfl, hs, hh, qe, qo⟩ := h
  refine ⟨_, (pss_cons (ps_expr (pe_call (ok_want T) (hr.mono (by omega)) (by rfl) T.g_want T.f_want.kp T.b_want .nil (passes_call (takes_of rfl rfl rfl rfl) (fun _ _ _ _ h => h)) (by exact (pa_cons (pe_cmpR op_lt (pv 1) (pe_callB call_len_seq (by rfl) T.z_len PySem.boot_len (pa_cons (pe_fld (pv 0) rfl) pa_nil)) (nomark _)) (pa_cons (pe_glob (v := .int (-2)) rfl T.g_NO_AXIOM ⟨_, rfl⟩) pa_nil)))))
    (pss_cons (ps_fld (pv 0) (pe_op op_cat (pe_slice sl_list (pe_fld (pv 0) rfl) po_none (po_some (pv 1))) (pe_slice sl_list (pe_fld (pv 0) rfl) (po_some (pe_op op_add (pv 1) pe_int)) po_none)) rfl)
    (pss_one (ps_ret (pe_lst (pa_cons (pe_callB call_len_seq (by rfl) T.z_len PySem.boot_len (pa_cons (pe_fld (pv 0) rfl) pa_nil)) pa_nil)))))), ?_⟩
  have yl := hs.rep.length
  rw [step_drop] at qe qo
  refine ⟨_, rfl, _, rfl, a, _, _, _, _, rfl, hs.ins, T.cl_Service, T.n_axioms, lk_here, la, _, rfl, .inl (SqL.of hs.lst), _, _, rfl, rfl, _, _, rfl, fun hb => ?_, fun hb => ?_⟩
  case refine_2 =>
    have hb' := of_decide_eq_false hb
    refine qe (-2) ?_ (by decide)
    rw [if_pos (by omega)]
  have hb' := of_decide_eq_true hb
  rw [if_neg (show ¬ axs.length ≤ i by omega)] at qo
  have q' := qo (by show (0 : Int) ≤ ((axs.length - 1 : Nat) : Int); omega)
  refine ⟨_, rfl, a, _, _, _, _, rfl, hs.ins, T.cl_Service, T.n_axioms, lk_here, _, rfl, _, rfl, la, _, rfl, SqL.of hs.lst, fun p1 hp1 => ?_⟩
  rw [cut_take]
  have g1 := Same.new hp1 (.lst (ys.take i))
  have hs1 := hs.mono g1
  refine ⟨_, rfl, a, _, _, _, _, rfl, hs1.ins, T.cl_Service, T.n_axioms, lk_here, _, rfl, _, _, rfl, rfl, _, rfl, la, _, rfl, SqL.of hs1.lst, fun p2 hp2 => ?_⟩
  have e2 : cutV ys (some ((i : Int) + 1)) none = ys.drop (i + 1) := cut_drop ys (i + 1)
  rw [e2]
  have g2 := Same.new hp2 (.lst (ys.drop (i + 1)))
  refine ⟨p1, p2, ys.take i, ys.drop (i + 1), rfl, rfl, g2 _ _ upd_same, upd_same, small (by have := hh.len; rw [List.length_take, List.length_drop]; omega), fun p3 hp3 => ?_⟩
  have g3 := Same.new hp3 (.lst (ys.take i ++ ys.drop (i + 1)))
  have hs3 := hs1.mono (g2.trans g3)
  have n : p3 ≠ a := fun e => by rw [e, (hs1.mono g2).ins] at hp3; cases hp3
  refine ⟨_, rfl, a, _, _, _, rfl, hs3.ins, T.cl_Service, T.n_axioms, by show 1 < 1000; decide, ?_⟩
  rw [put_here]
  generalize hH5 : upd (upd (upd H p1 (.lst (ys.take i))) p2 (.lst (ys.drop (i + 1)))) p3 (.lst (ys.take i ++ ys.drop (i + 1))) = H5 at g3 hs3 ⊢
  have h5p : H5 p3 = some (.lst (ys.take i ++ ys.drop (i + 1))) := by rw [← hH5]; exact upd_same
  have t6 : TSame H5 (upd H5 a (.ins A.C_Service dx [(("axioms" : Str), V.ref p3)])) := TSame.ins hs3.ins _
  have s6 : SB a H (upd H5 a (.ins A.C_Service dx [(("axioms" : Str), V.ref p3)])) := (SB.of (g1.trans (g2.trans g3))).trans (SB.upd a _ _)
  have sa6 : SAt K A (upd H5 a (.ins A.C_Service dx [(("axioms" : Str), V.ref p3)])) a (axs.take i ++ axs.drop (i + 1)) dx p3 (ys.take i ++ ys.drop (i + 1)) :=
    ⟨upd_same, by rw [upd_ne n]; exact h5p, ((hs3.rep.take i).append (hs3.rep.drop (i + 1))).tmono t6⟩
  refine ⟨_, rfl, a, _, _, _, _, rfl, upd_same, T.cl_Service, T.n_axioms, lk_here, p3, _, rfl, .inl (SqL.of sa6.lst), sz1, fun f hf => ?_⟩
  have g7 := Same.new hf (.lst [.int (((ys.take i ++ ys.drop (i + 1)).length : Nat) : Int)])
  refine q' _ f dx p3 _ (s6.trans (SB.of g7)) (sa6.mono g7) (.inr ((g1.trans g2).free hp3)) (sb_free s6 sa6.ins hf) ?_
  show upd _ f (.lst [.int (((ys.take i ++ ys.drop (i + 1)).length : Nat) : Int)]) f = some (.lst [.int ((axs.length - 1 : Nat) : Int)])
  rw [upd_same, List.length_append, List.length_take, List.length_drop, yl]
  have : min i axs.length + (axs.length - (i + 1)) = axs.length - 1 := by omega
  rw [this]
end
end Ca
namespace Ca
open PySem PySem.Spec PyProof.Rows L2
open Oc (C Axiom)
section
variable {P : Program} {w : World} {K : PySem.W.Frag} {mg : Str → Option Value} {base : Heap} {A : Ads}
theorem preK_of {axs : List Axiom} {cs : List C} (hh : House axs) (hs : ∀ c ∈ cs, Sm c) (hl : cs.length ≤ 2) (h6 : (Oc.atomsFor axs cs).length ≤ 6) : PreK axs cs := by
  refine ⟨hh.len, by omega, fun c hc => ?_, h6⟩
  rcases List.mem_append.mp hc with hc | hc
  · unfold axc at hc
    obtain ⟨y, hy, hc⟩ := List.mem_flatMap.mp hc
    simp at hc
    rcases hc with rfl | rfl
    · exact (hh.sm y hy).1.ok
    · exact (hh.sm y hy).2.ok
  · exact (hs c hc).ok
theorem CReps.get1 {H : Hp} {c : C} {xs : List V} (h : CReps K H [c] xs) : ∃ y, xs = [y] ∧ CRep K H c y := by
  match xs, h with
  | [y], h => exact ⟨y, rfl, h.1⟩
theorem CReps.get2 {H : Hp} {c d : C} {xs : List V} (h : CReps K H [c, d] xs) : ∃ y z, xs = [y, z] ∧ CRep K H c y ∧ CRep K H d z := by
  match xs, h with
  | [y, z], h => exact ⟨y, z, rfl, h.1, h.2.1⟩
def spOp (K : PySem.W.Frag) (A : Ads) (op : List Nat → Oc01.Call) : Sp := fun vs H Q E => ∃ (a nl dx la : Addr) (axs : List Axiom) (ys : List V) (l : List Nat), vs = [.ref a, .ref nl] ∧ SAt K A H a axs dx la ys ∧ House axs ∧ SqL K H nl (nV l) ∧ l.length ≤ 30 ∧ StepOut K A H a la axs (op l) Q E
theorem ok_can (T : Txt K mg A) : FnOk P w K mg base (L2.CX P w) 72 A.a_can A.d_can ["self", "numbers"] (spOp K A .can) := by
  refine T.f_can.okX sc_can (fun vs H Q E h => ?_) (fun cdv A' outer s H vs Q E hr h => ?_)
  · obtain ⟨_, _, _, _, _, _, _, rfl, _⟩ := h
    rfl
  obtain ⟨a, nl, dx, la, axs, ys, l, rfl, hs, hh, hS, hl, qe, qo⟩ := h
  refine ⟨_, (pss_cons (ps_set (i := 2) sc_can.nd rfl (Or.inl rfl) (pe_ix ix_tup (pe_meth (pv 0) T.cl_Service T.m_told_concepts (ok_told_concepts T) (hr.mono (by omega)) T.b_told_concepts .nil (passes_call (takes_of rfl rfl rfl rfl) (fun _ _ _ _ h => h)) (by exact (pa_cons (pv 1) (pa_cons pe_int pa_nil)))) pe_int (fun _ _ => rfl)))
    (pss_one (ps_ret (pe_lst (pa_cons (pe_callTy call_int1 (by rfl) T.z_int (by decide +kernel) (pa_cons (pe_call (ok_is_possible T) (hr.mono (by omega)) (by rfl) T.g_is_possible T.f_is_possible.kp T.b_is_possible .nil pass0 (by exact (pa_cons (pe_fld (pv 0) rfl) (pa_cons (pv 2) pa_nil)))) pa_nil)) pa_nil))))), ?_⟩
  rw [step_can] at qe qo
  refine ⟨_, rfl, a, _, _, rfl, hs.ins, ax_no (by decide +kernel), _, rfl, a, nl, dx, la, axs, ys, l, 1, rfl, hs, hh, hS, hl, by decide, fun hno => ?_, fun cs hcs => ?_⟩
  · exact qe (-1) (by rw [concept_none hl hno]) (by decide)
  obtain ⟨c, rfl, e1, sc⟩ := concept_some hl hcs
  rw [e1] at qe qo
  dsimp only at qe qo
  refine ⟨fun h6 => qe (-7) (by rw [if_pos (much_iff.mpr h6)]) (by decide), fun h6 H1 u xs g1 hu hx => ?_⟩
  rw [if_neg (fun z => (much_iff.mp z) h6)] at qo
  have q' := (qo (by show (0 : Int) ≤ (_ : Nat); omega)).same hs
  obtain ⟨y, rfl, hy⟩ := hx.get1
  have hs1 := hs.mono g1
  have pre := preK_of hh (cs := [c]) (by simpa using sc) (by simp) h6
  refine ⟨u, _, _, _, rfl, rfl, hu, atI_nat (j := 0) rfl, ?_⟩
  refine ⟨_, rfl, a, _, _, _, _, rfl, hs1.ins, T.cl_Service, T.n_axioms, lk_here, _, rfl, la, y, ys, axs, c, rfl, SqL.of hs1.lst, hs1.rep, hy, pre, fun H2 g2 => .inr ⟨_, rfl, sz1, fun f hf => ?_⟩⟩
  have g3 := Same.new hf (.lst [.int (if Oc.can axs c then (1 : Int) else 0)])
  refine q' _ f (g1.trans (g2.trans g3)) ((g1.trans g2).free hf) ?_
  rw [upd_same, flag_int]
  rfl
theorem ok_under (T : Txt K mg A) : FnOk P w K mg base (L2.CX P w) 72 A.a_under A.d_under ["self", "numbers"] (spOp K A .under) := by
  refine T.f_under.okX sc_under (fun vs H Q E h => ?_) (fun cdv A' outer s H vs Q E hr h => ?_)
  · obtain ⟨_, _, _, _, _, _, _, rfl, _⟩ := h
    rfl
  obtain ⟨a, nl, dx, la, axs, ys, l, rfl, hs, hh, hS, hl, qe, qo⟩ := h
  refine ⟨_, (pss_cons (ps_asg (pe_meth (pv 0) T.cl_Service T.m_told_concepts (ok_told_concepts T) (hr.mono (by omega)) T.b_told_concepts .nil (passes_call (takes_of rfl rfl rfl rfl) (fun _ _ _ _ h => h)) (by exact (pa_cons (pv 1) (pa_cons pe_int pa_nil)))) (pg_tup rfl (pgs_cons (pg_name (i := 2) sc_under.nd rfl (Or.inl rfl)) (pgs_cons (pg_name (i := 3) sc_under.nd rfl (Or.inl rfl)) pgs_nil))))
    (pss_one (ps_ret (pe_lst (pa_cons (pe_callTy call_int1 (by rfl) T.z_int (by decide +kernel) (pa_cons (pe_call (ok_is_subsumed T) (hr.mono (by omega)) (by rfl) T.g_is_subsumed T.f_is_subsumed.kp T.b_is_subsumed .nil pass0 (by exact (pa_cons (pe_fld (pv 0) rfl) (pa_cons (pv 2) (pa_cons (pv 3) pa_nil))))) pa_nil)) pa_nil))))), ?_⟩
  rw [step_under] at qe qo
  refine ⟨_, rfl, a, _, _, rfl, hs.ins, ax_no (by decide +kernel), _, rfl, a, nl, dx, la, axs, ys, l, 2, rfl, hs, hh, hS, hl, by decide, fun hno => ?_, fun cs hcs => ?_⟩
  · exact qe (-1) (by rw [two_none hl hno]) (by decide)
  obtain ⟨c, d, rfl, e1, sc, sd⟩ := two_some hl hcs
  rw [e1] at qe qo
  dsimp only at qe qo
  refine ⟨fun h6 => qe (-7) (by rw [if_pos (much_iff.mpr h6)]) (by decide), fun h6 H1 u xs g1 hu hx => ?_⟩
  rw [if_neg (fun z => (much_iff.mp z) h6)] at qo
  have q' := (qo (by show (0 : Int) ≤ (_ : Nat); omega)).same hs
  obtain ⟨y, z, rfl, hy, hz⟩ := hx.get2
  have hs1 := hs.mono g1
  have pre2 := preK_of hh (cs := [c, d]) (by intro x hx'; simp at hx'; rcases hx' with rfl | rfl; exact sc; exact sd) (by simp) h6
  have pre := (pre_alone pre2 sc.dep sd.dep sc.ats sd.ats).1
  refine ⟨u, _, rfl, hu, rfl, _, _, rfl, _, _, rfl, rfl, ?_⟩
  refine ⟨_, rfl, a, _, _, _, _, rfl, hs1.ins, T.cl_Service, T.n_axioms, lk_here, _, rfl, _, rfl, la, y, z, ys, axs, c, d, rfl, SqL.of hs1.lst, hs1.rep, hy, hz, pre, fun H2 g2 => .inr ⟨_, rfl, sz1, fun f hf => ?_⟩⟩
  have g3 := Same.new hf (.lst [.int (if Oc.under axs c d then (1 : Int) else 0)])
  refine q' _ f (g1.trans (g2.trans g3)) ((g1.trans g2).free hf) ?_
  rw [upd_same, flag_int]
  rfl
/-- reported -/
def spReported (K : PySem.W.Frag) (A : Ads) : Sp := fun vs H Q E => ∃ (a dx la : Addr) (v : V) (axs : List Axiom) (ys : List V) (c : C), vs = [.ref a, v] ∧ SAt K A H a axs dx la ys ∧ CRep K H c v ∧ PreK axs [c] ∧
  (Oc01.told (Oc01.model axs c) = Oc01.ok (-6) → Err A (-6) H E) ∧ (0 ≤ (Oc01.told (Oc01.model axs c)).v → ∀ H' f, Same H H' → H f = none → H' f = some (.lst (outV (Oc01.told (Oc01.model axs c)))) → Q (.ref f) H')
theorem ok_reported (T : Txt K mg A) : FnOk P w K mg base (L2.CX P w) 62 A.a_reported A.d_reported ["self", "concept"] (spReported K A) := by
  refine T.f_reported.okX sc_reported (fun vs H Q E h => ?_) (fun cdv A' outer s H vs Q E hr h => ?_)
  · obtain ⟨_, _, _, _, _, _, _, rfl, _⟩ := h
    rfl
  obtain ⟨a, dx, la, v, axs, ys, c, rfl, hs, hc, pre, qe, qo⟩ := h
  refine ⟨_, (pss_cons (ps_set (i := 2) sc_reported.nd rfl (Or.inl rfl) (pe_call (ok_model_told T) (hr.mono (by omega)) (by rfl) T.g_model_told T.f_model_told.kp T.b_model_told .nil pass0 (by exact (pa_cons (pe_fld (pv 0) rfl) (pa_cons (pv 1) pa_nil)))))
    (pss_cons (ps_expr (pe_call (ok_want T) (hr.mono (by omega)) (by rfl) T.g_want T.f_want.kp T.b_want .nil (passes_call (takes_of rfl rfl rfl rfl) (fun _ _ _ _ h => h)) (by exact (pa_cons (pe_cmpR op_notN (pv 2) pe_non (nomark _)) (pa_cons (pe_glob (v := .int (-6)) rfl T.g_NO_MODEL ⟨_, rfl⟩) pa_nil)))))
    (pss_one (ps_ret (pv 2))))), ?_⟩
  rw [told_model] at qe qo
  refine ⟨_, rfl, a, _, _, _, _, rfl, hs.ins, T.cl_Service, T.n_axioms, lk_here, _, rfl, la, v, ys, axs, c, rfl, SqL.of hs.lst, hs.rep, hc, pre, fun hno H1 g1 => ?_, fun t ht H1 m g1 hm h1 => ?_⟩
  · rw [hno] at qe
    refine ⟨_, rfl, rfl, _, _, rfl, fun hb => ?_, fun _ => ?_⟩
    · cases hb
    · exact (qe rfl).mono g1
  · rw [ht] at qo
    refine ⟨_, rfl, rfl, _, _, rfl, fun _ => ?_, fun hb => ?_⟩
    · refine ⟨_, rfl, qo (by show (0 : Int) ≤ (_ : Nat); omega) _ m g1 hm ?_⟩
      rw [h1]
      rfl
    · cases hb
theorem ok_model (T : Txt K mg A) : FnOk P w K mg base (L2.CX P w) 72 A.a_model A.d_model ["self", "numbers"] (spOp K A .model) := by
  refine T.f_model.okX sc_model (fun vs H Q E h => ?_) (fun cdv A' outer s H vs Q E hr h => ?_)
  · obtain ⟨_, _, _, _, _, _, _, rfl, _⟩ := h
    rfl
  obtain ⟨a, nl, dx, la, axs, ys, l, rfl, hs, hh, hS, hl, qe, qo⟩ := h
  refine ⟨_, (pss_one (ps_ret (pe_meth (pv 0) T.cl_Service T.m_reported (ok_reported T) (hr.mono (by omega)) T.b_reported .nil (passes_call (takes_of rfl rfl rfl rfl) (fun _ _ _ _ h => h)) (by exact (pa_cons (pe_ix ix_tup (pe_meth (pv 0) T.cl_Service T.m_told_concepts (ok_told_concepts T) (hr.mono (by omega)) T.b_told_concepts .nil (passes_call (takes_of rfl rfl rfl rfl) (fun _ _ _ _ h => h)) (by exact (pa_cons (pv 1) (pa_cons pe_int pa_nil)))) pe_int (fun _ _ => rfl)) pa_nil))))), ?_⟩
  rw [step_model] at qe qo
  refine ⟨_, rfl, a, _, _, rfl, hs.ins, ax_no (by decide +kernel), _, rfl, a, _, _, rfl, hs.ins, ax_no (by decide +kernel), _, rfl, a, nl, dx, la, axs, ys, l, 1, rfl, hs, hh, hS, hl, by decide, fun hno => ?_, fun cs hcs => ?_⟩
  · exact qe (-1) (by rw [concept_none hl hno]) (by decide)
  obtain ⟨c, rfl, e1, sc⟩ := concept_some hl hcs
  rw [e1] at qe qo
  dsimp only at qe qo
  refine ⟨fun h6 => qe (-7) (by rw [if_pos (much_iff.mpr h6)]) (by decide), fun h6 H1 u xs g1 hu hx => ?_⟩
  rw [if_neg (fun z => (much_iff.mp z) h6)] at qo qe
  obtain ⟨y, rfl, hy⟩ := hx.get1
  have pre := preK_of hh (cs := [c]) (by simpa using sc) (by simp) h6
  refine ⟨u, _, _, _, rfl, rfl, hu, atI_nat (j := 0) rfl, ?_⟩
  refine ⟨a, dx, la, y, axs, ys, c, rfl, hs.mono g1, hy, pre, fun hm => ?_, fun h0 H2 f g2 hf h2 => ?_⟩
  · exact (qe (-6) (by rw [hm]) (by decide)).mono g1
  · exact (qo h0).same hs _ f (g1.trans g2) (g1.free hf) h2
theorem ok_against (T : Txt K mg A) : FnOk P w K mg base (L2.CX P w) 72 A.a_against A.d_against ["self", "numbers"] (spOp K A .against) := by
  refine T.f_against.okX sc_against (fun vs H Q E h => ?_) (fun cdv A' outer s H vs Q E hr h => ?_)
  · obtain ⟨_, _, _, _, _, _, _, rfl, _⟩ := h
    rfl
  obtain ⟨a, nl, dx, la, axs, ys, l, rfl, hs, hh, hS, hl, qe, qo⟩ := h
  refine ⟨_, (pss_cons (ps_asg (pe_meth (pv 0) T.cl_Service T.m_told_concepts (ok_told_concepts T) (hr.mono (by omega)) T.b_told_concepts .nil (passes_call (takes_of rfl rfl rfl rfl) (fun _ _ _ _ h => h)) (by exact (pa_cons (pv 1) (pa_cons pe_int pa_nil)))) (pg_tup rfl (pgs_cons (pg_name (i := 2) sc_against.nd rfl (Or.inl rfl)) (pgs_cons (pg_name (i := 3) sc_against.nd rfl (Or.inl rfl)) pgs_nil))))
    (pss_one (ps_ret (pe_meth (pv 0) T.cl_Service T.m_reported (ok_reported T) (hr.mono (by omega)) T.b_reported .nil (passes_call (takes_of rfl rfl rfl rfl) (fun _ _ _ _ h => h)) (by exact (pa_cons (pe_call (ok_first_alone T) (hr.mono (by omega)) (by rfl) T.g_first_alone T.f_first_alone.kp T.b_first_alone .nil pass0 (by exact (pa_cons (pv 2) (pa_cons (pv 3) pa_nil)))) pa_nil)))))), ?_⟩
  rw [step_against] at qe qo
  refine ⟨_, rfl, a, _, _, rfl, hs.ins, ax_no (by decide +kernel), _, rfl, a, nl, dx, la, axs, ys, l, 2, rfl, hs, hh, hS, hl, by decide, fun hno => ?_, fun cs hcs => ?_⟩
  · exact qe (-1) (by rw [two_none hl hno]) (by decide)
  obtain ⟨c, d, rfl, e1, sc, sd⟩ := two_some hl hcs
  rw [e1] at qe qo
  dsimp only at qe qo
  refine ⟨fun h6 => qe (-7) (by rw [if_pos (much_iff.mpr h6)]) (by decide), fun h6 H1 u xs g1 hu hx => ?_⟩
  rw [if_neg (fun z => (much_iff.mp z) h6)] at qo qe
  obtain ⟨y, z, rfl, hy, hz⟩ := hx.get2
  have hs1 := hs.mono g1
  have pre2 := preK_of hh (cs := [c, d]) (by intro x hx'; simp at hx'; rcases hx' with rfl | rfl; exact sc; exact sd) (by simp) h6
  have pre := (pre_alone pre2 sc.dep sd.dep sc.ats sd.ats).1
  refine ⟨u, _, rfl, hu, rfl, _, _, rfl, _, _, rfl, rfl, ?_⟩
  refine ⟨_, rfl, a, _, _, rfl, hs1.ins, ax_no (by decide +kernel), _, rfl, _, rfl, y, z, c, d, rfl, hy, hz, fun H2 z2 g2 hz2 => ?_⟩
  refine ⟨a, dx, la, z2, axs, ys, _, rfl, hs1.mono g2, hz2, pre, fun hm => ?_, fun h0 H3 f g3 hf h3 => ?_⟩
  · exact (qe (-6) (by rw [hm]) (by decide)).mono (g1.trans g2)
  · exact (qo h0).same hs _ f (g1.trans (g2.trans g3)) ((g1.trans g2).free hf) h3
/-- names, spare: nothing is raised, nothing is changed -/
def spTell (K : PySem.W.Frag) (A : Ads) (out : List Axiom → List V) : Sp := fun vs H Q _ => ∃ (a dx la : Addr) (axs : List Axiom) (ys : List V), vs = [.ref a] ∧ SAt K A H a axs dx la ys ∧ House axs ∧ ∀ H' f, Same H H' → H f = none → H' f = some (.lst (out axs)) → Q (.ref f) H'
theorem ok_names (T : Txt K mg A) : FnOk P w K mg base CX0 62 A.a_names A.d_names ["self"] (spTell K A fun axs => outV (Oc01.step ⟨axs⟩ .names).2) := by
  refine T.f_names.ok sc_names (fun vs H Q E h => ?_) (fun cdv A' outer s H vs Q E hr h => ?_)
  · obtain ⟨_, _, _, _, _, rfl, _⟩ := h
    rfl
  obtain ⟨a, dx, la, axs, ys, rfl, hs, hh, q⟩ := h
  refine ⟨_, (pss_one (ps_ret (pe_call (ok_names_told T) (hr.mono (by omega)) (by rfl) T.g_names_told T.f_names_told.kp T.b_names_told .nil pass0 (by exact (pa_cons (pe_fld (pv 0) rfl) (pa_cons (pe_op op_add (pe_glob (v := .int (3)) rfl T.g_MOST_NAME ⟨_, rfl⟩) pe_int) pa_nil)))))), ?_⟩
  have pre := preK_of hh (cs := []) (by simp) (by simp) hh.ats
  refine ⟨_, rfl, a, _, _, _, _, rfl, hs.ins, T.cl_Service, T.n_axioms, lk_here, _, _, rfl, rfl, la, 4, ys, axs, rfl, SqL.of hs.lst, hs.rep, pre, by decide, fun H1 f g1 hf h1 => ?_⟩
  refine q _ f g1 hf ?_
  rw [h1]
  rfl
def spareF (axs : List Axiom) (i : Nat) : Bool := match axs[i]? with
  | some a => Oc.under (axs.take i ++ axs.drop (i + 1)) a.1 a.2
  | none => false
theorem step_spare (axs : List Axiom) : Oc01.step ⟨axs⟩ .spare = (⟨axs⟩, ⟨(((List.range axs.length).filter (spareF axs)).length : Nat), (List.range axs.length).filter (spareF axs)⟩) := rfl
theorem ok_spare (T : Txt K mg A) : FnOk P w K mg base CX0 64 A.a_spare A.d_spare ["self"] (spTell K A fun axs => outV (Oc01.step ⟨axs⟩ .spare).2) := by
  refine T.f_spare.ok sc_spare (fun vs H Q E h => ?_) (fun cdv A' outer s H vs Q E hr h => ?_)
  · obtain ⟨_, _, _, _, _, rfl, _⟩ := h
    rfl
  obtain ⟨a, dx, la, axs, ys, rfl, hs, hh, q⟩ := h
  refine ⟨_, (pss_cons (ps_setLc (i := 1) (own := [("index", 2)]) (g := gName 2) rfl sc_spare.nd rfl rfl (sw_true rfl rfl rfl (by decide +kernel)) (pi_range1 (by rfl) T.z_range (pa_cons (pe_callB call_len_seq (by rfl) T.z_len PySem.boot_len (pa_cons (pe_fld (pv 0) rfl) pa_nil)) pa_nil)) (blkOk_by (own := [("index", 2)]) (N := N_spare) (sc := (defScope s_spare)) (by decide +kernel)) (fun _ _ _ _ _ => pg_name (i := 2) sc_spare.nd rfl (Or.inl rfl)) (fun _ _ _ _ _ => by exact (pts_one (pt_val (pe_call (ok_is_spare T) (hr.mono (by omega)) (by rfl) T.g_is_spare T.f_is_spare.kp T.b_is_spare .nil pass0 (by exact (pa_cons (pe_fldK (K := K) rfl (pv 0) rfl) (pa_cons (pv 2) pa_nil))))))) (fun _ _ _ _ _ => by exact (pv 2)))
    (pss_one (ps_ret (pe_op op_cat (pe_lst (pa_cons (pe_callB call_len_seq (by rfl) T.z_len PySem.boot_len (pa_cons (pv 1) pa_nil)) pa_nil)) (pv 1))))), ?_⟩
  have yl := hs.rep.length
  have hlen := hh.len
  refine ⟨_, rfl, a, _, _, _, _, rfl, hs.ins, T.cl_Service, T.n_axioms, lk_here, la, ys, rfl, .inl (SqL.of hs.lst), _, rfl, rlo _, rhi (by omega), fun D hD => ?_⟩
  refine lc_range (lo := 0) (n := ((ys.length : Nat) : Int).toNat) (fun i H1 => Same H H1 ∧ H1 D = some (.lst (nV ((List.range i).filter (spareF axs))))) ⟨Same.new hD _, upd_same⟩ ?_ ?_
  · rintro i H1 hi ⟨g1, h1⟩
    rw [Int.toNat_natCast] at hi
    have hs1 := hs.mono g1
    obtain ⟨x, hx⟩ : ∃ x, axs[i]? = some x := ⟨axs[i], List.getElem?_eq_getElem (by omega)⟩
    have hsm := hh.sm x (List.mem_of_getElem? hx)
    have pre : PreK (rest axs i) [.and x.1 (.not x.2)] := by
      have h6 := spare_len hh hx
      have hr' := hh.rest i
      refine ⟨hr'.len, by simp, fun c hc => ?_, h6⟩
      rcases List.mem_append.mp hc with hc | hc
      · unfold axc at hc
        obtain ⟨y, hy, hc⟩ := List.mem_flatMap.mp hc
        simp at hc
        rcases hc with rfl | rfl
        · exact (hr'.sm y hy).1.ok
        · exact (hr'.sm y hy).2.ok
      · rw [List.mem_singleton] at hc
        subst hc
        have h1 := hsm.1
        have h2 := hsm.2
        exact ⟨by have := h1.dep; have := h2.dep; simp only [dep]; omega, ⟨h1.okn, h2.okn⟩, by have := h1.ats; have := h2.ats; simp only [C.atoms, List.length_append]; omega⟩
    refine ⟨rfl, _, rfl, a, _, _, _, _, rfl, hs1.ins, T.cl_Service, T.n_axioms, lk_here, _, rfl, la, i, ys, axs, x, by rw [Int.zero_add]; rfl, SqL.of hs1.lst, hs1.rep, hx, hh.len, pre, fun H2 g2 => ⟨_, rfl, ?_⟩⟩
    have e := range_snoc i (spareF axs)
    have eb : spareF axs i = Oc.under (rest axs i) x.1 x.2 := by unfold spareF; rw [hx]; rfl
    cases hb : Oc.under (rest axs i) x.1 x.2 with
    | true =>
      refine if_true_of rfl ?_
      rw [eb, if_pos hb] at e
      refine ⟨_, rfl, _, g2 _ _ h1, ?_, (g1.trans g2).put hD _, ?_⟩
      · rw [nV_length]
        have := List.length_filter_le (spareF axs) (List.range i)
        rw [List.length_range] at this
        exact smallT (by omega)
      · rw [upd_same, e, nV_append, Int.zero_add]
        rfl
    | false =>
      refine if_false_of rfl ?_
      rw [eb, if_neg (by rw [hb]; decide), List.append_nil] at e
      exact ⟨g1.trans g2, by rw [e]; exact g2 _ _ h1⟩
  · rintro H1 ⟨g1, h1⟩
    rw [Int.toNat_natCast, yl] at h1
    refine ⟨_, rfl, D, _, rfl, .inl (SqL.of h1), sz1, fun p1 hp1 => ⟨_, rfl, ?_⟩⟩
    have g2 := Same.new hp1 (.lst [.int (((nV ((List.range axs.length).filter (spareF axs))).length : Nat) : Int)])
    have fl := List.length_filter_le (spareF axs) (List.range axs.length)
    rw [List.length_range] at fl
    refine ⟨p1, D, _, _, rfl, rfl, upd_same, g2 _ _ h1, small (by simp only [nV_length, List.length_cons, List.length_nil]; omega), fun f hf => ?_⟩
    have g3 := Same.new hf (.lst ([.int (((nV ((List.range axs.length).filter (spareF axs))).length : Nat) : Int)] ++ nV ((List.range axs.length).filter (spareF axs))))
    refine q _ f (g1.trans (g2.trans g3)) ((g1.trans g2).free hf) ?_
    rw [upd_same, nV_length]
    show _ = some (HO.lst (outV (Oc01.step ⟨axs⟩ .spare).2))
    rw [step_spare]
    rfl
end
end Ca
namespace Ca
open PySem PySem.Spec PyProof.Rows L2
open Oc (C Axiom)
section
variable {P : Program} {w : World} {K : PySem.W.Frag} {mg : Str → Option Value} {base : Heap} {A : Ads}
theorem outV_eq (a : Oc01.Ans) : outV a = (Oc01Neutral.out a).map V.int := by
  unfold outV Oc01Neutral.out nV
  rw [List.map_cons, List.map_map]
  rfl
/-! ### done -/
def spDone (K : PySem.W.Frag) (A : Ads) : Sp := fun vs H Q E => ∃ (a nl dx la : Addr) (axs : List Axiom) (ys : List V) (l : List Nat) (k i : Nat), vs = [.ref a, .int (k : Int), .int (i : Int), .ref nl] ∧ SAt K A H a axs dx la ys ∧ House axs ∧ SqL K H nl (nV l) ∧ l.length ≤ 30 ∧ k ≤ 8 ∧ StepOut K A H a la axs (opOf k i l) Q E
theorem nat_eq (k : Nat) (j : Nat) : decide (V.int (k : Int) = V.int (j : Int)) = decide (k = j) := int_eq k j
theorem ok_done (T : Txt K mg A) : FnOk P w K mg base (L2.CX P w) 76 A.a_done A.d_done ["self", "call", "index", "numbers"] (spDone K A) := by
  refine T.f_done.okX sc_done (fun vs H Q E h => ?_) (fun cdv A' outer s H vs Q E hr h => ?_)
  · obtain ⟨_, _, _, _, _, _, _, _, _, rfl, _⟩ := h
    rfl
  obtain ⟨a, nl, dx, la, axs, ys, l, k, i, rfl, hs, hh, hS, hl, hk, q⟩ := h
  refine ⟨_, (pss_cons (ps_if (pt_cmpR op_eq (pv 1) pe_int (nomark _)) (pss_one (ps_ret (pe_meth0 (pv 0) T.cl_Service T.m_begins (ok_begins T) (hr.mono (by omega)) T.b_begins .nil pass0))) pss_nil)
    (pss_cons (ps_if (pt_cmpR op_eq (pv 1) pe_int (nomark _)) (pss_one (ps_ret (pe_meth (pv 0) T.cl_Service T.m_line (ok_line T) (hr.mono (by omega)) T.b_line .nil (passes_call (takes_of rfl rfl rfl rfl) (fun _ _ _ _ h => h)) (by exact (pa_cons (pv 3) pa_nil))))) pss_nil)
    (pss_cons (ps_if (pt_cmpR op_eq (pv 1) pe_int (nomark _)) (pss_one (ps_ret (pe_meth (pv 0) T.cl_Service T.m_drop (ok_drop T) (hr.mono (by omega)) T.b_drop .nil (passes_call (takes_of rfl rfl rfl rfl) (fun _ _ _ _ h => h)) (by exact (pa_cons (pv 2) pa_nil))))) pss_nil)
    (pss_cons (ps_if (pt_cmpR op_eq (pv 1) pe_int (nomark _)) (pss_one (ps_ret (pe_meth (pv 0) T.cl_Service T.m_can (ok_can T) (hr.mono (by omega)) T.b_can .nil (passes_call (takes_of rfl rfl rfl rfl) (fun _ _ _ _ h => h)) (by exact (pa_cons (pv 3) pa_nil))))) pss_nil)
    (pss_cons (ps_if (pt_cmpR op_eq (pv 1) pe_int (nomark _)) (pss_one (ps_ret (pe_meth (pv 0) T.cl_Service T.m_under (ok_under T) (hr.mono (by omega)) T.b_under .nil (passes_call (takes_of rfl rfl rfl rfl) (fun _ _ _ _ h => h)) (by exact (pa_cons (pv 3) pa_nil))))) pss_nil)
    (pss_cons (ps_if (pt_cmpR op_eq (pv 1) pe_int (nomark _)) (pss_one (ps_ret (pe_meth (pv 0) T.cl_Service T.m_model (ok_model T) (hr.mono (by omega)) T.b_model .nil (passes_call (takes_of rfl rfl rfl rfl) (fun _ _ _ _ h => h)) (by exact (pa_cons (pv 3) pa_nil))))) pss_nil)
    (pss_cons (ps_if (pt_cmpR op_eq (pv 1) pe_int (nomark _)) (pss_one (ps_ret (pe_meth (pv 0) T.cl_Service T.m_against (ok_against T) (hr.mono (by omega)) T.b_against .nil (passes_call (takes_of rfl rfl rfl rfl) (fun _ _ _ _ h => h)) (by exact (pa_cons (pv 3) pa_nil))))) pss_nil)
    (pss_one (ps_ret (pe_ifExp (pt_cmpR op_eq (pv 1) pe_int (nomark _)) (pe_meth0 (pv 0) T.cl_Service T.m_names (ok_names T) (hr.mono (by omega)) T.b_names .nil pass0) (pe_meth0 (pv 0) T.cl_Service T.m_spare (ok_spare T) (hr.mono (by omega)) T.b_spare .nil pass0))))))))))), ?_⟩
  have cs : k = 0 ∨ k = 1 ∨ k = 2 ∨ k = 3 ∨ k = 4 ∨ k = 5 ∨ k = 6 ∨ k = 7 ∨ k = 8 := by omega
  rcases cs with rfl | rfl | rfl | rfl | rfl | rfl | rfl | rfl | rfl
  · refine ⟨_, rfl, rfl, _, rfl, if_true_of (by rfl) ?_⟩
    exact ⟨_, rfl, a, _, _, rfl, hs.ins, ax_no (by decide +kernel), a, dx, la, axs, ys, rfl, hs, q.2 (by show (0 : Int) ≤ 0; decide)⟩
  · refine ⟨_, rfl, rfl, _, rfl, if_false_of (by rfl) ?_⟩
    refine ⟨_, rfl, rfl, _, rfl, if_true_of (by rfl) ?_⟩
    exact ⟨_, rfl, a, _, _, rfl, hs.ins, ax_no (by decide +kernel), _, rfl, a, nl, dx, la, axs, ys, l, rfl, hs, hh, hS, hl, q⟩
  · refine ⟨_, rfl, rfl, _, rfl, if_false_of (by rfl) ?_⟩
    refine ⟨_, rfl, rfl, _, rfl, if_false_of (by rfl) ?_⟩
    refine ⟨_, rfl, rfl, _, rfl, if_true_of (by rfl) ?_⟩
    exact ⟨_, rfl, a, _, _, rfl, hs.ins, ax_no (by decide +kernel), _, rfl, a, dx, la, axs, ys, i, rfl, hs, hh, q⟩
  · refine ⟨_, rfl, rfl, _, rfl, if_false_of (by rfl) ?_⟩
    refine ⟨_, rfl, rfl, _, rfl, if_false_of (by rfl) ?_⟩
    refine ⟨_, rfl, rfl, _, rfl, if_false_of (by rfl) ?_⟩
    refine ⟨_, rfl, rfl, _, rfl, if_true_of (by rfl) ?_⟩
    exact ⟨_, rfl, a, _, _, rfl, hs.ins, ax_no (by decide +kernel), _, rfl, a, nl, dx, la, axs, ys, l, rfl, hs, hh, hS, hl, q⟩
  · refine ⟨_, rfl, rfl, _, rfl, if_false_of (by rfl) ?_⟩
    refine ⟨_, rfl, rfl, _, rfl, if_false_of (by rfl) ?_⟩
    refine ⟨_, rfl, rfl, _, rfl, if_false_of (by rfl) ?_⟩
    refine ⟨_, rfl, rfl, _, rfl, if_false_of (by rfl) ?_⟩
    refine ⟨_, rfl, rfl, _, rfl, if_true_of (by rfl) ?_⟩
    exact ⟨_, rfl, a, _, _, rfl, hs.ins, ax_no (by decide +kernel), _, rfl, a, nl, dx, la, axs, ys, l, rfl, hs, hh, hS, hl, q⟩
  · refine ⟨_, rfl, rfl, _, rfl, if_false_of (by rfl) ?_⟩
    refine ⟨_, rfl, rfl, _, rfl, if_false_of (by rfl) ?_⟩
    refine ⟨_, rfl, rfl, _, rfl, if_false_of (by rfl) ?_⟩
    refine ⟨_, rfl, rfl, _, rfl, if_false_of (by rfl) ?_⟩
    refine ⟨_, rfl, rfl, _, rfl, if_false_of (by rfl) ?_⟩
    refine ⟨_, rfl, rfl, _, rfl, if_true_of (by rfl) ?_⟩
    exact ⟨_, rfl, a, _, _, rfl, hs.ins, ax_no (by decide +kernel), _, rfl, a, nl, dx, la, axs, ys, l, rfl, hs, hh, hS, hl, q⟩
  · refine ⟨_, rfl, rfl, _, rfl, if_false_of (by rfl) ?_⟩
    refine ⟨_, rfl, rfl, _, rfl, if_false_of (by rfl) ?_⟩
    refine ⟨_, rfl, rfl, _, rfl, if_false_of (by rfl) ?_⟩
    refine ⟨_, rfl, rfl, _, rfl, if_false_of (by rfl) ?_⟩
    refine ⟨_, rfl, rfl, _, rfl, if_false_of (by rfl) ?_⟩
    refine ⟨_, rfl, rfl, _, rfl, if_false_of (by rfl) ?_⟩
    refine ⟨_, rfl, rfl, _, rfl, if_true_of (by rfl) ?_⟩
    exact ⟨_, rfl, a, _, _, rfl, hs.ins, ax_no (by decide +kernel), _, rfl, a, nl, dx, la, axs, ys, l, rfl, hs, hh, hS, hl, q⟩
  · refine ⟨_, rfl, rfl, _, rfl, if_false_of (by rfl) ?_⟩
    refine ⟨_, rfl, rfl, _, rfl, if_false_of (by rfl) ?_⟩
    refine ⟨_, rfl, rfl, _, rfl, if_false_of (by rfl) ?_⟩
    refine ⟨_, rfl, rfl, _, rfl, if_false_of (by rfl) ?_⟩
    refine ⟨_, rfl, rfl, _, rfl, if_false_of (by rfl) ?_⟩
    refine ⟨_, rfl, rfl, _, rfl, if_false_of (by rfl) ?_⟩
    refine ⟨_, rfl, rfl, _, rfl, if_false_of (by rfl) ?_⟩
    refine ⟨_, rfl, rfl, _, rfl, if_true_of (by rfl) ?_⟩
    exact ⟨_, rfl, a, _, _, rfl, hs.ins, ax_no (by decide +kernel), a, dx, la, axs, ys, rfl, hs, hh, (q.2 (by show (0 : Int) ≤ (_ : Nat); omega)).same hs⟩
  · refine ⟨_, rfl, rfl, _, rfl, if_false_of (by rfl) ?_⟩
    refine ⟨_, rfl, rfl, _, rfl, if_false_of (by rfl) ?_⟩
    refine ⟨_, rfl, rfl, _, rfl, if_false_of (by rfl) ?_⟩
    refine ⟨_, rfl, rfl, _, rfl, if_false_of (by rfl) ?_⟩
    refine ⟨_, rfl, rfl, _, rfl, if_false_of (by rfl) ?_⟩
    refine ⟨_, rfl, rfl, _, rfl, if_false_of (by rfl) ?_⟩
    refine ⟨_, rfl, rfl, _, rfl, if_false_of (by rfl) ?_⟩
    refine ⟨_, rfl, rfl, _, rfl, if_false_of (by rfl) ?_⟩
    exact ⟨_, rfl, a, _, _, rfl, hs.ins, ax_no (by decide +kernel), a, dx, la, axs, ys, rfl, hs, hh, (q.2 (by show (0 : Int) ≤ (_ : Nat); omega)).same hs⟩
/-! ### answer: a method's call within a try -/
/-- o.m(e, ..) within a try: what it raises is wished for at the slots as they stand -/
def tMethT (C : Addr) (m : Str) (sp : Sp) (E : L2.St → XK) (ta : TE) (t : TA) : TE := fun σ H Q => ta σ H fun x H1 => ∃ a dx fs, x = .ref a ∧ H1 a = some (.ins C dx fs) ∧ fs.lookup m = none ∧ t σ H1 fun vs H2 => sp (x :: vs) H2 Q (E σ)
theorem pe_methT {X : Cx} {CX : CXT} {k : Nat} {f C : Addr} {fd : FuncData} {ps : List Str} {sp : Sp} {E : L2.St → XK} {m : Str} {pos apos : Pos} {e o : Expr} {es : List Expr} {ta : TE} {t : TA} {pl : Sem Bool} (he : PE X o ta) (c : Cls X.K C) (hm : Meth X.K C m f)
    (F : FnOk X.prog X.w X.K X.mg X.base CX k f fd ps sp) (hr : Room k X.A) (hb : Binds X.K fd ps []) (hx : ∀ σ, PassesAt CX X σ (E σ)) (ha : PA X (e :: es) t)
    (hst : starEach (e :: es) X.env = (false, eval e X.env) :: starEach es X.env := by rfl) (hpl : (backTo pos (starEach es X.env)).any (·.1) = false := by rfl)
    (ht : eval (.Call (.Attribute o m apos) (e :: es) [] pos) X.env = (do
      let ov ← eval o X.env
      standAt apos.atName
      let (f, first) ← holding [ov] (getMethod ov m pl)
      callWith pos f first (backTo pos (starEach (e :: es) X.env)) (backToKw pos (keywordEach [] X.env))) := by rfl) :
    PE X (.Call (.Attribute o m apos) (e :: es) [] pos) (tMethT C m sp E ta t) := by
  refine ⟨fun pins s σ H Q I h => ?_⟩
  refine PySem.W.methodCall_KW (pl := pl) (thn (he.run pins s σ H _ I h) fun u s1 ⟨x, H1, I1, rx, a, dx, fs, ex, ea, l, q⟩ => ?_) ht
  subst ex
  obtain rfl : u = Value.ref a := rx
  refine getmeth_ok I1 ea c hm l ?_
  refine PySem.W.callWith_K (first := [.ref a]) (h₀ := X.base) I.ok.mod.kin hm.kp (thn (ha.run pos pins s1 σ H1 _ I1 q) fun us s2 ⟨vs, H2, I2, r, q2⟩ => ⟨I2.kIn, ?_⟩) hst hpl
  exact run_fnS (us := .ref a :: us) (vs := .ref a :: vs) F hr hb (hx σ) I2 (.cons rfl r) q2
/-- answer -/
def spAnswer (K : PySem.W.Frag) (A : Ads) : Sp := fun vs H Q _ => ∃ (a nl dx la : Addr) (axs : List Axiom) (ys : List V) (l : List Nat) (k i : Nat), vs = [.ref a, .int (k : Int), .int (i : Int), .ref nl] ∧ SAt K A H a axs dx la ys ∧ House axs ∧ SqL K H nl (nV l) ∧ l.length ≤ 30 ∧ k ≤ 8 ∧
  OkAns K A H a la (Oc01.step ⟨axs⟩ (opOf k i l)).1.axioms Q (outV (Oc01.step ⟨axs⟩ (opOf k i l)).2)
theorem ok_answer (T : Txt K mg A) : FnOk P w K mg base CX0 78 A.a_answer A.d_answer ["self", "call", "index", "numbers"] (spAnswer K A) := by
  refine T.f_answer.ok sc_answer (fun vs H Q E h => ?_) (fun cdv A' outer s H vs Q E hr h => ?_)
  · obtain ⟨_, _, _, _, _, _, _, _, _, rfl, _⟩ := h
    rfl
  obtain ⟨a, nl, dx, la, axs, ys, l, k, i, rfl, hs, hh, hS, hl, hk, q⟩ := h
  refine ⟨_, pss_one (ps_try_as (i := 4) (tb := fun W => tRet (tMethT A.C_Service "done" (spDone K A) (WE W) (tVar 0) (tCons (tVar 1) (tCons (tVar 2) (tCons (tVar 3) tNil))))) (ts := fun a cls d => tRet (tLst (tCons (tXf a cls d A.C_Refused "code" (tVar 4)) tNil))) (Wout := fun _ _ _ _ => False) rfl rfl sc_answer.nd rfl rfl ⟨rfl, by decide, Or.inl T.g_Refused⟩ takes0
      (fun W pn xe tk _ => pss_one (ps_ret (by exact (pe_methT (pv 0) T.cl_Service T.m_done (ok_done T) (hr.mono (by omega)) T.b_done (fun σ => passAt tk σ) (by exact (pa_cons (pv 1) (pa_cons (pv 2) (pa_cons (pv 3) pa_nil))))))))
      (fun a oe cls d pn hz hf => pss_one (ps_ret (by exact (pe_lst (pa_cons (pe_xf T.xf T.x_code hz hf (pv 4)) pa_nil)))))), ?_⟩
  refine ⟨_, rfl, a, _, _, rfl, hs.ins, ax_no (by decide +kernel), _, rfl, _, rfl, _, rfl, a, nl, dx, la, axs, ys, l, k, i, rfl, hs, hh, hS, hl, hk, ?_, fun _ => q⟩
  intro c hc hneg d H1 g1 hd
  rw [hc] at q
  refine ⟨true, T.eF, fun _ a0 ha0 => ?_, fun z => Bool.noConfusion z⟩
  refine ⟨_, rfl, rfl, rfl, d, _, _, rfl, hd, lk_here, sz1, fun f hf => ?_⟩
  have g2 := Same.new hf (.lst [.int c])
  refine q _ f dx la ys (SB.of (g1.trans g2)) (hs.mono (g1.trans g2)) (.inl rfl) (g1.free hf) ?_
  rw [upd_same]
  rfl
end
end Ca
namespace Ca
open PySem PySem.Spec PyProof.Rows L2
open Oc (C Axiom)
section
variable {P : Program} {w : World} {K : PySem.W.Frag} {mg : Str → Option Value} {base : Heap} {A : Ads}
theorem cut_mid (xs : List V) {i j : Nat} (h1 : i ≤ j) (h2 : j ≤ xs.length) : cutV xs (some ((i : Nat) : Int)) (some ((j : Nat) : Int)) = (xs.drop i).take (j - i) := by
  unfold cutV
  rw [HT.sIx_nat, HT.sIx_nat, Nat.min_eq_left h2, Nat.min_eq_left (Nat.le_trans h1 h2)]
/-- the last three statements of a turn: the answer's length and its numbers go behind those found so far -/
theorem r_told {σ : L2.St} {D : Ends} {H H1 : Hp} {sv F dx la nl : Addr} {axs : List Axiom} {ys : List V} {nums : List Int} {k i : Nat} {l : List Nat} (h1 : σ[1]? = some (some (.ref sv))) (h2 : σ[2]? = some (some (.ref F))) (h4 : σ[4]? = some (some (.int (k : Int)))) (h5 : σ[5]? = some (some (.int (i : Int)))) (h6 : σ[6]? = some (some (.ref nl))) (h7 : 7 < σ.length)
    (g : Same H H1) (hsv : H sv = none) (hFn : H F = none) (hs : SAt K A H1 sv axs dx la ys) (hh : House axs) (hF : H1 F = some (.lst (nums.map V.int))) (nF : la ≠ F) (hS : SqL K H1 nl (nV l)) (hl : l.length ≤ 30) (hk : k ≤ 8)
    (hz : nums.length + 1 + (Oc01Neutral.out (Oc01.step ⟨axs⟩ (opOf k i l)).2).length ≤ 10000000)
    (q : ∀ H' dx la ys v7, Same H H' → SAt K A H' sv (Oc01.step ⟨axs⟩ (opOf k i l)).1.axioms dx la ys → la ≠ F →
      H' F = some (.lst ((nums ++ (((Oc01Neutral.out (Oc01.step ⟨axs⟩ (opOf k i l)).2).length : Int) :: Oc01Neutral.out (Oc01.step ⟨axs⟩ (opOf k i l)).2)).map V.int)) → D.nx (σ.set 7 (some v7)) H') :
    tSeq (tAsg (tMeth A.C_Service "answer" (spAnswer K A) [] E0 (tVar 1) (tCons (tVar 4) (tCons (tVar 5) (tCons (tVar 6) tNil)))) (gName 7))
      (tSeq (tDrop (fun σ H Q => tVar 2 σ H fun x H1 => tyV K "list" x H1 ∧ (tCons (tCB (fun xs H Q => ∃ p ys, xs = [.ref p] ∧ (SqL K H p ys ∨ SqT K H p ys) ∧ Q (.int ys.length) H) (tCons (tVar 7) tNil)) tNil) σ H1 fun vs H2 => rAppend x vs H2 Q))
        (tDrop (fun σ H Q => tVar 2 σ H fun x H1 => tyV K "list" x H1 ∧ (tCons (tVar 7) tNil) σ H1 fun vs H2 => rExtend x vs H2 Q))) D σ H1 := by
  have nsF : sv ≠ F := ne_of hs.ins hF (by intro z; cases z)
  refine ⟨_, h1, sv, _, _, rfl, hs.ins, ax_no (by decide +kernel), _, h4, _, h5, _, h6, sv, nl, dx, la, axs, ys, l, k, i, rfl, hs, hh, hS, hl, hk, ?_⟩
  intro H2 f dx2 la2 ys2 s2 sa2 hla hf1 hf2
  rw [outV_eq] at hf2
  generalize Oc01Neutral.out (Oc01.step ⟨axs⟩ (opOf k i l)).2 = out at hz q hf2
  have hfF : f ≠ F := fun e => by rw [e, hF] at hf1; cases hf1
  have h2F := s2 _ _ hF nsF.symm
  have e7 : (σ.set 7 (some (V.ref f)))[7]? = some (some (.ref f)) := by rw [List.getElem?_set_self h7]
  have e2 : (σ.set 7 (some (V.ref f)))[2]? = some (some (.ref F)) := by rw [List.getElem?_set_ne (by decide)]; exact h2
  refine ⟨_, e2, .inl ⟨rfl, _, SqL.of h2F⟩, _, e7, f, _, rfl, .inl (SqL.of hf2), F, _, _, rfl, rfl, h2F, smallT (by rw [List.length_map]; omega), ?_⟩
  have h3F : upd H2 F (.lst (nums.map V.int ++ [.int (((out.map V.int).length : Nat) : Int)])) F = some (.lst (nums.map V.int ++ [.int (((out.map V.int).length : Nat) : Int)])) := upd_same
  refine ⟨_, e2, .inl ⟨rfl, _, SqL.of h3F⟩, _, e7, F, f, _, _, rfl, rfl, h3F, by rw [upd_ne hfF]; exact hf2, small (by simp only [List.length_append, List.length_map, List.length_singleton]; omega), ?_⟩
  have h02 : Same H H2 := fun b u hb => s2 b u (g b u hb) (fun e => by rw [e, hsv] at hb; cases hb)
  have nlaF : la2 ≠ F := fun e => by
    rcases hla with hla | hla
    · exact nF (hla.symm.trans e)
    · rw [e, hF] at hla; cases hla
  have t1 := TSame.lst h2F (.lst (nums.map V.int ++ [.int (((out.map V.int).length : Nat) : Int)]))
  have t2 := TSame.lst h3F (.lst (nums.map V.int ++ [.int (((out.map V.int).length : Nat) : Int)] ++ out.map V.int))
  refine q _ dx2 la2 ys2 (.ref f) ?_ ?_ nlaF ?_
  · exact (h02.put hFn _).put hFn _
  · exact ⟨by rw [upd_ne nsF, upd_ne nsF]; exact sa2.ins, by rw [upd_ne nlaF, upd_ne nlaF]; exact sa2.lst, (sa2.rep.tmono t1).tmono t2⟩
  · rw [upd_same, List.map_append, List.map_cons, List.length_map, List.append_assoc]
    rfl
theorem put_split {raw dn rs : List (List (List Int))} {c : List (List Int)} (h : raw = dn ++ c :: rs) : PyFlat.put raw = PyFlat.put dn ++ (PyFlat.put1 c ++ PyFlat.put rs) := by
  rw [h, put_append]
  rfl
theorem get_mid {a b : List Int} {j : Nat} {x : Int} (h : b[j]? = some x) : (a ++ b)[a.length + j]? = some x := by
  rw [List.getElem?_append_right (by omega), Nat.add_sub_cancel_left]
  exact h
theorem vmap_get {ns : List Int} {i : Nat} {x : Int} (h : ns[i]? = some x) : (ns.map V.int)[i]? = some (.int x) := by
  rw [List.getElem?_map, h]
  rfl
def pos3 (σ : L2.St) : Nat := match σ[3]? with
  | some (some (V.int z)) => z.toNat
  | _ => 0
/-- answers -/
def spAnswers (K : PySem.W.Frag) : Sp := fun vs H Q _ => ∃ (a : Addr) (ns : List Int), vs = [.ref a] ∧ SqL K H a (ns.map V.int) ∧ PyOc01.answers_asked ns = true ∧
  ∀ (H' : Hp) (p : Addr), H' p = some (.lst ((PyOc01.answers ns).map V.int)) → Q (.ref p) H'
theorem ok_answers (T : Txt K mg A) : FnOk P w K mg base CX0 80 A.a_answers A.d_answers ["calls"] (spAnswers K) := by
  refine T.f_answers.ok sc_answers (fun vs H Q E h => ?_) (fun cdv A' outer s H vs Q E hr h => ?_)
  · obtain ⟨_, _, rfl, _⟩ := h
    rfl
  obtain ⟨a, ns, rfl, hS, hask, q⟩ := h
  obtain ⟨raw, ak⟩ := asked_of hask
  refine ⟨_, (pss_cons (ps_set (i := 1) sc_answers.nd rfl (Or.inl rfl) (pe_make0 T.mk_Service (ok_initService T) (hr.mono (by omega)) (by rfl) T.g_Service T.b_initService .nil pass0))
    (pss_cons (ps_set (i := 2) sc_answers.nd rfl (Or.inl rfl) (pe_lst pa_nil))
    (pss_cons (ps_set (i := 3) sc_answers.nd rfl (Or.inl rfl) pe_int)
    (pss_cons (ps_while PassesOwn.never (pt_cmpR op_lt (pv 3) (pe_callB call_len_seq (by rfl) T.z_len PySem.boot_len (pa_cons (pv 0) pa_nil)) (nomark _)) (pss_cons (ps_par3 (i := 4) (j := 5) (l := 6) rfl sc_answers.nd rfl rfl rfl (by decide) (by decide) (by decide) rfl rfl rfl (by exact (pa_cons (pe_ix ix_list (pv 0) (pv 3) (fun _ _ => rfl)) (pa_cons pe_int (pa_cons (pe_lst pa_nil) pa_nil)))) (by rfl))
    (pss_cons (ps_aug (i := 3) sc_answers.nd rfl (Or.inl rfl) pe_int ip_add)
    (pss_cons (ps_if (pt_cmpR op_eq (pv 4) (pe_glob (v := .int (2)) rfl T.g_DROP ⟨_, rfl⟩) (nomark _)) (pss_cons (ps_set (i := 5) sc_answers.nd rfl (Or.inl rfl) (pe_ix ix_list (pv 0) (pv 3) (fun _ _ => rfl)))
    (pss_one (ps_aug (i := 3) sc_answers.nd rfl (Or.inl rfl) pe_int ip_add))) pss_nil)
    (pss_cons (ps_if (pt_cmpR op_in_seq (pv 4) (pe_glob (v := .ref A.a_WITH_LIST) rfl T.g_WITH_LIST rfl) (by rfl)) (pss_cons (ps_set (i := 6) sc_answers.nd rfl (Or.inl rfl) (pe_slice sl_list (pv 0) (po_some (pe_op op_add (pv 3) pe_int)) (po_some (pe_op op_add (pe_op op_add (pv 3) pe_int) (pe_ix ix_list (pv 0) (pv 3) (fun _ _ => rfl))))))
    (pss_one (ps_set (i := 3) sc_answers.nd rfl (Or.inl rfl) (pe_op op_add (pe_op op_add (pv 3) pe_int) (pe_callB call_len_seq (by rfl) T.z_len PySem.boot_len (pa_cons (pv 6) pa_nil)))))) pss_nil)
    (pss_cons (ps_set (i := 7) sc_answers.nd rfl (Or.inl rfl) (pe_meth (pv 1) T.cl_Service T.m_answer (ok_answer T) (hr.mono (by omega)) T.b_answer .nil pass0 (by exact (pa_cons (pv 4) (pa_cons (pv 5) (pa_cons (pv 6) pa_nil))))))
    (pss_cons (ps_expr (pe_bm PySem.F.plainAttrs_list PySem.F.slot_list_append PySem.F.type_list_append mt_append (pv 2) (by exact (pa_cons (pe_callB call_len_seq (by rfl) T.z_len PySem.boot_len (pa_cons (pv 7) pa_nil)) pa_nil))))
    (pss_one (ps_expr (pe_bm PySem.F.plainAttrs_list PySem.F.slot_list_extend PySem.F.type_list_extend mt_extend (pv 2) (by exact (pa_cons (pv 7) pa_nil))))))))))))
    (pss_one (ps_ret (pv 2))))))), ?_⟩
  intro sv dx hsv hdx hne
  have hsv' : upd H dx (.own sv) sv = none := by rw [upd_ne hne.symm]; exact hsv
  have g0 : Same H (upd (upd H dx (.own sv)) sv (.ins A.C_Service dx [])) := (Same.new hdx _).trans (Same.new hsv' _)
  refine ⟨sv, dx, rfl, upd_same, fun H1 l1 s1 sa1 => ⟨rfl, ?_⟩⟩
  have g1 : Same H H1 := fun b u hb => s1 b u (g0 b u hb) (ne_of_none hb hsv)
  refine ⟨sz0, fun F hF => ?_⟩
  have g2 := Same.new hF (.lst [])
  have hFn : H F = none := g1.free hF
  have nl1 : l1 ≠ F := ne_of_none sa1.lst hF
  refine while_by (fun σ H3 => ∃ (dn rs : List (List (List Int))) (axs : List Axiom) (dx l : Addr) (ys : List V) (nums : List Int) (x4 x5 x6 x7 : Option V), raw = dn ++ rs ∧ Same H H3 ∧ SAt K A H3 sv axs dx l ys ∧ House axs ∧ l ≠ F ∧ H3 F = some (.lst (nums.map V.int)) ∧ PyOc01.answers ns = nums ++ todo axs rs ∧
    σ = [some (.ref a), some (.ref sv), some (.ref F), some (.int ((PyFlat.put dn).length : Int)), x4, x5, x6, x7]) (fun σ _ => ns.length - pos3 σ) ?_ ?_ ?_
  · exact ⟨[], raw, [], dx, l1, [], [], none, none, none, none, rfl, g1.trans g2, sa1.mono g2, house_nil, nl1, upd_same, ak.ans, rfl⟩
  · rintro σ H3 ⟨dn, rs, axs, dx, l, ys, nums, x4, x5, x6, x7, er, g3, sa3, hh, nlF, h3F, ean, rfl⟩
    have hS3 := g3.seq hS
    refine ⟨_, rfl, _, rfl, a, _, rfl, .inl hS3, _, _, rfl, rfl, _, rfl, ?_⟩
    rw [List.length_map]
    cases rs with
    | nil =>
      have e : ns = PyFlat.put dn := by rw [ak.put, er, List.append_nil]
      refine if_false_of (decide_eq_false (by rw [← e]; omega)) ?_
      refine ⟨_, rfl, q _ F ?_⟩
      rw [h3F, ean, todo_nil, List.append_nil]
    | cons c rs =>
      obtain ⟨k, i, ll, hf⟩ := ak.form c (by rw [er]; simp)
      have esp := put_split er
      rw [← ak.put] at esp
      have hlen := form_len hf
      have etd := todo_cons hf axs rs
      rw [etd] at ean
      have hsh := ak.short
      have hz : nums.length + 1 + (Oc01Neutral.out (Oc01.step ⟨axs⟩ (opOf k i ll)).2).length ≤ 10000000 := by
        rw [ean] at hsh
        simp only [List.length_append, List.length_cons] at hsh
        omega
      have hh' := house_step hh k i ll hlen.1
      have er' : raw = (dn ++ [c]) ++ rs := by rw [er]; simp
      have ep' : PyFlat.put (dn ++ [c]) = PyFlat.put dn ++ PyFlat.put1 c := by rw [put_append, put_one]
      generalize hpl : (PyFlat.put dn).length = pl at esp
      have nsl : ns.length = pl + ((PyFlat.put1 c).length + (PyFlat.put rs).length) := by rw [esp, List.length_append, List.length_append, hpl]
      have geta : ∀ {j : Nat} {x : Int}, (PyFlat.put1 c)[j]? = some x → (ns.map V.int)[pl + j]? = some (.int x) := fun {j x} h => by
        refine vmap_get ?_
        rw [esp, ← hpl]
        refine get_mid ?_
        rw [List.getElem?_append_left (List.getElem?_eq_some_iff.mp h).1]
        exact h
      -- the end of a turn
      have fin : ∀ (H' : Hp) (dx la : Addr) (ys : List V) (z : Int) (x4 x5 x6 x7 : Option V), Same H H' → SAt K A H' sv (Oc01.step ⟨axs⟩ (opOf k i ll)).1.axioms dx la ys → la ≠ F →
          H' F = some (.lst ((nums ++ (((Oc01Neutral.out (Oc01.step ⟨axs⟩ (opOf k i ll)).2).length : Int) :: Oc01Neutral.out (Oc01.step ⟨axs⟩ (opOf k i ll)).2)).map V.int)) → z = ((pl + (PyFlat.put1 c).length : Nat) : Int) → 0 < (PyFlat.put1 c).length →
          (∃ (dn rs : List (List (List Int))) (axs : List Axiom) (dx l : Addr) (ys : List V) (nums : List Int) (y4 y5 y6 y7 : Option V), raw = dn ++ rs ∧ Same H H' ∧ SAt K A H' sv axs dx l ys ∧ House axs ∧ l ≠ F ∧ H' F = some (.lst (nums.map V.int)) ∧ PyOc01.answers ns = nums ++ todo axs rs ∧
            [some (V.ref a), some (.ref sv), some (.ref F), some (.int z), x4, x5, x6, x7] = [some (V.ref a), some (.ref sv), some (.ref F), some (.int ((PyFlat.put dn).length : Int)), y4, y5, y6, y7]) ∧
          ns.length - pos3 [some (V.ref a), some (.ref sv), some (.ref F), some (.int z), x4, x5, x6, x7] < ns.length - pl := by
        intro H' dx la ys z x4 x5 x6 x7 gg sa nla hFF ez h0
        refine ⟨⟨dn ++ [c], rs, _, dx, la, ys, _, x4, x5, x6, x7, er', gg, sa, hh', nla, hFF, ?_, ?_⟩, ?_⟩
        · rw [ean, List.append_assoc]
          rfl
        · rw [ez, ep', List.length_append, hpl]
        · show ns.length - z.toNat < ns.length - pl
          rw [ez]
          omega
      have epos : pos3 [some (V.ref a), some (.ref sv), some (.ref F), some (.int ((pl : Nat) : Int)), x4, x5, x6, x7] = pl := Int.toNat_natCast _
      have w5 := T.s_WITH_LIST
      rcases put1_form hf with ⟨hk, rfl, rfl, e1⟩ | ⟨rfl, rfl, e1⟩ | ⟨hk, rfl, e1⟩
      · -- no number, no list
        have hl1 : (PyFlat.put1 c).length = 1 := by rw [e1]; rfl
        have a0 := geta (j := 0) (x := (k : Int)) (by rw [e1]; rfl)
        refine if_true_of (decide_eq_true (by omega)) ?_
        refine ⟨_, rfl, _, rfl, a, _, _, _, rfl, rfl, hS3, atI_nat (j := pl) a0, sz0, fun N hN => ⟨_, _, _, rfl, ?_⟩⟩
        have g4 := Same.new hN (.lst [])
        refine ⟨_, rfl, _, _, rfl, rfl, ?_⟩
        have n2 : decide (V.int (k : Int) = V.int 2) = false := by rcases hk with rfl | rfl | rfl <;> rfl
        refine ⟨_, rfl, rfl, _, rfl, if_false_of n2 ?_⟩
        have nw : inV (.int (k : Int)) [.int 1, .int 3, .int 4, .int 5, .int 6] = false := by rcases hk with rfl | rfl | rfl <;> rfl
        refine ⟨_, rfl, _, _, rfl, .inr (w5 _), rfl, rfl, _, rfl, if_false_of nw ?_⟩
        refine r_told (K := K) (A := A) (H := H) (k := k) (i := 0) (l := []) rfl rfl rfl rfl rfl (Nat.lt_of_lt_of_le (by decide) (Nat.le_refl 8)) (g3.trans g4) hsv hFn (sa3.mono g4) hh (g4 _ _ h3F) nlF (SqL.of upd_same) (by decide) hlen.2 hz fun H' dx la ys v7 gg sa nla hFF => ?_
        have := fin H' dx la ys ((pl : Int) + 1) (some (.int (k : Int))) (some (.int 0)) (some (.ref N)) (some v7) gg sa nla hFF (by rw [hl1]; rfl) (by omega)
        exact this
      · -- drop
        have hl1 : (PyFlat.put1 c).length = 2 := by rw [e1]; rfl
        have a0 := geta (j := 0) (x := 2) (by rw [e1]; rfl)
        have a1 := geta (j := 1) (x := (i : Int)) (by rw [e1]; rfl)
        refine if_true_of (decide_eq_true (by omega)) ?_
        refine ⟨_, rfl, _, rfl, a, _, _, _, rfl, rfl, hS3, atI_nat (j := pl) a0, sz0, fun N hN => ⟨_, _, _, rfl, ?_⟩⟩
        have g4 := Same.new hN (.lst [])
        refine ⟨_, rfl, _, _, rfl, rfl, ?_⟩
        refine ⟨_, rfl, rfl, _, rfl, if_true_of (by rfl) ?_⟩
        refine ⟨_, rfl, _, rfl, a, _, _, _, rfl, rfl, g4.seq hS3, atI_nat (j := pl + 1) a1, ?_⟩
        refine ⟨_, rfl, _, _, rfl, rfl, ?_⟩
        refine ⟨_, rfl, _, _, rfl, .inr (w5 _), rfl, rfl, _, rfl, if_false_of (by rfl) ?_⟩
        refine r_told (K := K) (A := A) (H := H) (k := 2) (i := i) (l := []) rfl rfl rfl rfl rfl (Nat.lt_of_lt_of_le (by decide) (Nat.le_refl 8)) (g3.trans g4) hsv hFn (sa3.mono g4) hh (g4 _ _ h3F) nlF (SqL.of upd_same) (by decide) (by decide) hz fun H' dx la ys v7 gg sa nla hFF => ?_
        have := fin H' dx la ys ((pl : Int) + 1 + 1) (some (.int 2)) (some (.int (i : Int))) (some (.ref N)) (some v7) gg sa nla hFF (by rw [hl1]; rfl) (by omega)
        exact this
      · -- a list
        have hl1 : (PyFlat.put1 c).length = ll.length + 2 := by rw [e1]; simp
        have a0 := geta (j := 0) (x := (k : Int)) (by rw [e1]; rfl)
        have a1 := geta (j := 1) (x := (ll.length : Int)) (by rw [e1]; rfl)
        refine if_true_of (decide_eq_true (by omega)) ?_
        refine ⟨_, rfl, _, rfl, a, _, _, _, rfl, rfl, hS3, atI_nat (j := pl) a0, sz0, fun N hN => ⟨_, _, _, rfl, ?_⟩⟩
        have g4 := Same.new hN (.lst [])
        have hS4 := g4.seq hS3
        refine ⟨_, rfl, _, _, rfl, rfl, ?_⟩
        have n2 : decide (V.int (k : Int) = V.int 2) = false := by rcases hk with rfl | rfl | rfl | rfl | rfl <;> rfl
        refine ⟨_, rfl, rfl, _, rfl, if_false_of n2 ?_⟩
        have nw : inV (.int (k : Int)) [.int 1, .int 3, .int 4, .int 5, .int 6] = true := by rcases hk with rfl | rfl | rfl | rfl | rfl <;> rfl
        refine ⟨_, rfl, _, _, rfl, .inr (w5 _), rfl, rfl, _, rfl, if_true_of nw ?_⟩
        refine ⟨_, rfl, _, rfl, _, _, rfl, rfl, _, rfl, _, rfl, _, _, rfl, rfl, _, rfl, _, rfl, a, _, _, _, rfl, rfl, hS4, atI_nat (j := pl + 1) a1, _, _, rfl, rfl, _, rfl, a, _, rfl, hS4, fun N2 hN2 => ?_⟩
        have ecut : cutV (ns.map V.int) (some ((pl : Int) + 1 + 1)) (some ((pl : Int) + 1 + 1 + (ll.length : Int))) = nV ll := by
          have h := cut_mid (ns.map V.int) (i := pl + 2) (j := pl + 2 + ll.length) (by omega) (by rw [List.length_map]; omega)
          rw [Nat.add_sub_cancel_left] at h
          refine Eq.trans h ?_
          rw [← List.map_drop, ← List.map_take, esp, ← hpl, List.drop_append, List.drop_eq_nil_of_le (by omega), List.nil_append, Nat.add_sub_cancel_left, e1]
          show (((ll.map fun (n : Nat) => (n : Int)) ++ PyFlat.put rs).take ll.length).map V.int = nV ll
          rw [List.take_append_of_le_length (by rw [List.length_map]; omega), List.take_of_length_le (by rw [List.length_map]; omega), List.map_map]
          rfl
        rw [ecut]
        have g5 := Same.new hN2 (.lst (nV ll))
        refine ⟨_, rfl, _, _, rfl, rfl, _, rfl, N2, _, rfl, .inl (SqL.of upd_same), _, _, rfl, rfl, ?_⟩
        refine r_told (K := K) (A := A) (H := H) (k := k) (i := 0) (l := ll) rfl rfl rfl rfl rfl (Nat.lt_of_lt_of_le (by decide) (Nat.le_refl 8)) (g3.trans (g4.trans g5)) hsv hFn (sa3.mono (g4.trans g5)) hh ((g4.trans g5) _ _ h3F) nlF (SqL.of upd_same) hlen.1 hlen.2 hz fun H' dx la ys v7 gg sa nla hFF => ?_
        have := fin H' dx la ys ((pl : Int) + 1 + 1 + (((nV ll).length : Nat) : Int)) (some (.int (k : Int))) (some (.int 0)) (some (.ref N2)) (some v7) gg sa nla hFF (by rw [hl1, nV_length]; omega) (by omega)
        exact this
  · rintro σ H7 Q1 Q2 hq ⟨v1, e1, v2, e2, a2, b2, c2, d2, i2, j2, e3, e4, k, ek, qq⟩
    exact ⟨v1, e1, v2, e2, a2, b2, c2, d2, i2, j2, e3, e4, k, ek, hq _ _ qq⟩
end
end Ca
namespace Ca
open PySem PySem.Spec PyProof.Rows L2
open Oc (C Axiom)
/-- an error of the class at S is what «except S» names -/
theorem exm_self {K : PySem.W.Frag} {S : Addr} (h1 : PySem.W.subIn K (.ref S) (.type "BaseException") = some true) (h2 : PySem.W.isClsIn K S = true) (h3 : PySem.W.typeIn K (.ref S) = some (.type "type")) (h4 : PySem.W.subIn K (.ref S) (.ref S) = some true) :
    PySem.W.exmOne K (.ref S) (.ref S) = some true := by
  have e1 : (PySem.W.subIn K (.ref S) (.type "BaseException") == some true) = true := by rw [h1] <;> rfl
  have e2 : ((PySem.W.clsIn K S).isSome && PySem.W.typeIn K (.ref S) == some (.type "type")) = true := by
    have h2' : (PySem.W.clsIn K S).isSome = true := h2
    rw [h2', h3] <;> rfl
  show (if (PySem.W.subIn K (.ref S) (.type "BaseException") == some true) = true then (if ((PySem.W.clsIn K S).isSome && PySem.W.typeIn K (.ref S) == some (.type "type")) = true then PySem.W.subIn K (.ref S) (.ref S) else none) else none) = some true
  rw [if_pos e1, if_pos e2]
  exact h4
theorem all_mk {P : Program} {w : World} {K : PySem.W.Frag} {h : Heap} {mg : Str → Option Value} {fa : Addr} (X : K.In h) (G : h.Ns mainGlobals mg) (hfa : mg "answers" = some (.ref fa))
    {C_Refused : Addr}
    {C_Kinds : Addr}
    {C_Service : Addr}
    {a_initRefused : Addr} {od_initRefused an_initRefused : Option Addr} {sl_initRefused : Array (Option Value)} {oc_initRefused kV_initRefused dc_initRefused pm_initRefused cd_initRefused ct_initRefused : Value}
    {a_want : Addr} {od_want an_want : Option Addr} {sl_want : Array (Option Value)} {oc_want kV_want dc_want pm_want cd_want ct_want : Value}
    {a_number_at : Addr} {od_number_at an_number_at : Option Addr} {sl_number_at : Array (Option Value)} {oc_number_at kV_number_at dc_number_at pm_number_at cd_number_at ct_number_at : Value}
    {a_parts_at : Addr} {od_parts_at an_parts_at : Option Addr} {sl_parts_at : Array (Option Value)} {oc_parts_at kV_parts_at dc_parts_at pm_parts_at cd_parts_at ct_parts_at : Value}
    {a_concept_at : Addr} {od_concept_at an_concept_at : Option Addr} {sl_concept_at : Array (Option Value)} {oc_concept_at kV_concept_at dc_concept_at pm_concept_at cd_concept_at ct_concept_at : Value}
    {a_read_concepts : Addr} {od_read_concepts an_read_concepts : Option Addr} {sl_read_concepts : Array (Option Value)} {oc_read_concepts kV_read_concepts dc_read_concepts pm_read_concepts cd_read_concepts ct_read_concepts : Value}
    {a_parts_of : Addr} {od_parts_of an_parts_of : Option Addr} {sl_parts_of : Array (Option Value)} {oc_parts_of kV_parts_of dc_parts_of pm_parts_of cd_parts_of ct_parts_of : Value}
    {a_atoms_in : Addr} {od_atoms_in an_atoms_in : Option Addr} {sl_atoms_in : Array (Option Value)} {oc_atoms_in kV_atoms_in dc_atoms_in pm_atoms_in cd_atoms_in ct_atoms_in : Value}
    {a_atoms_of : Addr} {od_atoms_of an_atoms_of : Option Addr} {sl_atoms_of : Array (Option Value)} {oc_atoms_of kV_atoms_of dc_atoms_of pm_atoms_of cd_atoms_of ct_atoms_of : Value}
    {a_concepts_of : Addr} {od_concepts_of an_concepts_of : Option Addr} {sl_concepts_of : Array (Option Value)} {oc_concepts_of kV_concepts_of dc_concepts_of pm_concepts_of cd_concepts_of ct_concepts_of : Value}
    {a_has_bit : Addr} {od_has_bit an_has_bit : Option Addr} {sl_has_bit : Array (Option Value)} {oc_has_bit kV_has_bit dc_has_bit pm_has_bit cd_has_bit ct_has_bit : Value}
    {a_members : Addr} {od_members an_members : Option Addr} {sl_members : Array (Option Value)} {oc_members kV_members dc_members pm_members cd_members ct_members : Value}
    {a_set_with : Addr} {od_set_with an_set_with : Option Addr} {sl_set_with : Array (Option Value)} {oc_set_with kV_set_with dc_set_with pm_set_with cd_set_with ct_set_with : Value}
    {a_initKinds : Addr} {od_initKinds an_initKinds : Option Addr} {sl_initKinds : Array (Option Value)} {oc_initKinds kV_initKinds dc_initKinds pm_initKinds cd_initKinds ct_initKinds : Value}
    {a_set_by_bit : Addr} {od_set_by_bit an_set_by_bit : Option Addr} {sl_set_by_bit : Array (Option Value)} {oc_set_by_bit kV_set_by_bit dc_set_by_bit pm_set_by_bit cd_set_by_bit ct_set_by_bit : Value}
    {a_set_of : Addr} {od_set_of an_set_of : Option Addr} {sl_set_of : Array (Option Value)} {oc_set_of kV_set_of dc_set_of pm_set_of cd_set_of ct_set_of : Value}
    {a_without : Addr} {od_without an_without : Option Addr} {sl_without : Array (Option Value)} {oc_without kV_without dc_without pm_without cd_without ct_without : Value}
    {a_inside : Addr} {od_inside an_inside : Option Addr} {sl_inside : Array (Option Value)} {oc_inside kV_inside dc_inside pm_inside cd_inside ct_inside : Value}
    {a_permitted : Addr} {od_permitted an_permitted : Option Addr} {sl_permitted : Array (Option Value)} {oc_permitted kV_permitted dc_permitted pm_permitted cd_permitted ct_permitted : Value}
    {a_is_to_support : Addr} {od_is_to_support an_is_to_support : Option Addr} {sl_is_to_support : Array (Option Value)} {oc_is_to_support kV_is_to_support dc_is_to_support pm_is_to_support cd_is_to_support ct_is_to_support : Value}
    {a_to_support : Addr} {od_to_support an_to_support : Option Addr} {sl_to_support : Array (Option Value)} {oc_to_support kV_to_support dc_to_support pm_to_support cd_to_support ct_to_support : Value}
    {a_supporting : Addr} {od_supporting an_supporting : Option Addr} {sl_supporting : Array (Option Value)} {oc_supporting kV_supporting dc_supporting pm_supporting cd_supporting ct_supporting : Value}
    {a_possible_by : Addr} {od_possible_by an_possible_by : Option Addr} {sl_possible_by : Array (Option Value)} {oc_possible_by kV_possible_by dc_possible_by pm_possible_by cd_possible_by ct_possible_by : Value}
    {a_first_of : Addr} {od_first_of an_first_of : Option Addr} {sl_first_of : Array (Option Value)} {oc_first_of kV_first_of dc_first_of pm_first_of cd_first_of ct_first_of : Value}
    {a_is_possible : Addr} {od_is_possible an_is_possible : Option Addr} {sl_is_possible : Array (Option Value)} {oc_is_possible kV_is_possible dc_is_possible pm_is_possible cd_is_possible ct_is_possible : Value}
    {a_first_alone : Addr} {od_first_alone an_first_alone : Option Addr} {sl_first_alone : Array (Option Value)} {oc_first_alone kV_first_alone dc_first_alone pm_first_alone cd_first_alone ct_first_alone : Value}
    {a_is_subsumed : Addr} {od_is_subsumed an_is_subsumed : Option Addr} {sl_is_subsumed : Array (Option Value)} {oc_is_subsumed kV_is_subsumed dc_is_subsumed pm_is_subsumed cd_is_subsumed ct_is_subsumed : Value}
    {a_names_number : Addr} {od_names_number an_names_number : Option Addr} {sl_names_number : Array (Option Value)} {oc_names_number kV_names_number dc_names_number pm_names_number cd_names_number ct_names_number : Value}
    {a_relations_of : Addr} {od_relations_of an_relations_of : Option Addr} {sl_relations_of : Array (Option Value)} {oc_relations_of kV_relations_of dc_relations_of pm_relations_of cd_relations_of ct_relations_of : Value}
    {a_model_told : Addr} {od_model_told an_model_told : Option Addr} {sl_model_told : Array (Option Value)} {oc_model_told kV_model_told dc_model_told pm_model_told cd_model_told ct_model_told : Value}
    {a_with_name : Addr} {od_with_name an_with_name : Option Addr} {sl_with_name : Array (Option Value)} {oc_with_name kV_with_name dc_with_name pm_with_name cd_with_name ct_with_name : Value}
    {a_without_name : Addr} {od_without_name an_without_name : Option Addr} {sl_without_name : Array (Option Value)} {oc_without_name kV_without_name dc_without_name pm_without_name cd_without_name ct_without_name : Value}
    {a_is_name_under : Addr} {od_is_name_under an_is_name_under : Option Addr} {sl_is_name_under : Array (Option Value)} {oc_is_name_under kV_is_name_under dc_is_name_under pm_is_name_under cd_is_name_under ct_is_name_under : Value}
    {a_names_told : Addr} {od_names_told an_names_told : Option Addr} {sl_names_told : Array (Option Value)} {oc_names_told kV_names_told dc_names_told pm_names_told cd_names_told ct_names_told : Value}
    {a_is_spare : Addr} {od_is_spare an_is_spare : Option Addr} {sl_is_spare : Array (Option Value)} {oc_is_spare kV_is_spare dc_is_spare pm_is_spare cd_is_spare ct_is_spare : Value}
    {a_initService : Addr} {od_initService an_initService : Option Addr} {sl_initService : Array (Option Value)} {oc_initService kV_initService dc_initService pm_initService cd_initService ct_initService : Value}
    {a_want_few_atoms : Addr} {od_want_few_atoms an_want_few_atoms : Option Addr} {sl_want_few_atoms : Array (Option Value)} {oc_want_few_atoms kV_want_few_atoms dc_want_few_atoms pm_want_few_atoms cd_want_few_atoms ct_want_few_atoms : Value}
    {a_told_concepts : Addr} {od_told_concepts an_told_concepts : Option Addr} {sl_told_concepts : Array (Option Value)} {oc_told_concepts kV_told_concepts dc_told_concepts pm_told_concepts cd_told_concepts ct_told_concepts : Value}
    {a_begins : Addr} {od_begins an_begins : Option Addr} {sl_begins : Array (Option Value)} {oc_begins kV_begins dc_begins pm_begins cd_begins ct_begins : Value}
    {a_line : Addr} {od_line an_line : Option Addr} {sl_line : Array (Option Value)} {oc_line kV_line dc_line pm_line cd_line ct_line : Value}
    {a_drop : Addr} {od_drop an_drop : Option Addr} {sl_drop : Array (Option Value)} {oc_drop kV_drop dc_drop pm_drop cd_drop ct_drop : Value}
    {a_can : Addr} {od_can an_can : Option Addr} {sl_can : Array (Option Value)} {oc_can kV_can dc_can pm_can cd_can ct_can : Value}
    {a_under : Addr} {od_under an_under : Option Addr} {sl_under : Array (Option Value)} {oc_under kV_under dc_under pm_under cd_under ct_under : Value}
    {a_reported : Addr} {od_reported an_reported : Option Addr} {sl_reported : Array (Option Value)} {oc_reported kV_reported dc_reported pm_reported cd_reported ct_reported : Value}
    {a_model : Addr} {od_model an_model : Option Addr} {sl_model : Array (Option Value)} {oc_model kV_model dc_model pm_model cd_model ct_model : Value}
    {a_against : Addr} {od_against an_against : Option Addr} {sl_against : Array (Option Value)} {oc_against kV_against dc_against pm_against cd_against ct_against : Value}
    {a_names : Addr} {od_names an_names : Option Addr} {sl_names : Array (Option Value)} {oc_names kV_names dc_names pm_names cd_names ct_names : Value}
    {a_spare : Addr} {od_spare an_spare : Option Addr} {sl_spare : Array (Option Value)} {oc_spare kV_spare dc_spare pm_spare cd_spare ct_spare : Value}
    {a_done : Addr} {od_done an_done : Option Addr} {sl_done : Array (Option Value)} {oc_done kV_done dc_done pm_done cd_done ct_done : Value}
    {a_answer : Addr} {od_answer an_answer : Option Addr} {sl_answer : Array (Option Value)} {oc_answer kV_answer dc_answer pm_answer cd_answer ct_answer : Value}
    {a_answers : Addr} {od_answers an_answers : Option Addr} {sl_answers : Array (Option Value)} {oc_answers kV_answers dc_answers pm_answers cd_answers ct_answers : Value}
    {t_ALL : Tok}
    {t_NO_ONE : Tok}
    {t_NAME : Tok}
    {t_BOTH : Tok}
    {t_EITHER : Tok}
    {t_NOT : Tok}
    {t_SOME : Tok}
    {t_EVERY : Tok}
    {t_MOST_NAME : Tok}
    {t_MOST_ROLE : Tok}
    {t_NO_CONCEPTS : Tok}
    {t_NO_AXIOM : Tok}
    {t_NO_MODEL : Tok}
    {t_TOO_MANY : Tok}
    {t_MOST_AXIOMS : Tok}
    {t_MOST_ATOMS : Tok}
    {t_DROP : Tok}
    {a_WITH_LIST : Addr} {tw1 tw2 tw3 tw4 tw5 : Tok} {nw : Nat} {slw : Array (Option Value)} {odw : Option Addr}
    {xnm xq : Str} {xN : Addr} {xbs : List Value} {xsn : List Str} {xsub : List Value} {xab : Bool} {xcol : Option Bool} {xdd : Option Addr} {xm0 xm1 xm2 xm3 xm5 : Option Value}
    (g_Refused : PySem.W.nsIn K mainGlobals "Refused" = some (some (.ref C_Refused)))
    (g_Kinds : PySem.W.nsIn K mainGlobals "Kinds" = some (some (.ref C_Kinds)))
    (g_Service : PySem.W.nsIn K mainGlobals "Service" = some (some (.ref C_Service)))
    (n_initRefused : PySem.W.findIn K (.ref C_Refused) "__init__" = some (some (.ref a_initRefused)))
    (i_initRefused : PySem.W.typeIn K (.ref a_initRefused) = some (.type "function"))
    (l_initRefused : K.lookup a_initRefused = some ⟨oc_initRefused, od_initRefused, .func (PySem.W.fnOf "__init__" "Refused.__init__" (defArgs s_initRefused) (defBody s_initRefused) (defScope s_initRefused) .none kV_initRefused dc_initRefused pm_initRefused an_initRefused cd_initRefused ct_initRefused), sl_initRefused⟩)
    (c_initRefused : PySem.W.codeIn K cd_initRefused "Refused.__init__" = true)
    (k_initRefused : PySem.W.keepIn K (.ref a_initRefused) = true)
    (n_want : PySem.W.nsIn K mainGlobals "want" = some (some (.ref a_want)))
    (l_want : K.lookup a_want = some ⟨oc_want, od_want, .func (PySem.W.fnOf "want" "want" (defArgs s_want) (defBody s_want) (defScope s_want) .none kV_want dc_want pm_want an_want cd_want ct_want), sl_want⟩)
    (c_want : PySem.W.codeIn K cd_want "want" = true)
    (k_want : PySem.W.keepIn K (.ref a_want) = true)
    (n_number_at : PySem.W.nsIn K mainGlobals "number_at" = some (some (.ref a_number_at)))
    (l_number_at : K.lookup a_number_at = some ⟨oc_number_at, od_number_at, .func (PySem.W.fnOf "number_at" "number_at" (defArgs s_number_at) (defBody s_number_at) (defScope s_number_at) .none kV_number_at dc_number_at pm_number_at an_number_at cd_number_at ct_number_at), sl_number_at⟩)
    (c_number_at : PySem.W.codeIn K cd_number_at "number_at" = true)
    (k_number_at : PySem.W.keepIn K (.ref a_number_at) = true)
    (n_parts_at : PySem.W.nsIn K mainGlobals "parts_at" = some (some (.ref a_parts_at)))
    (l_parts_at : K.lookup a_parts_at = some ⟨oc_parts_at, od_parts_at, .func (PySem.W.fnOf "parts_at" "parts_at" (defArgs s_parts_at) (defBody s_parts_at) (defScope s_parts_at) .none kV_parts_at dc_parts_at pm_parts_at an_parts_at cd_parts_at ct_parts_at), sl_parts_at⟩)
    (c_parts_at : PySem.W.codeIn K cd_parts_at "parts_at" = true)
    (k_parts_at : PySem.W.keepIn K (.ref a_parts_at) = true)
    (n_concept_at : PySem.W.nsIn K mainGlobals "concept_at" = some (some (.ref a_concept_at)))
    (l_concept_at : K.lookup a_concept_at = some ⟨oc_concept_at, od_concept_at, .func (PySem.W.fnOf "concept_at" "concept_at" (defArgs s_concept_at) (defBody s_concept_at) (defScope s_concept_at) .none kV_concept_at dc_concept_at pm_concept_at an_concept_at cd_concept_at ct_concept_at), sl_concept_at⟩)
    (c_concept_at : PySem.W.codeIn K cd_concept_at "concept_at" = true)
    (k_concept_at : PySem.W.keepIn K (.ref a_concept_at) = true)
    (n_read_concepts : PySem.W.nsIn K mainGlobals "read_concepts" = some (some (.ref a_read_concepts)))
    (l_read_concepts : K.lookup a_read_concepts = some ⟨oc_read_concepts, od_read_concepts, .func (PySem.W.fnOf "read_concepts" "read_concepts" (defArgs s_read_concepts) (defBody s_read_concepts) (defScope s_read_concepts) .none kV_read_concepts dc_read_concepts pm_read_concepts an_read_concepts cd_read_concepts ct_read_concepts), sl_read_concepts⟩)
    (c_read_concepts : PySem.W.codeIn K cd_read_concepts "read_concepts" = true)
    (k_read_concepts : PySem.W.keepIn K (.ref a_read_concepts) = true)
    (n_parts_of : PySem.W.nsIn K mainGlobals "parts_of" = some (some (.ref a_parts_of)))
    (l_parts_of : K.lookup a_parts_of = some ⟨oc_parts_of, od_parts_of, .func (PySem.W.fnOf "parts_of" "parts_of" (defArgs s_parts_of) (defBody s_parts_of) (defScope s_parts_of) .none kV_parts_of dc_parts_of pm_parts_of an_parts_of cd_parts_of ct_parts_of), sl_parts_of⟩)
    (c_parts_of : PySem.W.codeIn K cd_parts_of "parts_of" = true)
    (k_parts_of : PySem.W.keepIn K (.ref a_parts_of) = true)
    (n_atoms_in : PySem.W.nsIn K mainGlobals "atoms_in" = some (some (.ref a_atoms_in)))
    (l_atoms_in : K.lookup a_atoms_in = some ⟨oc_atoms_in, od_atoms_in, .func (PySem.W.fnOf "atoms_in" "atoms_in" (defArgs s_atoms_in) (defBody s_atoms_in) (defScope s_atoms_in) .none kV_atoms_in dc_atoms_in pm_atoms_in an_atoms_in cd_atoms_in ct_atoms_in), sl_atoms_in⟩)
    (c_atoms_in : PySem.W.codeIn K cd_atoms_in "atoms_in" = true)
    (k_atoms_in : PySem.W.keepIn K (.ref a_atoms_in) = true)
    (n_atoms_of : PySem.W.nsIn K mainGlobals "atoms_of" = some (some (.ref a_atoms_of)))
    (l_atoms_of : K.lookup a_atoms_of = some ⟨oc_atoms_of, od_atoms_of, .func (PySem.W.fnOf "atoms_of" "atoms_of" (defArgs s_atoms_of) (defBody s_atoms_of) (defScope s_atoms_of) .none kV_atoms_of dc_atoms_of pm_atoms_of an_atoms_of cd_atoms_of ct_atoms_of), sl_atoms_of⟩)
    (c_atoms_of : PySem.W.codeIn K cd_atoms_of "atoms_of" = true)
    (k_atoms_of : PySem.W.keepIn K (.ref a_atoms_of) = true)
    (n_concepts_of : PySem.W.nsIn K mainGlobals "concepts_of" = some (some (.ref a_concepts_of)))
    (l_concepts_of : K.lookup a_concepts_of = some ⟨oc_concepts_of, od_concepts_of, .func (PySem.W.fnOf "concepts_of" "concepts_of" (defArgs s_concepts_of) (defBody s_concepts_of) (defScope s_concepts_of) .none kV_concepts_of dc_concepts_of pm_concepts_of an_concepts_of cd_concepts_of ct_concepts_of), sl_concepts_of⟩)
    (c_concepts_of : PySem.W.codeIn K cd_concepts_of "concepts_of" = true)
    (k_concepts_of : PySem.W.keepIn K (.ref a_concepts_of) = true)
    (n_has_bit : PySem.W.nsIn K mainGlobals "has_bit" = some (some (.ref a_has_bit)))
    (l_has_bit : K.lookup a_has_bit = some ⟨oc_has_bit, od_has_bit, .func (PySem.W.fnOf "has_bit" "has_bit" (defArgs s_has_bit) (defBody s_has_bit) (defScope s_has_bit) .none kV_has_bit dc_has_bit pm_has_bit an_has_bit cd_has_bit ct_has_bit), sl_has_bit⟩)
    (c_has_bit : PySem.W.codeIn K cd_has_bit "has_bit" = true)
    (k_has_bit : PySem.W.keepIn K (.ref a_has_bit) = true)
    (n_members : PySem.W.nsIn K mainGlobals "members" = some (some (.ref a_members)))
    (l_members : K.lookup a_members = some ⟨oc_members, od_members, .func (PySem.W.fnOf "members" "members" (defArgs s_members) (defBody s_members) (defScope s_members) .none kV_members dc_members pm_members an_members cd_members ct_members), sl_members⟩)
    (c_members : PySem.W.codeIn K cd_members "members" = true)
    (k_members : PySem.W.keepIn K (.ref a_members) = true)
    (n_set_with : PySem.W.nsIn K mainGlobals "set_with" = some (some (.ref a_set_with)))
    (l_set_with : K.lookup a_set_with = some ⟨oc_set_with, od_set_with, .func (PySem.W.fnOf "set_with" "set_with" (defArgs s_set_with) (defBody s_set_with) (defScope s_set_with) .none kV_set_with dc_set_with pm_set_with an_set_with cd_set_with ct_set_with), sl_set_with⟩)
    (c_set_with : PySem.W.codeIn K cd_set_with "set_with" = true)
    (k_set_with : PySem.W.keepIn K (.ref a_set_with) = true)
    (n_initKinds : PySem.W.findIn K (.ref C_Kinds) "__init__" = some (some (.ref a_initKinds)))
    (i_initKinds : PySem.W.isFn K (.ref a_initKinds) = true)
    (l_initKinds : K.lookup a_initKinds = some ⟨oc_initKinds, od_initKinds, .func (PySem.W.fnOf "__init__" "Kinds.__init__" (defArgs s_initKinds) (defBody s_initKinds) (defScope s_initKinds) .none kV_initKinds dc_initKinds pm_initKinds an_initKinds cd_initKinds ct_initKinds), sl_initKinds⟩)
    (c_initKinds : PySem.W.codeIn K cd_initKinds "Kinds.__init__" = true)
    (k_initKinds : PySem.W.keepIn K (.ref a_initKinds) = true)
    (n_set_by_bit : PySem.W.findIn K (.ref C_Kinds) "set_by_bit" = some (some (.ref a_set_by_bit)))
    (i_set_by_bit : PySem.W.isFn K (.ref a_set_by_bit) = true)
    (l_set_by_bit : K.lookup a_set_by_bit = some ⟨oc_set_by_bit, od_set_by_bit, .func (PySem.W.fnOf "set_by_bit" "Kinds.set_by_bit" (defArgs s_set_by_bit) (defBody s_set_by_bit) (defScope s_set_by_bit) .none kV_set_by_bit dc_set_by_bit pm_set_by_bit an_set_by_bit cd_set_by_bit ct_set_by_bit), sl_set_by_bit⟩)
    (c_set_by_bit : PySem.W.codeIn K cd_set_by_bit "Kinds.set_by_bit" = true)
    (k_set_by_bit : PySem.W.keepIn K (.ref a_set_by_bit) = true)
    (n_set_of : PySem.W.findIn K (.ref C_Kinds) "set_of" = some (some (.ref a_set_of)))
    (i_set_of : PySem.W.isFn K (.ref a_set_of) = true)
    (l_set_of : K.lookup a_set_of = some ⟨oc_set_of, od_set_of, .func (PySem.W.fnOf "set_of" "Kinds.set_of" (defArgs s_set_of) (defBody s_set_of) (defScope s_set_of) .none kV_set_of dc_set_of pm_set_of an_set_of cd_set_of ct_set_of), sl_set_of⟩)
    (c_set_of : PySem.W.codeIn K cd_set_of "Kinds.set_of" = true)
    (k_set_of : PySem.W.keepIn K (.ref a_set_of) = true)
    (n_without : PySem.W.findIn K (.ref C_Kinds) "without" = some (some (.ref a_without)))
    (i_without : PySem.W.isFn K (.ref a_without) = true)
    (l_without : K.lookup a_without = some ⟨oc_without, od_without, .func (PySem.W.fnOf "without" "Kinds.without" (defArgs s_without) (defBody s_without) (defScope s_without) .none kV_without dc_without pm_without an_without cd_without ct_without), sl_without⟩)
    (c_without : PySem.W.codeIn K cd_without "Kinds.without" = true)
    (k_without : PySem.W.keepIn K (.ref a_without) = true)
    (n_inside : PySem.W.findIn K (.ref C_Kinds) "inside" = some (some (.ref a_inside)))
    (i_inside : PySem.W.isFn K (.ref a_inside) = true)
    (l_inside : K.lookup a_inside = some ⟨oc_inside, od_inside, .func (PySem.W.fnOf "inside" "Kinds.inside" (defArgs s_inside) (defBody s_inside) (defScope s_inside) .none kV_inside dc_inside pm_inside an_inside cd_inside ct_inside), sl_inside⟩)
    (c_inside : PySem.W.codeIn K cd_inside "Kinds.inside" = true)
    (k_inside : PySem.W.keepIn K (.ref a_inside) = true)
    (n_permitted : PySem.W.findIn K (.ref C_Kinds) "permitted" = some (some (.ref a_permitted)))
    (i_permitted : PySem.W.isFn K (.ref a_permitted) = true)
    (l_permitted : K.lookup a_permitted = some ⟨oc_permitted, od_permitted, .func (PySem.W.fnOf "permitted" "Kinds.permitted" (defArgs s_permitted) (defBody s_permitted) (defScope s_permitted) .none kV_permitted dc_permitted pm_permitted an_permitted cd_permitted ct_permitted), sl_permitted⟩)
    (c_permitted : PySem.W.codeIn K cd_permitted "Kinds.permitted" = true)
    (k_permitted : PySem.W.keepIn K (.ref a_permitted) = true)
    (n_is_to_support : PySem.W.findIn K (.ref C_Kinds) "is_to_support" = some (some (.ref a_is_to_support)))
    (i_is_to_support : PySem.W.isFn K (.ref a_is_to_support) = true)
    (l_is_to_support : K.lookup a_is_to_support = some ⟨oc_is_to_support, od_is_to_support, .func (PySem.W.fnOf "is_to_support" "Kinds.is_to_support" (defArgs s_is_to_support) (defBody s_is_to_support) (defScope s_is_to_support) .none kV_is_to_support dc_is_to_support pm_is_to_support an_is_to_support cd_is_to_support ct_is_to_support), sl_is_to_support⟩)
    (c_is_to_support : PySem.W.codeIn K cd_is_to_support "Kinds.is_to_support" = true)
    (k_is_to_support : PySem.W.keepIn K (.ref a_is_to_support) = true)
    (n_to_support : PySem.W.findIn K (.ref C_Kinds) "to_support" = some (some (.ref a_to_support)))
    (i_to_support : PySem.W.isFn K (.ref a_to_support) = true)
    (l_to_support : K.lookup a_to_support = some ⟨oc_to_support, od_to_support, .func (PySem.W.fnOf "to_support" "Kinds.to_support" (defArgs s_to_support) (defBody s_to_support) (defScope s_to_support) .none kV_to_support dc_to_support pm_to_support an_to_support cd_to_support ct_to_support), sl_to_support⟩)
    (c_to_support : PySem.W.codeIn K cd_to_support "Kinds.to_support" = true)
    (k_to_support : PySem.W.keepIn K (.ref a_to_support) = true)
    (n_supporting : PySem.W.findIn K (.ref C_Kinds) "supporting" = some (some (.ref a_supporting)))
    (i_supporting : PySem.W.isFn K (.ref a_supporting) = true)
    (l_supporting : K.lookup a_supporting = some ⟨oc_supporting, od_supporting, .func (PySem.W.fnOf "supporting" "Kinds.supporting" (defArgs s_supporting) (defBody s_supporting) (defScope s_supporting) .none kV_supporting dc_supporting pm_supporting an_supporting cd_supporting ct_supporting), sl_supporting⟩)
    (c_supporting : PySem.W.codeIn K cd_supporting "Kinds.supporting" = true)
    (k_supporting : PySem.W.keepIn K (.ref a_supporting) = true)
    (n_possible_by : PySem.W.findIn K (.ref C_Kinds) "possible_by" = some (some (.ref a_possible_by)))
    (i_possible_by : PySem.W.isFn K (.ref a_possible_by) = true)
    (l_possible_by : K.lookup a_possible_by = some ⟨oc_possible_by, od_possible_by, .func (PySem.W.fnOf "possible_by" "Kinds.possible_by" (defArgs s_possible_by) (defBody s_possible_by) (defScope s_possible_by) .none kV_possible_by dc_possible_by pm_possible_by an_possible_by cd_possible_by ct_possible_by), sl_possible_by⟩)
    (c_possible_by : PySem.W.codeIn K cd_possible_by "Kinds.possible_by" = true)
    (k_possible_by : PySem.W.keepIn K (.ref a_possible_by) = true)
    (n_first_of : PySem.W.findIn K (.ref C_Kinds) "first_of" = some (some (.ref a_first_of)))
    (i_first_of : PySem.W.isFn K (.ref a_first_of) = true)
    (l_first_of : K.lookup a_first_of = some ⟨oc_first_of, od_first_of, .func (PySem.W.fnOf "first_of" "Kinds.first_of" (defArgs s_first_of) (defBody s_first_of) (defScope s_first_of) .none kV_first_of dc_first_of pm_first_of an_first_of cd_first_of ct_first_of), sl_first_of⟩)
    (c_first_of : PySem.W.codeIn K cd_first_of "Kinds.first_of" = true)
    (k_first_of : PySem.W.keepIn K (.ref a_first_of) = true)
    (n_is_possible : PySem.W.nsIn K mainGlobals "is_possible" = some (some (.ref a_is_possible)))
    (l_is_possible : K.lookup a_is_possible = some ⟨oc_is_possible, od_is_possible, .func (PySem.W.fnOf "is_possible" "is_possible" (defArgs s_is_possible) (defBody s_is_possible) (defScope s_is_possible) .none kV_is_possible dc_is_possible pm_is_possible an_is_possible cd_is_possible ct_is_possible), sl_is_possible⟩)
    (c_is_possible : PySem.W.codeIn K cd_is_possible "is_possible" = true)
    (k_is_possible : PySem.W.keepIn K (.ref a_is_possible) = true)
    (n_first_alone : PySem.W.nsIn K mainGlobals "first_alone" = some (some (.ref a_first_alone)))
    (l_first_alone : K.lookup a_first_alone = some ⟨oc_first_alone, od_first_alone, .func (PySem.W.fnOf "first_alone" "first_alone" (defArgs s_first_alone) (defBody s_first_alone) (defScope s_first_alone) .none kV_first_alone dc_first_alone pm_first_alone an_first_alone cd_first_alone ct_first_alone), sl_first_alone⟩)
    (c_first_alone : PySem.W.codeIn K cd_first_alone "first_alone" = true)
    (k_first_alone : PySem.W.keepIn K (.ref a_first_alone) = true)
    (n_is_subsumed : PySem.W.nsIn K mainGlobals "is_subsumed" = some (some (.ref a_is_subsumed)))
    (l_is_subsumed : K.lookup a_is_subsumed = some ⟨oc_is_subsumed, od_is_subsumed, .func (PySem.W.fnOf "is_subsumed" "is_subsumed" (defArgs s_is_subsumed) (defBody s_is_subsumed) (defScope s_is_subsumed) .none kV_is_subsumed dc_is_subsumed pm_is_subsumed an_is_subsumed cd_is_subsumed ct_is_subsumed), sl_is_subsumed⟩)
    (c_is_subsumed : PySem.W.codeIn K cd_is_subsumed "is_subsumed" = true)
    (k_is_subsumed : PySem.W.keepIn K (.ref a_is_subsumed) = true)
    (n_names_number : PySem.W.nsIn K mainGlobals "names_number" = some (some (.ref a_names_number)))
    (l_names_number : K.lookup a_names_number = some ⟨oc_names_number, od_names_number, .func (PySem.W.fnOf "names_number" "names_number" (defArgs s_names_number) (defBody s_names_number) (defScope s_names_number) .none kV_names_number dc_names_number pm_names_number an_names_number cd_names_number ct_names_number), sl_names_number⟩)
    (c_names_number : PySem.W.codeIn K cd_names_number "names_number" = true)
    (k_names_number : PySem.W.keepIn K (.ref a_names_number) = true)
    (n_relations_of : PySem.W.nsIn K mainGlobals "relations_of" = some (some (.ref a_relations_of)))
    (l_relations_of : K.lookup a_relations_of = some ⟨oc_relations_of, od_relations_of, .func (PySem.W.fnOf "relations_of" "relations_of" (defArgs s_relations_of) (defBody s_relations_of) (defScope s_relations_of) .none kV_relations_of dc_relations_of pm_relations_of an_relations_of cd_relations_of ct_relations_of), sl_relations_of⟩)
    (c_relations_of : PySem.W.codeIn K cd_relations_of "relations_of" = true)
    (k_relations_of : PySem.W.keepIn K (.ref a_relations_of) = true)
    (n_model_told : PySem.W.nsIn K mainGlobals "model_told" = some (some (.ref a_model_told)))
    (l_model_told : K.lookup a_model_told = some ⟨oc_model_told, od_model_told, .func (PySem.W.fnOf "model_told" "model_told" (defArgs s_model_told) (defBody s_model_told) (defScope s_model_told) .none kV_model_told dc_model_told pm_model_told an_model_told cd_model_told ct_model_told), sl_model_told⟩)
    (c_model_told : PySem.W.codeIn K cd_model_told "model_told" = true)
    (k_model_told : PySem.W.keepIn K (.ref a_model_told) = true)
    (n_with_name : PySem.W.nsIn K mainGlobals "with_name" = some (some (.ref a_with_name)))
    (l_with_name : K.lookup a_with_name = some ⟨oc_with_name, od_with_name, .func (PySem.W.fnOf "with_name" "with_name" (defArgs s_with_name) (defBody s_with_name) (defScope s_with_name) .none kV_with_name dc_with_name pm_with_name an_with_name cd_with_name ct_with_name), sl_with_name⟩)
    (c_with_name : PySem.W.codeIn K cd_with_name "with_name" = true)
    (k_with_name : PySem.W.keepIn K (.ref a_with_name) = true)
    (n_without_name : PySem.W.nsIn K mainGlobals "without_name" = some (some (.ref a_without_name)))
    (l_without_name : K.lookup a_without_name = some ⟨oc_without_name, od_without_name, .func (PySem.W.fnOf "without_name" "without_name" (defArgs s_without_name) (defBody s_without_name) (defScope s_without_name) .none kV_without_name dc_without_name pm_without_name an_without_name cd_without_name ct_without_name), sl_without_name⟩)
    (c_without_name : PySem.W.codeIn K cd_without_name "without_name" = true)
    (k_without_name : PySem.W.keepIn K (.ref a_without_name) = true)
    (n_is_name_under : PySem.W.nsIn K mainGlobals "is_name_under" = some (some (.ref a_is_name_under)))
    (l_is_name_under : K.lookup a_is_name_under = some ⟨oc_is_name_under, od_is_name_under, .func (PySem.W.fnOf "is_name_under" "is_name_under" (defArgs s_is_name_under) (defBody s_is_name_under) (defScope s_is_name_under) .none kV_is_name_under dc_is_name_under pm_is_name_under an_is_name_under cd_is_name_under ct_is_name_under), sl_is_name_under⟩)
    (c_is_name_under : PySem.W.codeIn K cd_is_name_under "is_name_under" = true)
    (k_is_name_under : PySem.W.keepIn K (.ref a_is_name_under) = true)
    (n_names_told : PySem.W.nsIn K mainGlobals "names_told" = some (some (.ref a_names_told)))
    (l_names_told : K.lookup a_names_told = some ⟨oc_names_told, od_names_told, .func (PySem.W.fnOf "names_told" "names_told" (defArgs s_names_told) (defBody s_names_told) (defScope s_names_told) .none kV_names_told dc_names_told pm_names_told an_names_told cd_names_told ct_names_told), sl_names_told⟩)
    (c_names_told : PySem.W.codeIn K cd_names_told "names_told" = true)
    (k_names_told : PySem.W.keepIn K (.ref a_names_told) = true)
    (n_is_spare : PySem.W.nsIn K mainGlobals "is_spare" = some (some (.ref a_is_spare)))
    (l_is_spare : K.lookup a_is_spare = some ⟨oc_is_spare, od_is_spare, .func (PySem.W.fnOf "is_spare" "is_spare" (defArgs s_is_spare) (defBody s_is_spare) (defScope s_is_spare) .none kV_is_spare dc_is_spare pm_is_spare an_is_spare cd_is_spare ct_is_spare), sl_is_spare⟩)
    (c_is_spare : PySem.W.codeIn K cd_is_spare "is_spare" = true)
    (k_is_spare : PySem.W.keepIn K (.ref a_is_spare) = true)
    (n_initService : PySem.W.findIn K (.ref C_Service) "__init__" = some (some (.ref a_initService)))
    (i_initService : PySem.W.isFn K (.ref a_initService) = true)
    (l_initService : K.lookup a_initService = some ⟨oc_initService, od_initService, .func (PySem.W.fnOf "__init__" "Service.__init__" (defArgs s_initService) (defBody s_initService) (defScope s_initService) .none kV_initService dc_initService pm_initService an_initService cd_initService ct_initService), sl_initService⟩)
    (c_initService : PySem.W.codeIn K cd_initService "Service.__init__" = true)
    (k_initService : PySem.W.keepIn K (.ref a_initService) = true)
    (n_want_few_atoms : PySem.W.findIn K (.ref C_Service) "want_few_atoms" = some (some (.ref a_want_few_atoms)))
    (i_want_few_atoms : PySem.W.isFn K (.ref a_want_few_atoms) = true)
    (l_want_few_atoms : K.lookup a_want_few_atoms = some ⟨oc_want_few_atoms, od_want_few_atoms, .func (PySem.W.fnOf "want_few_atoms" "Service.want_few_atoms" (defArgs s_want_few_atoms) (defBody s_want_few_atoms) (defScope s_want_few_atoms) .none kV_want_few_atoms dc_want_few_atoms pm_want_few_atoms an_want_few_atoms cd_want_few_atoms ct_want_few_atoms), sl_want_few_atoms⟩)
    (c_want_few_atoms : PySem.W.codeIn K cd_want_few_atoms "Service.want_few_atoms" = true)
    (k_want_few_atoms : PySem.W.keepIn K (.ref a_want_few_atoms) = true)
    (n_told_concepts : PySem.W.findIn K (.ref C_Service) "told_concepts" = some (some (.ref a_told_concepts)))
    (i_told_concepts : PySem.W.isFn K (.ref a_told_concepts) = true)
    (l_told_concepts : K.lookup a_told_concepts = some ⟨oc_told_concepts, od_told_concepts, .func (PySem.W.fnOf "told_concepts" "Service.told_concepts" (defArgs s_told_concepts) (defBody s_told_concepts) (defScope s_told_concepts) .none kV_told_concepts dc_told_concepts pm_told_concepts an_told_concepts cd_told_concepts ct_told_concepts), sl_told_concepts⟩)
    (c_told_concepts : PySem.W.codeIn K cd_told_concepts "Service.told_concepts" = true)
    (k_told_concepts : PySem.W.keepIn K (.ref a_told_concepts) = true)
    (n_begins : PySem.W.findIn K (.ref C_Service) "begins" = some (some (.ref a_begins)))
    (i_begins : PySem.W.isFn K (.ref a_begins) = true)
    (l_begins : K.lookup a_begins = some ⟨oc_begins, od_begins, .func (PySem.W.fnOf "begins" "Service.begins" (defArgs s_begins) (defBody s_begins) (defScope s_begins) .none kV_begins dc_begins pm_begins an_begins cd_begins ct_begins), sl_begins⟩)
    (c_begins : PySem.W.codeIn K cd_begins "Service.begins" = true)
    (k_begins : PySem.W.keepIn K (.ref a_begins) = true)
    (n_line : PySem.W.findIn K (.ref C_Service) "line" = some (some (.ref a_line)))
    (i_line : PySem.W.isFn K (.ref a_line) = true)
    (l_line : K.lookup a_line = some ⟨oc_line, od_line, .func (PySem.W.fnOf "line" "Service.line" (defArgs s_line) (defBody s_line) (defScope s_line) .none kV_line dc_line pm_line an_line cd_line ct_line), sl_line⟩)
    (c_line : PySem.W.codeIn K cd_line "Service.line" = true)
    (k_line : PySem.W.keepIn K (.ref a_line) = true)
    (n_drop : PySem.W.findIn K (.ref C_Service) "drop" = some (some (.ref a_drop)))
    (i_drop : PySem.W.isFn K (.ref a_drop) = true)
    (l_drop : K.lookup a_drop = some ⟨oc_drop, od_drop, .func (PySem.W.fnOf "drop" "Service.drop" (defArgs s_drop) (defBody s_drop) (defScope s_drop) .none kV_drop dc_drop pm_drop an_drop cd_drop ct_drop), sl_drop⟩)
    (c_drop : PySem.W.codeIn K cd_drop "Service.drop" = true)
    (k_drop : PySem.W.keepIn K (.ref a_drop) = true)
    (n_can : PySem.W.findIn K (.ref C_Service) "can" = some (some (.ref a_can)))
    (i_can : PySem.W.isFn K (.ref a_can) = true)
    (l_can : K.lookup a_can = some ⟨oc_can, od_can, .func (PySem.W.fnOf "can" "Service.can" (defArgs s_can) (defBody s_can) (defScope s_can) .none kV_can dc_can pm_can an_can cd_can ct_can), sl_can⟩)
    (c_can : PySem.W.codeIn K cd_can "Service.can" = true)
    (k_can : PySem.W.keepIn K (.ref a_can) = true)
    (n_under : PySem.W.findIn K (.ref C_Service) "under" = some (some (.ref a_under)))
    (i_under : PySem.W.isFn K (.ref a_under) = true)
    (l_under : K.lookup a_under = some ⟨oc_under, od_under, .func (PySem.W.fnOf "under" "Service.under" (defArgs s_under) (defBody s_under) (defScope s_under) .none kV_under dc_under pm_under an_under cd_under ct_under), sl_under⟩)
    (c_under : PySem.W.codeIn K cd_under "Service.under" = true)
    (k_under : PySem.W.keepIn K (.ref a_under) = true)
    (n_reported : PySem.W.findIn K (.ref C_Service) "reported" = some (some (.ref a_reported)))
    (i_reported : PySem.W.isFn K (.ref a_reported) = true)
    (l_reported : K.lookup a_reported = some ⟨oc_reported, od_reported, .func (PySem.W.fnOf "reported" "Service.reported" (defArgs s_reported) (defBody s_reported) (defScope s_reported) .none kV_reported dc_reported pm_reported an_reported cd_reported ct_reported), sl_reported⟩)
    (c_reported : PySem.W.codeIn K cd_reported "Service.reported" = true)
    (k_reported : PySem.W.keepIn K (.ref a_reported) = true)
    (n_model : PySem.W.findIn K (.ref C_Service) "model" = some (some (.ref a_model)))
    (i_model : PySem.W.isFn K (.ref a_model) = true)
    (l_model : K.lookup a_model = some ⟨oc_model, od_model, .func (PySem.W.fnOf "model" "Service.model" (defArgs s_model) (defBody s_model) (defScope s_model) .none kV_model dc_model pm_model an_model cd_model ct_model), sl_model⟩)
    (c_model : PySem.W.codeIn K cd_model "Service.model" = true)
    (k_model : PySem.W.keepIn K (.ref a_model) = true)
    (n_against : PySem.W.findIn K (.ref C_Service) "against" = some (some (.ref a_against)))
    (i_against : PySem.W.isFn K (.ref a_against) = true)
    (l_against : K.lookup a_against = some ⟨oc_against, od_against, .func (PySem.W.fnOf "against" "Service.against" (defArgs s_against) (defBody s_against) (defScope s_against) .none kV_against dc_against pm_against an_against cd_against ct_against), sl_against⟩)
    (c_against : PySem.W.codeIn K cd_against "Service.against" = true)
    (k_against : PySem.W.keepIn K (.ref a_against) = true)
    (n_names : PySem.W.findIn K (.ref C_Service) "names" = some (some (.ref a_names)))
    (i_names : PySem.W.isFn K (.ref a_names) = true)
    (l_names : K.lookup a_names = some ⟨oc_names, od_names, .func (PySem.W.fnOf "names" "Service.names" (defArgs s_names) (defBody s_names) (defScope s_names) .none kV_names dc_names pm_names an_names cd_names ct_names), sl_names⟩)
    (c_names : PySem.W.codeIn K cd_names "Service.names" = true)
    (k_names : PySem.W.keepIn K (.ref a_names) = true)
    (n_spare : PySem.W.findIn K (.ref C_Service) "spare" = some (some (.ref a_spare)))
    (i_spare : PySem.W.isFn K (.ref a_spare) = true)
    (l_spare : K.lookup a_spare = some ⟨oc_spare, od_spare, .func (PySem.W.fnOf "spare" "Service.spare" (defArgs s_spare) (defBody s_spare) (defScope s_spare) .none kV_spare dc_spare pm_spare an_spare cd_spare ct_spare), sl_spare⟩)
    (c_spare : PySem.W.codeIn K cd_spare "Service.spare" = true)
    (k_spare : PySem.W.keepIn K (.ref a_spare) = true)
    (n_done : PySem.W.findIn K (.ref C_Service) "done" = some (some (.ref a_done)))
    (i_done : PySem.W.isFn K (.ref a_done) = true)
    (l_done : K.lookup a_done = some ⟨oc_done, od_done, .func (PySem.W.fnOf "done" "Service.done" (defArgs s_done) (defBody s_done) (defScope s_done) .none kV_done dc_done pm_done an_done cd_done ct_done), sl_done⟩)
    (c_done : PySem.W.codeIn K cd_done "Service.done" = true)
    (k_done : PySem.W.keepIn K (.ref a_done) = true)
    (n_answer : PySem.W.findIn K (.ref C_Service) "answer" = some (some (.ref a_answer)))
    (i_answer : PySem.W.isFn K (.ref a_answer) = true)
    (l_answer : K.lookup a_answer = some ⟨oc_answer, od_answer, .func (PySem.W.fnOf "answer" "Service.answer" (defArgs s_answer) (defBody s_answer) (defScope s_answer) .none kV_answer dc_answer pm_answer an_answer cd_answer ct_answer), sl_answer⟩)
    (c_answer : PySem.W.codeIn K cd_answer "Service.answer" = true)
    (k_answer : PySem.W.keepIn K (.ref a_answer) = true)
    (n_answers : PySem.W.nsIn K mainGlobals "answers" = some (some (.ref a_answers)))
    (l_answers : K.lookup a_answers = some ⟨oc_answers, od_answers, .func (PySem.W.fnOf "answers" "answers" (defArgs s_answers) (defBody s_answers) (defScope s_answers) .none kV_answers dc_answers pm_answers an_answers cd_answers ct_answers), sl_answers⟩)
    (c_answers : PySem.W.codeIn K cd_answers "answers" = true)
    (k_answers : PySem.W.keepIn K (.ref a_answers) = true)
    (pg_Kinds : PySem.W.plainGet K C_Kinds Str.empty = true)
    (hd_Kinds : PySem.W.hasDictIn K C_Kinds = true)
    (po_Kinds : PySem.W.plainOver K C_Kinds = true)
    (sa_Kinds : PySem.W.findIn K (.ref C_Kinds) "__setattr__" = some (some (.builtin "object.__setattr__")))
    (mk_Kinds : PySem.W.makesIn K C_Kinds = true)
    (kc_Kinds : PySem.W.keepIn K (.ref C_Kinds) = true)
    (pg_Service : PySem.W.plainGet K C_Service Str.empty = true)
    (hd_Service : PySem.W.hasDictIn K C_Service = true)
    (po_Service : PySem.W.plainOver K C_Service = true)
    (sa_Service : PySem.W.findIn K (.ref C_Service) "__setattr__" = some (some (.builtin "object.__setattr__")))
    (mk_Service : PySem.W.makesIn K C_Service = true)
    (kc_Service : PySem.W.keepIn K (.ref C_Service) = true)
    (f_atoms : PySem.W.findIn K (.ref C_Kinds) "atoms" = some none)
    (f_many : PySem.W.findIn K (.ref C_Kinds) "many" = some none)
    (f_whole : PySem.W.findIn K (.ref C_Kinds) "whole" = some none)
    (f_holding : PySem.W.findIn K (.ref C_Kinds) "holding" = some none)
    (f_possible : PySem.W.findIn K (.ref C_Kinds) "possible" = some none)
    (f_axioms : PySem.W.findIn K (.ref C_Service) "axioms" = some none)
    (f_code : PySem.W.findIn K (.ref C_Refused) "code" = some none)
    (z_len : PySem.W.nsIn K mainGlobals "len" = some none)
    (z_sum : PySem.W.nsIn K mainGlobals "sum" = some none)
    (z_all : PySem.W.nsIn K mainGlobals "all" = some none)
    (z_int : PySem.W.nsIn K mainGlobals "int" = some none)
    (z_list : PySem.W.nsIn K mainGlobals "list" = some none)
    (z_range : PySem.W.nsIn K mainGlobals "range" = some none)
    (z_enumerate : PySem.W.nsIn K mainGlobals "enumerate" = some none)
    (z_ValueError : PySem.W.nsIn K mainGlobals "ValueError" = some none)
    (v_ALL : PySem.W.nsIn K mainGlobals "ALL" = some (some (.int (0) t_ALL)))
    (v_NO_ONE : PySem.W.nsIn K mainGlobals "NO_ONE" = some (some (.int (1) t_NO_ONE)))
    (v_NAME : PySem.W.nsIn K mainGlobals "NAME" = some (some (.int (2) t_NAME)))
    (v_BOTH : PySem.W.nsIn K mainGlobals "BOTH" = some (some (.int (3) t_BOTH)))
    (v_EITHER : PySem.W.nsIn K mainGlobals "EITHER" = some (some (.int (4) t_EITHER)))
    (v_NOT : PySem.W.nsIn K mainGlobals "NOT" = some (some (.int (5) t_NOT)))
    (v_SOME : PySem.W.nsIn K mainGlobals "SOME" = some (some (.int (6) t_SOME)))
    (v_EVERY : PySem.W.nsIn K mainGlobals "EVERY" = some (some (.int (7) t_EVERY)))
    (v_MOST_NAME : PySem.W.nsIn K mainGlobals "MOST_NAME" = some (some (.int (3) t_MOST_NAME)))
    (v_MOST_ROLE : PySem.W.nsIn K mainGlobals "MOST_ROLE" = some (some (.int (1) t_MOST_ROLE)))
    (v_NO_CONCEPTS : PySem.W.nsIn K mainGlobals "NO_CONCEPTS" = some (some (.int (-1) t_NO_CONCEPTS)))
    (v_NO_AXIOM : PySem.W.nsIn K mainGlobals "NO_AXIOM" = some (some (.int (-2) t_NO_AXIOM)))
    (v_NO_MODEL : PySem.W.nsIn K mainGlobals "NO_MODEL" = some (some (.int (-6) t_NO_MODEL)))
    (v_TOO_MANY : PySem.W.nsIn K mainGlobals "TOO_MANY" = some (some (.int (-7) t_TOO_MANY)))
    (v_MOST_AXIOMS : PySem.W.nsIn K mainGlobals "MOST_AXIOMS" = some (some (.int (6) t_MOST_AXIOMS)))
    (v_MOST_ATOMS : PySem.W.nsIn K mainGlobals "MOST_ATOMS" = some (some (.int (6) t_MOST_ATOMS)))
    (v_DROP : PySem.W.nsIn K mainGlobals "DROP" = some (some (.int (2) t_DROP)))
    (v_WITH_LIST : PySem.W.nsIn K mainGlobals "WITH_LIST" = some (some (.ref a_WITH_LIST)))
    (v_with : K.lookup a_WITH_LIST = some ⟨.type "tuple", odw, .seq #[.int 1 tw1, .int 3 tw2, .int 4 tw3, .int 5 tw4, .int 6 tw5] nw, slw⟩)
    (xL : K.lookup C_Refused = some (excClassObj xnm xq C_Refused xN xbs [.type "ValueError", .type "Exception", .type "BaseException", .type "object"] true xsn xsub xab xcol xdd xm0 xm1 xm2 xm3 xm5 "ValueError.__new__"))
    (x_sa : PySem.W.findIn K (.ref C_Refused) "__setattr__" = some (some (.builtin "object.__setattr__")))
    (x_ga : PySem.W.findIn K (.ref C_Refused) "__getattribute__" = some (some (.builtin "BaseException.__getattribute__")))
    (x_gg : PySem.W.findIn K (.ref C_Refused) "__getattr__" = some none)
    (x_kC : PySem.W.keepIn K (.ref C_Refused) = true)
    (x_ex : PySem.W.subIn K (.ref C_Refused) (.type "BaseException") = some true)
    (x_ty : PySem.W.typeIn K (.ref C_Refused) = some (.type "type"))
    (x_hd : PySem.W.hasDictIn K C_Refused = true)
    (x_is : PySem.W.isClsIn K C_Refused = true)
    (x_sC : PySem.W.subIn K (.ref C_Refused) (.ref C_Refused) = some true)
    (x_vV : PySem.W.findCls K (.type "ValueError") (.type "type") "__init__" = some (.val (.builtin "ValueError.__init__")))
    : ∃ fd : FuncData, (∀ (s : Shared) (us : List Value), us.length = (["calls"] : List Str).length → BindsTo s fd ⟨us, []⟩ ((["calls"] : List Str).zip us)) ∧ ∀ base : Heap, K.In base → base.Ns mainGlobals mg → FnOk P w K mg base CX0 80 fa fd ["calls"] (spAnswers K) := by
  have e := hfa.symm.trans (PySem.W.mg_of X G n_answers)
  cases e
  have F_initRefused := fun_mk (st := s_initRefused) l_initRefused c_initRefused k_initRefused
  have b_initRefused := F_initRefused.binds (ps := ["self", "code"]) fun _ _ _ _ _ _ us hl => match us, hl with | [_, _], _ => rfl
  have F_want := fun_mk (st := s_want) l_want c_want k_want
  have b_want := F_want.binds (ps := ["truth", "code"]) fun _ _ _ _ _ _ us hl => match us, hl with | [_, _], _ => rfl
  have F_number_at := fun_mk (st := s_number_at) l_number_at c_number_at k_number_at
  have b_number_at := F_number_at.binds (ps := ["numbers", "at", "most"]) fun _ _ _ _ _ _ us hl => match us, hl with | [_, _, _], _ => rfl
  have F_parts_at := fun_mk (st := s_parts_at) l_parts_at c_parts_at k_parts_at
  have b_parts_at := F_parts_at.binds (ps := ["numbers", "at", "many"]) fun _ _ _ _ _ _ us hl => match us, hl with | [_, _, _], _ => rfl
  have F_concept_at := fun_mk (st := s_concept_at) l_concept_at c_concept_at k_concept_at
  have b_concept_at := F_concept_at.binds (ps := ["numbers", "at"]) fun _ _ _ _ _ _ us hl => match us, hl with | [_, _], _ => rfl
  have F_read_concepts := fun_mk (st := s_read_concepts) l_read_concepts c_read_concepts k_read_concepts
  have b_read_concepts := F_read_concepts.binds (ps := ["numbers", "many"]) fun _ _ _ _ _ _ us hl => match us, hl with | [_, _], _ => rfl
  have F_parts_of := fun_mk (st := s_parts_of) l_parts_of c_parts_of k_parts_of
  have b_parts_of := F_parts_of.binds (ps := ["concept"]) fun _ _ _ _ _ _ us hl => match us, hl with | [_], _ => rfl
  have F_atoms_in := fun_mk (st := s_atoms_in) l_atoms_in c_atoms_in k_atoms_in
  have b_atoms_in := F_atoms_in.binds (ps := ["concept"]) fun _ _ _ _ _ _ us hl => match us, hl with | [_], _ => rfl
  have F_atoms_of := fun_mk (st := s_atoms_of) l_atoms_of c_atoms_of k_atoms_of
  have b_atoms_of := F_atoms_of.binds (ps := ["concepts"]) fun _ _ _ _ _ _ us hl => match us, hl with | [_], _ => rfl
  have F_concepts_of := fun_mk (st := s_concepts_of) l_concepts_of c_concepts_of k_concepts_of
  have b_concepts_of := F_concepts_of.binds (ps := ["axioms"]) fun _ _ _ _ _ _ us hl => match us, hl with | [_], _ => rfl
  have F_has_bit := fun_mk (st := s_has_bit) l_has_bit c_has_bit k_has_bit
  have b_has_bit := F_has_bit.binds (ps := ["number", "k"]) fun _ _ _ _ _ _ us hl => match us, hl with | [_, _], _ => rfl
  have F_members := fun_mk (st := s_members) l_members c_members k_members
  have b_members := F_members.binds (ps := ["some"]) fun _ _ _ _ _ _ us hl => match us, hl with | [_], _ => rfl
  have F_set_with := fun_mk (st := s_set_with) l_set_with c_set_with k_set_with
  have b_set_with := F_set_with.binds (ps := ["kinds"]) fun _ _ _ _ _ _ us hl => match us, hl with | [_], _ => rfl
  have F_initKinds := fun_mk (st := s_initKinds) l_initKinds c_initKinds k_initKinds
  have b_initKinds := F_initKinds.binds (ps := ["self", "axioms", "concepts"]) fun _ _ _ _ _ _ us hl => match us, hl with | [_, _, _], _ => rfl
  have F_set_by_bit := fun_mk (st := s_set_by_bit) l_set_by_bit c_set_by_bit k_set_by_bit
  have b_set_by_bit := F_set_by_bit.binds (ps := ["self", "k"]) fun _ _ _ _ _ _ us hl => match us, hl with | [_, _], _ => rfl
  have F_set_of := fun_mk (st := s_set_of) l_set_of c_set_of k_set_of
  have b_set_of := F_set_of.binds (ps := ["self", "concept"]) fun _ _ _ _ _ _ us hl => match us, hl with | [_, _], _ => rfl
  have F_without := fun_mk (st := s_without) l_without c_without k_without
  have b_without := F_without.binds (ps := ["self", "some"]) fun _ _ _ _ _ _ us hl => match us, hl with | [_, _], _ => rfl
  have F_inside := fun_mk (st := s_inside) l_inside c_inside k_inside
  have b_inside := F_inside.binds (ps := ["self", "atom"]) fun _ _ _ _ _ _ us hl => match us, hl with | [_, _], _ => rfl
  have F_permitted := fun_mk (st := s_permitted) l_permitted c_permitted k_permitted
  have b_permitted := F_permitted.binds (ps := ["self", "kind", "role"]) fun _ _ _ _ _ _ us hl => match us, hl with | [_, _, _], _ => rfl
  have F_is_to_support := fun_mk (st := s_is_to_support) l_is_to_support c_is_to_support k_is_to_support
  have b_is_to_support := F_is_to_support.binds (ps := ["self", "kind", "k"]) fun _ _ _ _ _ _ us hl => match us, hl with | [_, _, _], _ => rfl
  have F_to_support := fun_mk (st := s_to_support) l_to_support c_to_support k_to_support
  have b_to_support := F_to_support.binds (ps := ["self", "kind"]) fun _ _ _ _ _ _ us hl => match us, hl with | [_, _], _ => rfl
  have F_supporting := fun_mk (st := s_supporting) l_supporting c_supporting k_supporting
  have b_supporting := F_supporting.binds (ps := ["self", "kind", "k"]) fun _ _ _ _ _ _ us hl => match us, hl with | [_, _, _], _ => rfl
  have F_possible_by := fun_mk (st := s_possible_by) l_possible_by c_possible_by k_possible_by
  have b_possible_by := F_possible_by.binds (ps := ["self", "axioms"]) fun _ _ _ _ _ _ us hl => match us, hl with | [_, _], _ => rfl
  have F_first_of := fun_mk (st := s_first_of) l_first_of c_first_of k_first_of
  have b_first_of := F_first_of.binds (ps := ["self", "some"]) fun _ _ _ _ _ _ us hl => match us, hl with | [_, _], _ => rfl
  have F_is_possible := fun_mk (st := s_is_possible) l_is_possible c_is_possible k_is_possible
  have b_is_possible := F_is_possible.binds (ps := ["axioms", "concept"]) fun _ _ _ _ _ _ us hl => match us, hl with | [_, _], _ => rfl
  have F_first_alone := fun_mk (st := s_first_alone) l_first_alone c_first_alone k_first_alone
  have b_first_alone := F_first_alone.binds (ps := ["first", "second"]) fun _ _ _ _ _ _ us hl => match us, hl with | [_, _], _ => rfl
  have F_is_subsumed := fun_mk (st := s_is_subsumed) l_is_subsumed c_is_subsumed k_is_subsumed
  have b_is_subsumed := F_is_subsumed.binds (ps := ["axioms", "first", "second"]) fun _ _ _ _ _ _ us hl => match us, hl with | [_, _, _], _ => rfl
  have F_names_number := fun_mk (st := s_names_number) l_names_number c_names_number k_names_number
  have b_names_number := F_names_number.binds (ps := ["kinds", "kind"]) fun _ _ _ _ _ _ us hl => match us, hl with | [_, _], _ => rfl
  have F_relations_of := fun_mk (st := s_relations_of) l_relations_of c_relations_of k_relations_of
  have b_relations_of := F_relations_of.binds (ps := ["kinds", "things", "kind"]) fun _ _ _ _ _ _ us hl => match us, hl with | [_, _, _], _ => rfl
  have F_model_told := fun_mk (st := s_model_told) l_model_told c_model_told k_model_told
  have b_model_told := F_model_told.binds (ps := ["axioms", "concept"]) fun _ _ _ _ _ _ us hl => match us, hl with | [_, _], _ => rfl
  have F_with_name := fun_mk (st := s_with_name) l_with_name c_with_name k_with_name
  have b_with_name := F_with_name.binds (ps := ["kinds", "name"]) fun _ _ _ _ _ _ us hl => match us, hl with | [_, _], _ => rfl
  have F_without_name := fun_mk (st := s_without_name) l_without_name c_without_name k_without_name
  have b_without_name := F_without_name.binds (ps := ["kinds", "name"]) fun _ _ _ _ _ _ us hl => match us, hl with | [_, _], _ => rfl
  have F_is_name_under := fun_mk (st := s_is_name_under) l_is_name_under c_is_name_under k_is_name_under
  have b_is_name_under := F_is_name_under.binds (ps := ["kinds", "first", "second"]) fun _ _ _ _ _ _ us hl => match us, hl with | [_, _, _], _ => rfl
  have F_names_told := fun_mk (st := s_names_told) l_names_told c_names_told k_names_told
  have b_names_told := F_names_told.binds (ps := ["axioms", "many"]) fun _ _ _ _ _ _ us hl => match us, hl with | [_, _], _ => rfl
  have F_is_spare := fun_mk (st := s_is_spare) l_is_spare c_is_spare k_is_spare
  have b_is_spare := F_is_spare.binds (ps := ["axioms", "index"]) fun _ _ _ _ _ _ us hl => match us, hl with | [_, _], _ => rfl
  have F_initService := fun_mk (st := s_initService) l_initService c_initService k_initService
  have b_initService := F_initService.binds (ps := ["self"]) fun _ _ _ _ _ _ us hl => match us, hl with | [_], _ => rfl
  have F_want_few_atoms := fun_mk (st := s_want_few_atoms) l_want_few_atoms c_want_few_atoms k_want_few_atoms
  have b_want_few_atoms := F_want_few_atoms.binds (ps := ["self", "concepts"]) fun _ _ _ _ _ _ us hl => match us, hl with | [_, _], _ => rfl
  have F_told_concepts := fun_mk (st := s_told_concepts) l_told_concepts c_told_concepts k_told_concepts
  have b_told_concepts := F_told_concepts.binds (ps := ["self", "numbers", "many"]) fun _ _ _ _ _ _ us hl => match us, hl with | [_, _, _], _ => rfl
  have F_begins := fun_mk (st := s_begins) l_begins c_begins k_begins
  have b_begins := F_begins.binds (ps := ["self"]) fun _ _ _ _ _ _ us hl => match us, hl with | [_], _ => rfl
  have F_line := fun_mk (st := s_line) l_line c_line k_line
  have b_line := F_line.binds (ps := ["self", "numbers"]) fun _ _ _ _ _ _ us hl => match us, hl with | [_, _], _ => rfl
  have F_drop := fun_mk (st := s_drop) l_drop c_drop k_drop
  have b_drop := F_drop.binds (ps := ["self", "index"]) fun _ _ _ _ _ _ us hl => match us, hl with | [_, _], _ => rfl
  have F_can := fun_mk (st := s_can) l_can c_can k_can
  have b_can := F_can.binds (ps := ["self", "numbers"]) fun _ _ _ _ _ _ us hl => match us, hl with | [_, _], _ => rfl
  have F_under := fun_mk (st := s_under) l_under c_under k_under
  have b_under := F_under.binds (ps := ["self", "numbers"]) fun _ _ _ _ _ _ us hl => match us, hl with | [_, _], _ => rfl
  have F_reported := fun_mk (st := s_reported) l_reported c_reported k_reported
  have b_reported := F_reported.binds (ps := ["self", "concept"]) fun _ _ _ _ _ _ us hl => match us, hl with | [_, _], _ => rfl
  have F_model := fun_mk (st := s_model) l_model c_model k_model
  have b_model := F_model.binds (ps := ["self", "numbers"]) fun _ _ _ _ _ _ us hl => match us, hl with | [_, _], _ => rfl
  have F_against := fun_mk (st := s_against) l_against c_against k_against
  have b_against := F_against.binds (ps := ["self", "numbers"]) fun _ _ _ _ _ _ us hl => match us, hl with | [_, _], _ => rfl
  have F_names := fun_mk (st := s_names) l_names c_names k_names
  have b_names := F_names.binds (ps := ["self"]) fun _ _ _ _ _ _ us hl => match us, hl with | [_], _ => rfl
  have F_spare := fun_mk (st := s_spare) l_spare c_spare k_spare
  have b_spare := F_spare.binds (ps := ["self"]) fun _ _ _ _ _ _ us hl => match us, hl with | [_], _ => rfl
  have F_done := fun_mk (st := s_done) l_done c_done k_done
  have b_done := F_done.binds (ps := ["self", "call", "index", "numbers"]) fun _ _ _ _ _ _ us hl => match us, hl with | [_, _, _, _], _ => rfl
  have F_answer := fun_mk (st := s_answer) l_answer c_answer k_answer
  have b_answer := F_answer.binds (ps := ["self", "call", "index", "numbers"]) fun _ _ _ _ _ _ us hl => match us, hl with | [_, _, _, _], _ => rfl
  have F_answers := fun_mk (st := s_answers) l_answers c_answers k_answers
  have b_answers := F_answers.binds (ps := ["calls"]) fun _ _ _ _ _ _ us hl => match us, hl with | [_], _ => rfl
  exact ⟨_, fun s us hu => match us, hu with | [_], _ => .of_eq rfl, fun base _ _ => ok_answers (A := { a_initRefused := a_initRefused, d_initRefused := PySem.W.fnOf "__init__" "Refused.__init__" (defArgs s_initRefused) (defBody s_initRefused) (defScope s_initRefused) .none kV_initRefused dc_initRefused pm_initRefused an_initRefused cd_initRefused ct_initRefused, a_want := a_want, d_want := PySem.W.fnOf "want" "want" (defArgs s_want) (defBody s_want) (defScope s_want) .none kV_want dc_want pm_want an_want cd_want ct_want, a_number_at := a_number_at, d_number_at := PySem.W.fnOf "number_at" "number_at" (defArgs s_number_at) (defBody s_number_at) (defScope s_number_at) .none kV_number_at dc_number_at pm_number_at an_number_at cd_number_at ct_number_at, a_parts_at := a_parts_at, d_parts_at := PySem.W.fnOf "parts_at" "parts_at" (defArgs s_parts_at) (defBody s_parts_at) (defScope s_parts_at) .none kV_parts_at dc_parts_at pm_parts_at an_parts_at cd_parts_at ct_parts_at, a_concept_at := a_concept_at, d_concept_at := PySem.W.fnOf "concept_at" "concept_at" (defArgs s_concept_at) (defBody s_concept_at) (defScope s_concept_at) .none kV_concept_at dc_concept_at pm_concept_at an_concept_at cd_concept_at ct_concept_at, a_read_concepts := a_read_concepts, d_read_concepts := PySem.W.fnOf "read_concepts" "read_concepts" (defArgs s_read_concepts) (defBody s_read_concepts) (defScope s_read_concepts) .none kV_read_concepts dc_read_concepts pm_read_concepts an_read_concepts cd_read_concepts ct_read_concepts, a_parts_of := a_parts_of, d_parts_of := PySem.W.fnOf "parts_of" "parts_of" (defArgs s_parts_of) (defBody s_parts_of) (defScope s_parts_of) .none kV_parts_of dc_parts_of pm_parts_of an_parts_of cd_parts_of ct_parts_of, a_atoms_in := a_atoms_in, d_atoms_in := PySem.W.fnOf "atoms_in" "atoms_in" (defArgs s_atoms_in) (defBody s_atoms_in) (defScope s_atoms_in) .none kV_atoms_in dc_atoms_in pm_atoms_in an_atoms_in cd_atoms_in ct_atoms_in, a_atoms_of := a_atoms_of, d_atoms_of := PySem.W.fnOf "atoms_of" "atoms_of" (defArgs s_atoms_of) (defBody s_atoms_of) (defScope s_atoms_of) .none kV_atoms_of dc_atoms_of pm_atoms_of an_atoms_of cd_atoms_of ct_atoms_of, a_concepts_of := a_concepts_of, d_concepts_of := PySem.W.fnOf "concepts_of" "concepts_of" (defArgs s_concepts_of) (defBody s_concepts_of) (defScope s_concepts_of) .none kV_concepts_of dc_concepts_of pm_concepts_of an_concepts_of cd_concepts_of ct_concepts_of, a_has_bit := a_has_bit, d_has_bit := PySem.W.fnOf "has_bit" "has_bit" (defArgs s_has_bit) (defBody s_has_bit) (defScope s_has_bit) .none kV_has_bit dc_has_bit pm_has_bit an_has_bit cd_has_bit ct_has_bit, a_members := a_members, d_members := PySem.W.fnOf "members" "members" (defArgs s_members) (defBody s_members) (defScope s_members) .none kV_members dc_members pm_members an_members cd_members ct_members, a_set_with := a_set_with, d_set_with := PySem.W.fnOf "set_with" "set_with" (defArgs s_set_with) (defBody s_set_with) (defScope s_set_with) .none kV_set_with dc_set_with pm_set_with an_set_with cd_set_with ct_set_with, a_initKinds := a_initKinds, d_initKinds := PySem.W.fnOf "__init__" "Kinds.__init__" (defArgs s_initKinds) (defBody s_initKinds) (defScope s_initKinds) .none kV_initKinds dc_initKinds pm_initKinds an_initKinds cd_initKinds ct_initKinds, a_set_by_bit := a_set_by_bit, d_set_by_bit := PySem.W.fnOf "set_by_bit" "Kinds.set_by_bit" (defArgs s_set_by_bit) (defBody s_set_by_bit) (defScope s_set_by_bit) .none kV_set_by_bit dc_set_by_bit pm_set_by_bit an_set_by_bit cd_set_by_bit ct_set_by_bit, a_set_of := a_set_of, d_set_of := PySem.W.fnOf "set_of" "Kinds.set_of" (defArgs s_set_of) (defBody s_set_of) (defScope s_set_of) .none kV_set_of dc_set_of pm_set_of an_set_of cd_set_of ct_set_of, a_without := a_without, d_without := PySem.W.fnOf "without" "Kinds.without" (defArgs s_without) (defBody s_without) (defScope s_without) .none kV_without dc_without pm_without an_without cd_without ct_without, a_inside := a_inside, d_inside := PySem.W.fnOf "inside" "Kinds.inside" (defArgs s_inside) (defBody s_inside) (defScope s_inside) .none kV_inside dc_inside pm_inside an_inside cd_inside ct_inside, a_permitted := a_permitted, d_permitted := PySem.W.fnOf "permitted" "Kinds.permitted" (defArgs s_permitted) (defBody s_permitted) (defScope s_permitted) .none kV_permitted dc_permitted pm_permitted an_permitted cd_permitted ct_permitted, a_is_to_support := a_is_to_support, d_is_to_support := PySem.W.fnOf "is_to_support" "Kinds.is_to_support" (defArgs s_is_to_support) (defBody s_is_to_support) (defScope s_is_to_support) .none kV_is_to_support dc_is_to_support pm_is_to_support an_is_to_support cd_is_to_support ct_is_to_support, a_to_support := a_to_support, d_to_support := PySem.W.fnOf "to_support" "Kinds.to_support" (defArgs s_to_support) (defBody s_to_support) (defScope s_to_support) .none kV_to_support dc_to_support pm_to_support an_to_support cd_to_support ct_to_support, a_supporting := a_supporting, d_supporting := PySem.W.fnOf "supporting" "Kinds.supporting" (defArgs s_supporting) (defBody s_supporting) (defScope s_supporting) .none kV_supporting dc_supporting pm_supporting an_supporting cd_supporting ct_supporting, a_possible_by := a_possible_by, d_possible_by := PySem.W.fnOf "possible_by" "Kinds.possible_by" (defArgs s_possible_by) (defBody s_possible_by) (defScope s_possible_by) .none kV_possible_by dc_possible_by pm_possible_by an_possible_by cd_possible_by ct_possible_by, a_first_of := a_first_of, d_first_of := PySem.W.fnOf "first_of" "Kinds.first_of" (defArgs s_first_of) (defBody s_first_of) (defScope s_first_of) .none kV_first_of dc_first_of pm_first_of an_first_of cd_first_of ct_first_of, a_is_possible := a_is_possible, d_is_possible := PySem.W.fnOf "is_possible" "is_possible" (defArgs s_is_possible) (defBody s_is_possible) (defScope s_is_possible) .none kV_is_possible dc_is_possible pm_is_possible an_is_possible cd_is_possible ct_is_possible, a_first_alone := a_first_alone, d_first_alone := PySem.W.fnOf "first_alone" "first_alone" (defArgs s_first_alone) (defBody s_first_alone) (defScope s_first_alone) .none kV_first_alone dc_first_alone pm_first_alone an_first_alone cd_first_alone ct_first_alone, a_is_subsumed := a_is_subsumed, d_is_subsumed := PySem.W.fnOf "is_subsumed" "is_subsumed" (defArgs s_is_subsumed) (defBody s_is_subsumed) (defScope s_is_subsumed) .none kV_is_subsumed dc_is_subsumed pm_is_subsumed an_is_subsumed cd_is_subsumed ct_is_subsumed, a_names_number := a_names_number, d_names_number := PySem.W.fnOf "names_number" "names_number" (defArgs s_names_number) (defBody s_names_number) (defScope s_names_number) .none kV_names_number dc_names_number pm_names_number an_names_number cd_names_number ct_names_number, a_relations_of := a_relations_of, d_relations_of := PySem.W.fnOf "relations_of" "relations_of" (defArgs s_relations_of) (defBody s_relations_of) (defScope s_relations_of) .none kV_relations_of dc_relations_of pm_relations_of an_relations_of cd_relations_of ct_relations_of, a_model_told := a_model_told, d_model_told := PySem.W.fnOf "model_told" "model_told" (defArgs s_model_told) (defBody s_model_told) (defScope s_model_told) .none kV_model_told dc_model_told pm_model_told an_model_told cd_model_told ct_model_told, a_with_name := a_with_name, d_with_name := PySem.W.fnOf "with_name" "with_name" (defArgs s_with_name) (defBody s_with_name) (defScope s_with_name) .none kV_with_name dc_with_name pm_with_name an_with_name cd_with_name ct_with_name, a_without_name := a_without_name, d_without_name := PySem.W.fnOf "without_name" "without_name" (defArgs s_without_name) (defBody s_without_name) (defScope s_without_name) .none kV_without_name dc_without_name pm_without_name an_without_name cd_without_name ct_without_name, a_is_name_under := a_is_name_under, d_is_name_under := PySem.W.fnOf "is_name_under" "is_name_under" (defArgs s_is_name_under) (defBody s_is_name_under) (defScope s_is_name_under) .none kV_is_name_under dc_is_name_under pm_is_name_under an_is_name_under cd_is_name_under ct_is_name_under, a_names_told := a_names_told, d_names_told := PySem.W.fnOf "names_told" "names_told" (defArgs s_names_told) (defBody s_names_told) (defScope s_names_told) .none kV_names_told dc_names_told pm_names_told an_names_told cd_names_told ct_names_told, a_is_spare := a_is_spare, d_is_spare := PySem.W.fnOf "is_spare" "is_spare" (defArgs s_is_spare) (defBody s_is_spare) (defScope s_is_spare) .none kV_is_spare dc_is_spare pm_is_spare an_is_spare cd_is_spare ct_is_spare, a_initService := a_initService, d_initService := PySem.W.fnOf "__init__" "Service.__init__" (defArgs s_initService) (defBody s_initService) (defScope s_initService) .none kV_initService dc_initService pm_initService an_initService cd_initService ct_initService, a_want_few_atoms := a_want_few_atoms, d_want_few_atoms := PySem.W.fnOf "want_few_atoms" "Service.want_few_atoms" (defArgs s_want_few_atoms) (defBody s_want_few_atoms) (defScope s_want_few_atoms) .none kV_want_few_atoms dc_want_few_atoms pm_want_few_atoms an_want_few_atoms cd_want_few_atoms ct_want_few_atoms, a_told_concepts := a_told_concepts, d_told_concepts := PySem.W.fnOf "told_concepts" "Service.told_concepts" (defArgs s_told_concepts) (defBody s_told_concepts) (defScope s_told_concepts) .none kV_told_concepts dc_told_concepts pm_told_concepts an_told_concepts cd_told_concepts ct_told_concepts, a_begins := a_begins, d_begins := PySem.W.fnOf "begins" "Service.begins" (defArgs s_begins) (defBody s_begins) (defScope s_begins) .none kV_begins dc_begins pm_begins an_begins cd_begins ct_begins, a_line := a_line, d_line := PySem.W.fnOf "line" "Service.line" (defArgs s_line) (defBody s_line) (defScope s_line) .none kV_line dc_line pm_line an_line cd_line ct_line, a_drop := a_drop, d_drop := PySem.W.fnOf "drop" "Service.drop" (defArgs s_drop) (defBody s_drop) (defScope s_drop) .none kV_drop dc_drop pm_drop an_drop cd_drop ct_drop, a_can := a_can, d_can := PySem.W.fnOf "can" "Service.can" (defArgs s_can) (defBody s_can) (defScope s_can) .none kV_can dc_can pm_can an_can cd_can ct_can, a_under := a_under, d_under := PySem.W.fnOf "under" "Service.under" (defArgs s_under) (defBody s_under) (defScope s_under) .none kV_under dc_under pm_under an_under cd_under ct_under, a_reported := a_reported, d_reported := PySem.W.fnOf "reported" "Service.reported" (defArgs s_reported) (defBody s_reported) (defScope s_reported) .none kV_reported dc_reported pm_reported an_reported cd_reported ct_reported, a_model := a_model, d_model := PySem.W.fnOf "model" "Service.model" (defArgs s_model) (defBody s_model) (defScope s_model) .none kV_model dc_model pm_model an_model cd_model ct_model, a_against := a_against, d_against := PySem.W.fnOf "against" "Service.against" (defArgs s_against) (defBody s_against) (defScope s_against) .none kV_against dc_against pm_against an_against cd_against ct_against, a_names := a_names, d_names := PySem.W.fnOf "names" "Service.names" (defArgs s_names) (defBody s_names) (defScope s_names) .none kV_names dc_names pm_names an_names cd_names ct_names, a_spare := a_spare, d_spare := PySem.W.fnOf "spare" "Service.spare" (defArgs s_spare) (defBody s_spare) (defScope s_spare) .none kV_spare dc_spare pm_spare an_spare cd_spare ct_spare, a_done := a_done, d_done := PySem.W.fnOf "done" "Service.done" (defArgs s_done) (defBody s_done) (defScope s_done) .none kV_done dc_done pm_done an_done cd_done ct_done, a_answer := a_answer, d_answer := PySem.W.fnOf "answer" "Service.answer" (defArgs s_answer) (defBody s_answer) (defScope s_answer) .none kV_answer dc_answer pm_answer an_answer cd_answer ct_answer, a_answers := fa, d_answers := PySem.W.fnOf "answers" "answers" (defArgs s_answers) (defBody s_answers) (defScope s_answers) .none kV_answers dc_answers pm_answers an_answers cd_answers ct_answers, C_Refused := C_Refused, C_Kinds := C_Kinds, C_Service := C_Service, t_ALL := t_ALL, t_NO_ONE := t_NO_ONE, t_NAME := t_NAME, t_BOTH := t_BOTH, t_EITHER := t_EITHER, t_NOT := t_NOT, t_SOME := t_SOME, t_EVERY := t_EVERY, t_MOST_NAME := t_MOST_NAME, t_MOST_ROLE := t_MOST_ROLE, t_NO_CONCEPTS := t_NO_CONCEPTS, t_NO_AXIOM := t_NO_AXIOM, t_NO_MODEL := t_NO_MODEL, t_TOO_MANY := t_TOO_MANY, t_MOST_AXIOMS := t_MOST_AXIOMS, t_MOST_ATOMS := t_MOST_ATOMS, t_DROP := t_DROP, a_WITH_LIST := a_WITH_LIST }) { f_initRefused := F_initRefused, b_initRefused := b_initRefused, f_want := F_want, b_want := b_want, g_want := PySem.W.mg_of X G n_want, f_number_at := F_number_at, b_number_at := b_number_at, g_number_at := PySem.W.mg_of X G n_number_at, f_parts_at := F_parts_at, b_parts_at := b_parts_at, g_parts_at := PySem.W.mg_of X G n_parts_at, f_concept_at := F_concept_at, b_concept_at := b_concept_at, g_concept_at := PySem.W.mg_of X G n_concept_at, f_read_concepts := F_read_concepts, b_read_concepts := b_read_concepts, g_read_concepts := PySem.W.mg_of X G n_read_concepts, f_parts_of := F_parts_of, b_parts_of := b_parts_of, g_parts_of := PySem.W.mg_of X G n_parts_of, f_atoms_in := F_atoms_in, b_atoms_in := b_atoms_in, g_atoms_in := PySem.W.mg_of X G n_atoms_in, f_atoms_of := F_atoms_of, b_atoms_of := b_atoms_of, g_atoms_of := PySem.W.mg_of X G n_atoms_of, f_concepts_of := F_concepts_of, b_concepts_of := b_concepts_of, g_concepts_of := PySem.W.mg_of X G n_concepts_of, f_has_bit := F_has_bit, b_has_bit := b_has_bit, g_has_bit := PySem.W.mg_of X G n_has_bit, f_members := F_members, b_members := b_members, g_members := PySem.W.mg_of X G n_members, f_set_with := F_set_with, b_set_with := b_set_with, g_set_with := PySem.W.mg_of X G n_set_with, f_initKinds := F_initKinds, b_initKinds := b_initKinds, f_set_by_bit := F_set_by_bit, b_set_by_bit := b_set_by_bit, m_set_by_bit := ⟨n_set_by_bit, i_set_by_bit, k_set_by_bit⟩, f_set_of := F_set_of, b_set_of := b_set_of, m_set_of := ⟨n_set_of, i_set_of, k_set_of⟩, f_without := F_without, b_without := b_without, m_without := ⟨n_without, i_without, k_without⟩, f_inside := F_inside, b_inside := b_inside, m_inside := ⟨n_inside, i_inside, k_inside⟩, f_permitted := F_permitted, b_permitted := b_permitted, m_permitted := ⟨n_permitted, i_permitted, k_permitted⟩, f_is_to_support := F_is_to_support, b_is_to_support := b_is_to_support, m_is_to_support := ⟨n_is_to_support, i_is_to_support, k_is_to_support⟩, f_to_support := F_to_support, b_to_support := b_to_support, m_to_support := ⟨n_to_support, i_to_support, k_to_support⟩, f_supporting := F_supporting, b_supporting := b_supporting, m_supporting := ⟨n_supporting, i_supporting, k_supporting⟩, f_possible_by := F_possible_by, b_possible_by := b_possible_by, m_possible_by := ⟨n_possible_by, i_possible_by, k_possible_by⟩, f_first_of := F_first_of, b_first_of := b_first_of, m_first_of := ⟨n_first_of, i_first_of, k_first_of⟩, f_is_possible := F_is_possible, b_is_possible := b_is_possible, g_is_possible := PySem.W.mg_of X G n_is_possible, f_first_alone := F_first_alone, b_first_alone := b_first_alone, g_first_alone := PySem.W.mg_of X G n_first_alone, f_is_subsumed := F_is_subsumed, b_is_subsumed := b_is_subsumed, g_is_subsumed := PySem.W.mg_of X G n_is_subsumed, f_names_number := F_names_number, b_names_number := b_names_number, g_names_number := PySem.W.mg_of X G n_names_number, f_relations_of := F_relations_of, b_relations_of := b_relations_of, g_relations_of := PySem.W.mg_of X G n_relations_of, f_model_told := F_model_told, b_model_told := b_model_told, g_model_told := PySem.W.mg_of X G n_model_told, f_with_name := F_with_name, b_with_name := b_with_name, g_with_name := PySem.W.mg_of X G n_with_name, f_without_name := F_without_name, b_without_name := b_without_name, g_without_name := PySem.W.mg_of X G n_without_name, f_is_name_under := F_is_name_under, b_is_name_under := b_is_name_under, g_is_name_under := PySem.W.mg_of X G n_is_name_under, f_names_told := F_names_told, b_names_told := b_names_told, g_names_told := PySem.W.mg_of X G n_names_told, f_is_spare := F_is_spare, b_is_spare := b_is_spare, g_is_spare := PySem.W.mg_of X G n_is_spare, f_initService := F_initService, b_initService := b_initService, f_want_few_atoms := F_want_few_atoms, b_want_few_atoms := b_want_few_atoms, m_want_few_atoms := ⟨n_want_few_atoms, i_want_few_atoms, k_want_few_atoms⟩, f_told_concepts := F_told_concepts, b_told_concepts := b_told_concepts, m_told_concepts := ⟨n_told_concepts, i_told_concepts, k_told_concepts⟩, f_begins := F_begins, b_begins := b_begins, m_begins := ⟨n_begins, i_begins, k_begins⟩, f_line := F_line, b_line := b_line, m_line := ⟨n_line, i_line, k_line⟩, f_drop := F_drop, b_drop := b_drop, m_drop := ⟨n_drop, i_drop, k_drop⟩, f_can := F_can, b_can := b_can, m_can := ⟨n_can, i_can, k_can⟩, f_under := F_under, b_under := b_under, m_under := ⟨n_under, i_under, k_under⟩, f_reported := F_reported, b_reported := b_reported, m_reported := ⟨n_reported, i_reported, k_reported⟩, f_model := F_model, b_model := b_model, m_model := ⟨n_model, i_model, k_model⟩, f_against := F_against, b_against := b_against, m_against := ⟨n_against, i_against, k_against⟩, f_names := F_names, b_names := b_names, m_names := ⟨n_names, i_names, k_names⟩, f_spare := F_spare, b_spare := b_spare, m_spare := ⟨n_spare, i_spare, k_spare⟩, f_done := F_done, b_done := b_done, m_done := ⟨n_done, i_done, k_done⟩, f_answer := F_answer, b_answer := b_answer, m_answer := ⟨n_answer, i_answer, k_answer⟩, f_answers := F_answers, b_answers := b_answers, g_answers := PySem.W.mg_of X G n_answers, g_Refused := PySem.W.mg_of X G g_Refused, g_Kinds := PySem.W.mg_of X G g_Kinds, cl_Kinds := ⟨pg_Kinds, hd_Kinds, po_Kinds, sa_Kinds⟩, mk_Kinds := ⟨mk_Kinds, n_initKinds, i_initKinds, kc_Kinds⟩, g_Service := PySem.W.mg_of X G g_Service, cl_Service := ⟨pg_Service, hd_Service, po_Service, sa_Service⟩, mk_Service := ⟨mk_Service, n_initService, i_initService, kc_Service⟩, n_atoms := f_atoms, n_many := f_many, n_whole := f_whole, n_holding := f_holding, n_possible := f_possible, n_axioms := f_axioms, z_len := PySem.W.mg_none_of X G z_len, z_sum := PySem.W.mg_none_of X G z_sum, z_all := PySem.W.mg_none_of X G z_all, z_int := PySem.W.mg_none_of X G z_int, z_list := PySem.W.mg_none_of X G z_list, z_range := PySem.W.mg_none_of X G z_range, z_enumerate := PySem.W.mg_none_of X G z_enumerate, z_ValueError := PySem.W.mg_none_of X G z_ValueError, g_ALL := PySem.W.mg_of X G v_ALL, g_NO_ONE := PySem.W.mg_of X G v_NO_ONE, g_NAME := PySem.W.mg_of X G v_NAME, g_BOTH := PySem.W.mg_of X G v_BOTH, g_EITHER := PySem.W.mg_of X G v_EITHER, g_NOT := PySem.W.mg_of X G v_NOT, g_SOME := PySem.W.mg_of X G v_SOME, g_EVERY := PySem.W.mg_of X G v_EVERY, g_MOST_NAME := PySem.W.mg_of X G v_MOST_NAME, g_MOST_ROLE := PySem.W.mg_of X G v_MOST_ROLE, g_NO_CONCEPTS := PySem.W.mg_of X G v_NO_CONCEPTS, g_NO_AXIOM := PySem.W.mg_of X G v_NO_AXIOM, g_NO_MODEL := PySem.W.mg_of X G v_NO_MODEL, g_TOO_MANY := PySem.W.mg_of X G v_TOO_MANY, g_MOST_AXIOMS := PySem.W.mg_of X G v_MOST_AXIOMS, g_MOST_ATOMS := PySem.W.mg_of X G v_MOST_ATOMS, g_DROP := PySem.W.mg_of X G v_DROP, g_WITH_LIST := PySem.W.mg_of X G v_WITH_LIST, s_WITH_LIST := fun H => .inr ⟨_, _, _, v_with, rfl, rfl, by show 5 ≤ sizeLine; decide, .cons ⟨_, rfl⟩ (.cons ⟨_, rfl⟩ (.cons ⟨_, rfl⟩ (.cons ⟨_, rfl⟩ (.cons ⟨_, rfl⟩ .nil))))⟩, oex := ⟨⟨xnm, xq, xN, xbs, _, xsn, xsub, xab, xcol, xdd, xm0, xm1, xm2, xm3, xm5, xL, by decide +kernel⟩, x_sa, x_ex, x_ty, x_kC⟩, iC := n_initRefused, tI := i_initRefused, vV := x_vV, x_code := f_code, xf := ⟨x_ga, x_gg, x_ex, x_hd⟩, eF := exm_self x_ex x_is x_ty x_sC }⟩
end Ca
open PySem PySem.W PyProof.Rows
set_option maxRecDepth 100000 in
set_option maxHeartbeats 8000000 in
theorem PySem.Challenge.cw_conceptaxioms_s01_answers_holds : PySem.Challenge.rw_conceptaxioms_s01_answers.Holds := by
  w_on; k_headS; (case hw => exact ⟨[.list [.int 0]], by decide +kernel, by decide +kernel⟩)
  k_fillS
  refine L2.walk_specK (r := PySem.Challenge.rw_conceptaxioms_s01_answers) (k := 80) (CX := L2.CX0) (ps := ["calls"]) (sp := Ca.spAnswers) (by decide +kernel) rfl rfl ⟨rfl, by decide, by decide⟩ (fun w h Y => PySem.W.kIn_of Y) ?F ?S (fun _ _ _ _ z => z)
  case F =>
    intro w mg fa h Y KX G hmg
    refine' Ca.all_mk KX G hmg ?g_Refused ?g_Kinds ?g_Service ?n_initRefused ?i_initRefused ?l_initRefused ?c_initRefused ?k_initRefused ?n_want ?l_want ?c_want ?k_want ?n_number_at ?l_number_at ?c_number_at ?k_number_at ?n_parts_at ?l_parts_at ?c_parts_at ?k_parts_at ?n_concept_at ?l_concept_at ?c_concept_at ?k_concept_at ?n_read_concepts ?l_read_concepts ?c_read_concepts ?k_read_concepts ?n_parts_of ?l_parts_of ?c_parts_of ?k_parts_of ?n_atoms_in ?l_atoms_in ?c_atoms_in ?k_atoms_in ?n_atoms_of ?l_atoms_of ?c_atoms_of ?k_atoms_of ?n_concepts_of ?l_concepts_of ?c_concepts_of ?k_concepts_of ?n_has_bit ?l_has_bit ?c_has_bit ?k_has_bit ?n_members ?l_members ?c_members ?k_members ?n_set_with ?l_set_with ?c_set_with ?k_set_with ?n_initKinds ?i_initKinds ?l_initKinds ?c_initKinds ?k_initKinds ?n_set_by_bit ?i_set_by_bit ?l_set_by_bit ?c_set_by_bit ?k_set_by_bit ?n_set_of ?i_set_of ?l_set_of ?c_set_of ?k_set_of ?n_without ?i_without ?l_without ?c_without ?k_without ?n_inside ?i_inside ?l_inside ?c_inside ?k_inside ?n_permitted ?i_permitted ?l_permitted ?c_permitted ?k_permitted ?n_is_to_support ?i_is_to_support ?l_is_to_support ?c_is_to_support ?k_is_to_support ?n_to_support ?i_to_support ?l_to_support ?c_to_support ?k_to_support ?n_supporting ?i_supporting ?l_supporting ?c_supporting ?k_supporting ?n_possible_by ?i_possible_by ?l_possible_by ?c_possible_by ?k_possible_by ?n_first_of ?i_first_of ?l_first_of ?c_first_of ?k_first_of ?n_is_possible ?l_is_possible ?c_is_possible ?k_is_possible ?n_first_alone ?l_first_alone ?c_first_alone ?k_first_alone ?n_is_subsumed ?l_is_subsumed ?c_is_subsumed ?k_is_subsumed ?n_names_number ?l_names_number ?c_names_number ?k_names_number ?n_relations_of ?l_relations_of ?c_relations_of ?k_relations_of ?n_model_told ?l_model_told ?c_model_told ?k_model_told ?n_with_name ?l_with_name ?c_with_name ?k_with_name ?n_without_name ?l_without_name ?c_without_name ?k_without_name ?n_is_name_under ?l_is_name_under ?c_is_name_under ?k_is_name_under ?n_names_told ?l_names_told ?c_names_told ?k_names_told ?n_is_spare ?l_is_spare ?c_is_spare ?k_is_spare ?n_initService ?i_initService ?l_initService ?c_initService ?k_initService ?n_want_few_atoms ?i_want_few_atoms ?l_want_few_atoms ?c_want_few_atoms ?k_want_few_atoms ?n_told_concepts ?i_told_concepts ?l_told_concepts ?c_told_concepts ?k_told_concepts ?n_begins ?i_begins ?l_begins ?c_begins ?k_begins ?n_line ?i_line ?l_line ?c_line ?k_line ?n_drop ?i_drop ?l_drop ?c_drop ?k_drop ?n_can ?i_can ?l_can ?c_can ?k_can ?n_under ?i_under ?l_under ?c_under ?k_under ?n_reported ?i_reported ?l_reported ?c_reported ?k_reported ?n_model ?i_model ?l_model ?c_model ?k_model ?n_against ?i_against ?l_against ?c_against ?k_against ?n_names ?i_names ?l_names ?c_names ?k_names ?n_spare ?i_spare ?l_spare ?c_spare ?k_spare ?n_done ?i_done ?l_done ?c_done ?k_done ?n_answer ?i_answer ?l_answer ?c_answer ?k_answer ?n_answers ?l_answers ?c_answers ?k_answers ?pg_Kinds ?hd_Kinds ?po_Kinds ?sa_Kinds ?mk_Kinds ?kc_Kinds ?pg_Service ?hd_Service ?po_Service ?sa_Service ?mk_Service ?kc_Service ?f_atoms ?f_many ?f_whole ?f_holding ?f_possible ?f_axioms ?f_code ?z_len ?z_sum ?z_all ?z_int ?z_list ?z_range ?z_enumerate ?z_ValueError ?v_ALL ?v_NO_ONE ?v_NAME ?v_BOTH ?v_EITHER ?v_NOT ?v_SOME ?v_EVERY ?v_MOST_NAME ?v_MOST_ROLE ?v_NO_CONCEPTS ?v_NO_AXIOM ?v_NO_MODEL ?v_TOO_MANY ?v_MOST_AXIOMS ?v_MOST_ATOMS ?v_DROP ?v_WITH_LIST ?v_with ?xL ?x_sa ?x_ga ?x_gg ?x_kC ?x_ex ?x_ty ?x_hd ?x_is ?x_sC ?x_vV
    (case g_Refused => k_is)
    (case g_Kinds => k_is)
    (case g_Service => k_is)
    (case n_initRefused => k_is)
    (case i_initRefused => k_is)
    (case l_initRefused => k_is)
    (case c_initRefused => k_is)
    (case k_initRefused => k_is)
    (case n_want => k_is)
    (case l_want => k_is)
    (case c_want => k_is)
    (case k_want => k_is)
    (case n_number_at => k_is)
    (case l_number_at => k_is)
    (case c_number_at => k_is)
    (case k_number_at => k_is)
    (case n_parts_at => k_is)
    (case l_parts_at => k_is)
    (case c_parts_at => k_is)
    (case k_parts_at => k_is)
    (case n_concept_at => k_is)
    (case l_concept_at => k_is)
    (case c_concept_at => k_is)
    (case k_concept_at => k_is)
    (case n_read_concepts => k_is)
    (case l_read_concepts => k_is)
    (case c_read_concepts => k_is)
    (case k_read_concepts => k_is)
    (case n_parts_of => k_is)
    (case l_parts_of => k_is)
    (case c_parts_of => k_is)
    (case k_parts_of => k_is)
    (case n_atoms_in => k_is)
    (case l_atoms_in => k_is)
    (case c_atoms_in => k_is)
    (case k_atoms_in => k_is)
    (case n_atoms_of => k_is)
    (case l_atoms_of => k_is)
    (case c_atoms_of => k_is)
    (case k_atoms_of => k_is)
    (case n_concepts_of => k_is)
    (case l_concepts_of => k_is)
    (case c_concepts_of => k_is)
    (case k_concepts_of => k_is)
    (case n_has_bit => k_is)
    (case l_has_bit => k_is)
    (case c_has_bit => k_is)
    (case k_has_bit => k_is)
    (case n_members => k_is)
    (case l_members => k_is)
    (case c_members => k_is)
    (case k_members => k_is)
    (case n_set_with => k_is)
    (case l_set_with => k_is)
    (case c_set_with => k_is)
    (case k_set_with => k_is)
    (case n_initKinds => k_is)
    (case i_initKinds => k_is)
    (case l_initKinds => k_is)
    (case c_initKinds => k_is)
    (case k_initKinds => k_is)
    (case n_set_by_bit => k_is)
    (case i_set_by_bit => k_is)
    (case l_set_by_bit => k_is)
    (case c_set_by_bit => k_is)
    (case k_set_by_bit => k_is)
    (case n_set_of => k_is)
    (case i_set_of => k_is)
    (case l_set_of => k_is)
    (case c_set_of => k_is)
    (case k_set_of => k_is)
    (case n_without => k_is)
    (case i_without => k_is)
    (case l_without => k_is)
    (case c_without => k_is)
    (case k_without => k_is)
    (case n_inside => k_is)
    (case i_inside => k_is)
    (case l_inside => k_is)
    (case c_inside => k_is)
    (case k_inside => k_is)
    (case n_permitted => k_is)
    (case i_permitted => k_is)
    (case l_permitted => k_is)
    (case c_permitted => k_is)
    (case k_permitted => k_is)
    (case n_is_to_support => k_is)
    (case i_is_to_support => k_is)
    (case l_is_to_support => k_is)
    (case c_is_to_support => k_is)
    (case k_is_to_support => k_is)
    (case n_to_support => k_is)
    (case i_to_support => k_is)
    (case l_to_support => k_is)
    (case c_to_support => k_is)
    (case k_to_support => k_is)
    (case n_supporting => k_is)
    (case i_supporting => k_is)
    (case l_supporting => k_is)
    (case c_supporting => k_is)
    (case k_supporting => k_is)
    (case n_possible_by => k_is)
    (case i_possible_by => k_is)
    (case l_possible_by => k_is)
    (case c_possible_by => k_is)
    (case k_possible_by => k_is)
    (case n_first_of => k_is)
    (case i_first_of => k_is)
    (case l_first_of => k_is)
    (case c_first_of => k_is)
    (case k_first_of => k_is)
    (case n_is_possible => k_is)
    (case l_is_possible => k_is)
    (case c_is_possible => k_is)
    (case k_is_possible => k_is)
    (case n_first_alone => k_is)
    (case l_first_alone => k_is)
    (case c_first_alone => k_is)
    (case k_first_alone => k_is)
    (case n_is_subsumed => k_is)
    (case l_is_subsumed => k_is)
    (case c_is_subsumed => k_is)
    (case k_is_subsumed => k_is)
    (case n_names_number => k_is)
    (case l_names_number => k_is)
    (case c_names_number => k_is)
    (case k_names_number => k_is)
    (case n_relations_of => k_is)
    (case l_relations_of => k_is)
    (case c_relations_of => k_is)
    (case k_relations_of => k_is)
    (case n_model_told => k_is)
    (case l_model_told => k_is)
    (case c_model_told => k_is)
    (case k_model_told => k_is)
    (case n_with_name => k_is)
    (case l_with_name => k_is)
    (case c_with_name => k_is)
    (case k_with_name => k_is)
    (case n_without_name => k_is)
    (case l_without_name => k_is)
    (case c_without_name => k_is)
    (case k_without_name => k_is)
    (case n_is_name_under => k_is)
    (case l_is_name_under => k_is)
    (case c_is_name_under => k_is)
    (case k_is_name_under => k_is)
    (case n_names_told => k_is)
    (case l_names_told => k_is)
    (case c_names_told => k_is)
    (case k_names_told => k_is)
    (case n_is_spare => k_is)
    (case l_is_spare => k_is)
    (case c_is_spare => k_is)
    (case k_is_spare => k_is)
    (case n_initService => k_is)
    (case i_initService => k_is)
    (case l_initService => k_is)
    (case c_initService => k_is)
    (case k_initService => k_is)
    (case n_want_few_atoms => k_is)
    (case i_want_few_atoms => k_is)
    (case l_want_few_atoms => k_is)
    (case c_want_few_atoms => k_is)
    (case k_want_few_atoms => k_is)
    (case n_told_concepts => k_is)
    (case i_told_concepts => k_is)
    (case l_told_concepts => k_is)
    (case c_told_concepts => k_is)
    (case k_told_concepts => k_is)
    (case n_begins => k_is)
    (case i_begins => k_is)
    (case l_begins => k_is)
    (case c_begins => k_is)
    (case k_begins => k_is)
    (case n_line => k_is)
    (case i_line => k_is)
    (case l_line => k_is)
    (case c_line => k_is)
    (case k_line => k_is)
    (case n_drop => k_is)
    (case i_drop => k_is)
    (case l_drop => k_is)
    (case c_drop => k_is)
    (case k_drop => k_is)
    (case n_can => k_is)
    (case i_can => k_is)
    (case l_can => k_is)
    (case c_can => k_is)
    (case k_can => k_is)
    (case n_under => k_is)
    (case i_under => k_is)
    (case l_under => k_is)
    (case c_under => k_is)
    (case k_under => k_is)
    (case n_reported => k_is)
    (case i_reported => k_is)
    (case l_reported => k_is)
    (case c_reported => k_is)
    (case k_reported => k_is)
    (case n_model => k_is)
    (case i_model => k_is)
    (case l_model => k_is)
    (case c_model => k_is)
    (case k_model => k_is)
    (case n_against => k_is)
    (case i_against => k_is)
    (case l_against => k_is)
    (case c_against => k_is)
    (case k_against => k_is)
    (case n_names => k_is)
    (case i_names => k_is)
    (case l_names => k_is)
    (case c_names => k_is)
    (case k_names => k_is)
    (case n_spare => k_is)
    (case i_spare => k_is)
    (case l_spare => k_is)
    (case c_spare => k_is)
    (case k_spare => k_is)
    (case n_done => k_is)
    (case i_done => k_is)
    (case l_done => k_is)
    (case c_done => k_is)
    (case k_done => k_is)
    (case n_answer => k_is)
    (case i_answer => k_is)
    (case l_answer => k_is)
    (case c_answer => k_is)
    (case k_answer => k_is)
    (case n_answers => k_is)
    (case l_answers => k_is)
    (case c_answers => k_is)
    (case k_answers => k_is)
    (case pg_Kinds => k_is)
    (case hd_Kinds => k_is)
    (case po_Kinds => k_is)
    (case sa_Kinds => k_is)
    (case mk_Kinds => k_is)
    (case kc_Kinds => k_is)
    (case pg_Service => k_is)
    (case hd_Service => k_is)
    (case po_Service => k_is)
    (case sa_Service => k_is)
    (case mk_Service => k_is)
    (case kc_Service => k_is)
    (case f_atoms => k_is)
    (case f_many => k_is)
    (case f_whole => k_is)
    (case f_holding => k_is)
    (case f_possible => k_is)
    (case f_axioms => k_is)
    (case f_code => k_is)
    (case z_len => k_is)
    (case z_sum => k_is)
    (case z_all => k_is)
    (case z_int => k_is)
    (case z_list => k_is)
    (case z_range => k_is)
    (case z_enumerate => k_is)
    (case z_ValueError => k_is)
    (case v_ALL => k_is)
    (case v_NO_ONE => k_is)
    (case v_NAME => k_is)
    (case v_BOTH => k_is)
    (case v_EITHER => k_is)
    (case v_NOT => k_is)
    (case v_SOME => k_is)
    (case v_EVERY => k_is)
    (case v_MOST_NAME => k_is)
    (case v_MOST_ROLE => k_is)
    (case v_NO_CONCEPTS => k_is)
    (case v_NO_AXIOM => k_is)
    (case v_NO_MODEL => k_is)
    (case v_TOO_MANY => k_is)
    (case v_MOST_AXIOMS => k_is)
    (case v_MOST_ATOMS => k_is)
    (case v_DROP => k_is)
    (case v_WITH_LIST => k_is)
    (case v_with => k_is)
    (case xL => k_is)
    (case x_sa => k_is)
    (case x_ga => k_is)
    (case x_gg => k_is)
    (case x_kC => k_is)
    (case x_ex => k_is)
    (case x_ty => k_is)
    (case x_hd => k_is)
    (case x_is => k_is)
    (case x_sC => first | rfl | k_is)
    (case x_vV => first | k_is | rfl | decide +kernel)
  case S =>
    intro K H xs a hO hwi hask hx
    cases hx with
    | cons h1 h2 =>
      cases h2
      cases h1 with
      | lst hs ha =>
        have e := L2.ints_dw a.1 _ ha
        subst e
        exact ⟨_, a.1, rfl, hs, hask, fun H' p hp => .lst (L2.SqL.of hp) (L2.dw_ints _)⟩
#print axioms PySem.Challenge.cw_conceptaxioms_s01_answers_holds
