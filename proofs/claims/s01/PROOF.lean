import PyProof.Rows.All
import Wide.All
import OpenK.AllK
import Wide.FinOn
import Open.SpecLaws
import KE.OsGo
import HandS.ForSpec
import HandS.TryMany
import HandS.Comp
import HandS.Iter
import HandS.Walk
import PySem.Challenge.RW_fieldslips_s01_answers
set_option Elab.async false
set_option linter.all false
set_option maxRecDepth 100000
set_option maxHeartbeats 4000000
namespace Fs
open Uw14
/-! ### digits, the last one first -/
theorem dig_fuel : ∀ (f n : Nat), n < 10 ^ (f + 1) → digits (f + 1) n = digits f n
  | 0, n, h => by
    have h' : n < 10 := by simpa using h
    show (if n < 10 then [n] else digits 0 (n / 10) ++ [n % 10]) = [n % 10]
    rw [if_pos h', Nat.mod_eq_of_lt h']
  | f + 1, n, h => by
    show (if n < 10 then [n] else digits (f + 1) (n / 10) ++ [n % 10]) = (if n < 10 then [n] else digits f (n / 10) ++ [n % 10])
    by_cases c : n < 10
    · rw [if_pos c, if_pos c]
    · rw [if_neg c, if_neg c, dig_fuel f (n / 10)]
      rw [Nat.div_lt_iff_lt_mul (by decide)]
      rw [Nat.pow_succ] at h
      exact h
def rd (n : Nat) : List Nat := (digits 20 n).reverse
theorem rd_low {n : Nat} (h : n ≤ 9) : rd n = [n] := by
  unfold rd
  show ((if n < 10 then [n] else digits 19 (n / 10) ++ [n % 10]) : List Nat).reverse = [n]
  rw [if_pos (by omega)]
  rfl
theorem rd_high {n : Nat} (h : 9 < n) (b : n < 10 ^ 20) : rd n = n % 10 :: rd (n / 10) := by
  have e : digits 20 (n / 10) = digits 19 (n / 10) := dig_fuel 19 (n / 10) (by omega)
  unfold rd
  rw [e]
  show ((if n < 10 then [n] else digits 19 (n / 10) ++ [n % 10]) : List Nat).reverse = _
  rw [if_neg (by omega), List.reverse_append]
  rfl
theorem rd_len_pos (n : Nat) : 0 < (rd n).length := by
  unfold rd
  rw [List.length_reverse]
  show 0 < ((if n < 10 then [n] else digits 19 (n / 10) ++ [n % 10]) : List Nat).length
  split
  · exact Nat.zero_lt_one
  · rw [List.length_append]
    exact Nat.lt_of_lt_of_le Nat.zero_lt_one (Nat.le_add_left 1 _)
theorem dig_len : ∀ (f n : Nat), (digits f n).length ≤ f + 1
  | 0, n => Nat.le_refl _
  | f + 1, n => by
    show ((if n < 10 then [n] else digits f (n / 10) ++ [n % 10]) : List Nat).length ≤ _
    split
    · simp
    · have := dig_len f (n / 10)
      simp
      omega
theorem rd_len (n : Nat) : (rd n).length ≤ 21 := by
  unfold rd
  rw [List.length_reverse]
  exact dig_len 20 n
theorem written_rd (z : Int) : written z = (rd z.natAbs).reverse := by
  unfold written rd
  rw [List.reverse_reverse]
/-! ### places that are unlike -/
def pu (a b : List Nat) : List Nat := (List.range a.length).filter fun i => a.getD i 0 != b.getD i 0
theorem mem_pu {a b : List Nat} {i : Nat} : i ∈ pu a b ↔ i < a.length ∧ a.getD i 0 ≠ b.getD i 0 := by
  unfold pu
  rw [List.mem_filter, List.mem_range, bne_iff_ne]
theorem pu_sorted (a b : List Nat) : (pu a b).Pairwise (· < ·) := List.Pairwise.filter _ List.pairwise_lt_range
theorem pu_len_le (a b : List Nat) : (pu a b).length ≤ a.length := by
  unfold pu
  exact Nat.le_trans (List.length_filter_le _ _) (by simp)
def cnt : List Nat → List Nat → Nat
  | x :: a, y :: b => (if x != y then 1 else 0) + cnt a b
  | _, _ => 0
theorem pu_cnt : ∀ (a b : List Nat), a.length = b.length → (pu a b).length = cnt a b
  | [], _, _ => rfl
  | x :: a, [], h => by simp at h
  | x :: a, y :: b, h => by
    have ih := pu_cnt a b (by simpa using h)
    show (pu (x :: a) (y :: b)).length = (if x != y then 1 else 0) + cnt a b
    rw [← ih]
    unfold pu
    rw [List.length_cons, List.range_succ_eq_map, List.filter_cons, List.filter_map]
    have e : ((fun i => (x :: a).getD i 0 != (y :: b).getD i 0) ∘ Nat.succ) = fun i => a.getD i 0 != b.getD i 0 := by
      funext i
      simp
    rw [e]
    by_cases c : (x != y) = true
    · rw [if_pos (by simpa using c), if_pos c]
      simp
      omega
    · rw [if_neg (by simpa using c), if_neg c]
      simp
theorem cnt_app : ∀ (a b : List Nat) (x y : Nat), a.length = b.length → cnt (a ++ [x]) (b ++ [y]) = cnt a b + (if x != y then 1 else 0)
  | [], [], x, y, _ => by simp [cnt]
  | [], _ :: _, _, _, h => by simp at h
  | _ :: _, [], _, _, h => by simp at h
  | u :: a, v :: b, x, y, h => by
    have ih := cnt_app a b x y (by simpa using h)
    show (if u != v then 1 else 0) + cnt (a ++ [x]) (b ++ [y]) = (if u != v then 1 else 0) + cnt a b + _
    rw [ih, Nat.add_assoc]
theorem cnt_rev : ∀ (a b : List Nat), a.length = b.length → cnt a.reverse b.reverse = cnt a b
  | [], [], _ => rfl
  | [], _ :: _, h => by simp at h
  | _ :: _, [], h => by simp at h
  | x :: a, y :: b, h => by
    have h' : a.length = b.length := by simpa using h
    rw [List.reverse_cons, List.reverse_cons, cnt_app _ _ _ _ (by simpa using h'), cnt_rev a b h']
    show cnt a b + _ = _ + cnt a b
    exact Nat.add_comm _ _
theorem cnt_comm : ∀ (a b : List Nat), cnt a b = cnt b a
  | [], [] => rfl
  | [], _ :: _ => rfl
  | _ :: _, [] => rfl
  | x :: a, y :: b => by
    show (if x != y then 1 else 0) + cnt a b = (if y != x then 1 else 0) + cnt b a
    rw [cnt_comm a b, show (x != y) = (y != x) by rw [Bool.eq_iff_iff, bne_iff_ne, bne_iff_ne]; exact ⟨Ne.symm, Ne.symm⟩]
theorem oneDigit_cnt (a b : List Nat) : oneDigit a b = (a.length == b.length && cnt a b == 1) := by
  show (a.length == b.length && (pu a b).length == 1) = _
  by_cases h : a.length = b.length
  · rw [pu_cnt a b h]
  · have e : (a.length == b.length) = false := beq_eq_false_iff_ne.mpr h
    rw [e, Bool.false_and, Bool.false_and]
theorem beq_comm_nat (a b : Nat) : (a == b) = (b == a) := by rw [Bool.eq_iff_iff, beq_iff_eq, beq_iff_eq]; exact ⟨Eq.symm, Eq.symm⟩
theorem oneDigit_comm (a b : List Nat) : oneDigit a b = oneDigit b a := by
  rw [oneDigit_cnt, oneDigit_cnt, cnt_comm, beq_comm_nat a.length]
theorem oneDigit_rev (a b : List Nat) : oneDigit a.reverse b.reverse = (a.length == b.length && (pu a b).length == 1) := by
  rw [oneDigit_cnt, List.length_reverse, List.length_reverse]
  by_cases h : a.length = b.length
  · rw [cnt_rev a b h, pu_cnt a b h]
  · have e : (a.length == b.length) = false := beq_eq_false_iff_ne.mpr h
    rw [e, Bool.false_and, Bool.false_and]
/-! ### two neighbours in the other order -/
structure Sw (a b : List Nat) (p : Nat) : Prop where
  lt : p + 1 < a.length
  ne : a.getD p 0 ≠ a.getD (p + 1) 0
  e1 : a.getD p 0 = b.getD (p + 1) 0
  e2 : a.getD (p + 1) 0 = b.getD p 0
  els : ∀ j, j < a.length → j ≠ p → j ≠ p + 1 → a.getD j 0 = b.getD j 0
theorem Sw.symm {a b : List Nat} {p : Nat} (h : a.length = b.length) (s : Sw a b p) : Sw b a p :=
  ⟨h ▸ s.lt, fun e => s.ne (s.e1.trans (e.symm.trans s.e2.symm)), s.e2.symm, s.e1.symm, fun j hj h1 h2 => (s.els j (h ▸ hj) h1 h2).symm⟩
theorem getD_rev {a : List Nat} {i : Nat} (h : i < a.length) : a.reverse.getD i 0 = a.getD (a.length - 1 - i) 0 := by
  rw [List.getD_eq_getElem?_getD, List.getD_eq_getElem?_getD, List.getElem?_reverse h]
theorem Sw.rev {a b : List Nat} {p : Nat} (h : a.length = b.length) (s : Sw a b p) : Sw a.reverse b.reverse (a.length - 2 - p) := by
  have lt := s.lt
  have i1 : a.length - 2 - p < a.length := by omega
  have i2 : a.length - 2 - p + 1 < a.length := by omega
  have q1 : a.length - 1 - (a.length - 2 - p) = p + 1 := by omega
  have q2 : a.length - 1 - (a.length - 2 - p + 1) = p := by omega
  have A1 := getD_rev i1
  have A2 := getD_rev i2
  have B1 := getD_rev (a := b) (i := a.length - 2 - p) (h ▸ i1)
  have B2 := getD_rev (a := b) (i := a.length - 2 - p + 1) (h ▸ i2)
  rw [← h] at B1 B2
  rw [q1] at A1 B1
  rw [q2] at A2 B2
  refine ⟨by rw [List.length_reverse]; omega, ?_, ?_, ?_, fun j hj h1 h2 => ?_⟩
  · rw [A1, A2]
    exact Ne.symm s.ne
  · rw [A1, B2]
    exact s.e2
  · rw [A2, B1]
    exact s.e1
  · rw [List.length_reverse] at hj
    rw [getD_rev hj, getD_rev (a := b) (h ▸ hj), ← h]
    exact s.els _ (by omega) (by omega) (by omega)
theorem changed_iff {a b : List Nat} : changed a b = true ↔ a.length = b.length ∧ ∃ p, Sw a b p := by
  unfold changed
  rw [List.any_eq_true]
  constructor
  · rintro ⟨i, hi, h⟩
    rw [List.mem_range] at hi
    rw [Bool.and_eq_true, bne_iff_ne, beq_iff_eq] at h
    obtain ⟨hne, rfl⟩ := h
    refine ⟨by simp, i, by omega, hne, ?_, ?_, fun j hj h1 h2 => ?_⟩
    · simp [List.getD_eq_getElem?_getD, List.getElem?_set, show i + 1 < a.length by omega]
    · simp [List.getD_eq_getElem?_getD, List.getElem?_set, show i < a.length by omega]
    · simp [List.getD_eq_getElem?_getD, List.getElem?_set, Ne.symm h1, Ne.symm h2]
  · rintro ⟨hl, p, s⟩
    have lt := s.lt
    refine ⟨p, by rw [List.mem_range]; omega, ?_⟩
    rw [Bool.and_eq_true, bne_iff_ne, beq_iff_eq]
    refine ⟨s.ne, ?_⟩
    apply List.ext_getElem?
    intro j
    by_cases hj : j < a.length
    · have hb : j < b.length := hl ▸ hj
      have key : b.getD j 0 = ((a.set p (a.getD (p + 1) 0)).set (p + 1) (a.getD p 0)).getD j 0 := by
        by_cases c1 : j = p + 1
        · subst c1
          rw [← s.e1]
          simp [List.getD_eq_getElem?_getD, List.getElem?_set, lt]
        · by_cases c2 : j = p
          · subst c2
            rw [← s.e2]
            simp [List.getD_eq_getElem?_getD, List.getElem?_set, hj]
          · rw [← s.els j hj c2 c1]
            simp [List.getD_eq_getElem?_getD, List.getElem?_set, Ne.symm c1, Ne.symm c2]
      rw [List.getD_eq_getElem?_getD, List.getD_eq_getElem?_getD] at key
      have h1 : b[j]? = some b[j] := List.getElem?_eq_getElem hb
      have hs : j < ((a.set p (a.getD (p + 1) 0)).set (p + 1) (a.getD p 0)).length := by simpa using hj
      have h2 := List.getElem?_eq_getElem hs
      rw [h1, h2] at key ⊢
      simpa using key
    · rw [List.getElem?_eq_none (by omega), List.getElem?_eq_none (by simpa using hj)]
theorem changed_comm (a b : List Nat) : changed a b = changed b a := by
  rw [Bool.eq_iff_iff, changed_iff, changed_iff]
  constructor
  · rintro ⟨h, p, s⟩
    exact ⟨h.symm, p, s.symm h⟩
  · rintro ⟨h, p, s⟩
    exact ⟨h.symm, p, s.symm h⟩
/-- as the program asks it, of two lists of as many digits -/
def exch (a b : List Nat) (p : Nat) : Bool := a.getD p 0 == b.getD (p + 1) 0 && a.getD (p + 1) 0 == b.getD p 0
def ordB (a b : List Nat) : Bool := match pu a b with
  | [p, q] => q == p + 1 && exch a b p
  | _ => false
theorem two_of {l : List Nat} {p : Nat} (s : l.Pairwise (· < ·)) (h : ∀ x, x ∈ l ↔ x = p ∨ x = p + 1) : l = [p, p + 1] := by
  match l, s, h with
  | [], _, h => exact absurd ((h p).mpr (.inl rfl)) (by simp)
  | [x], _, h =>
    have h1 := (h p).mpr (.inl rfl)
    have h2 := (h (p + 1)).mpr (.inr rfl)
    simp at h1 h2
    omega
  | [x, y], s, h =>
    have h1 := (h x).mp (by simp)
    have h2 := (h y).mp (by simp)
    have h3 : x < y := by simpa using s
    have ex : x = p := by omega
    have ey : y = p + 1 := by omega
    rw [ex, ey]
  | x :: y :: z :: r, s, h =>
    have h1 := (h x).mp (by simp)
    have h2 := (h y).mp (by simp)
    have h3 := (h z).mp (by simp)
    simp only [List.pairwise_cons] at s
    have a1 : x < y := s.1 y (by simp)
    have a2 : y < z := s.2.1 z (by simp)
    omega
theorem ordB_iff {a b : List Nat} (h : a.length = b.length) : ordB a b = true ↔ ∃ p, Sw a b p := by
  constructor
  · intro o
    unfold ordB at o
    split at o
    · rename_i p q e
      unfold exch at o
      rw [Bool.and_eq_true, Bool.and_eq_true, beq_iff_eq, beq_iff_eq, beq_iff_eq] at o
      obtain ⟨rfl, e1, e2⟩ := o
      have m1 : p ∈ pu a b := by rw [e]; simp
      have m2 : p + 1 ∈ pu a b := by rw [e]; simp
      rw [mem_pu] at m1 m2
      refine ⟨p, m2.1, fun z => m1.2 (z.trans e2), e1, e2, fun j hj h1 h2 => ?_⟩
      by_cases c : a.getD j 0 = b.getD j 0
      · exact c
      · have m : j ∈ pu a b := mem_pu.mpr ⟨hj, c⟩
        rw [e] at m
        simp at m
        omega
    · cases o
  · rintro ⟨p, s⟩
    have lt := s.lt
    have e : pu a b = [p, p + 1] := two_of (pu_sorted a b) fun x => by
      rw [mem_pu]
      constructor
      · rintro ⟨hx, hn⟩
        by_cases c1 : x = p
        · exact .inl c1
        · by_cases c2 : x = p + 1
          · exact .inr c2
          · exact absurd (s.els x hx c1 c2) hn
      · rintro (rfl | rfl)
        · exact ⟨by omega, fun z => s.ne (z.trans s.e2.symm)⟩
        · exact ⟨lt, fun z => s.ne (s.e1.trans z.symm)⟩
    unfold ordB
    rw [e]
    show ((p + 1 == p + 1) && exch a b p) = true
    unfold exch
    rw [Bool.and_eq_true, Bool.and_eq_true, beq_iff_eq, beq_iff_eq, beq_iff_eq]
    exact ⟨rfl, s.e1, s.e2⟩
theorem changed_rev (a b : List Nat) : changed a.reverse b.reverse = (a.length == b.length && ordB a b) := by
  rw [Bool.eq_iff_iff, changed_iff, Bool.and_eq_true, beq_iff_eq, List.length_reverse, List.length_reverse]
  constructor
  · rintro ⟨h, p, s⟩
    have q := s.rev (by simpa using h)
    rw [List.reverse_reverse, List.reverse_reverse] at q
    exact ⟨h, (ordB_iff h).mpr ⟨_, q⟩⟩
  · rintro ⟨h, o⟩
    obtain ⟨p, s⟩ := (ordB_iff h).mp o
    exact ⟨h, _, s.rev h⟩
/-! ### the kinds, as the program finds them -/
def amd (x y : Int) : Bool := alike x y && (rd x.natAbs).length == (rd y.natAbs).length
def dgB (x y : Int) : Bool := amd x y && (pu (rd x.natAbs) (rd y.natAbs)).length == 1
def odB (x y : Int) : Bool := amd x y && ordB (rd x.natAbs) (rd y.natAbs)
def sgB (x y : Int) : Bool := !decide (x = y) && decide (x = 0 - y)
def kn (x y : Int) : Int := if sgB x y = true then 1 else if dgB x y = true then 2 else if odB x y = true then 3 else 0
theorem dgB_is (x y : Int) : dgB x y = (alike x y && oneDigit (written x) (written y)) := by
  unfold dgB amd
  rw [written_rd, written_rd, oneDigit_rev, Bool.and_assoc]
theorem odB_is (x y : Int) : odB x y = (alike x y && changed (written x) (written y)) := by
  unfold odB amd
  rw [written_rd, written_rd, changed_rev, Bool.and_assoc]
theorem alike_comm (x y : Int) : alike x y = alike y x := by
  unfold alike
  cases decide (x < 0) <;> cases decide (y < 0) <;> rfl
theorem slipOf_comm (x y : Int) : slipOf x y = slipOf y x := by
  unfold slipOf
  rw [alike_comm x y, oneDigit_comm (written x), changed_comm (written x)]
  have e1 : (x = y) = (y = x) := propext ⟨Eq.symm, Eq.symm⟩
  have e2 : (x = -y) = (y = -x) := propext ⟨fun h => by omega, fun h => by omega⟩
  simp only [e1, e2]
theorem changed_self (a : List Nat) : changed a a = false := by
  cases c : changed a a with
  | false => rfl
  | true =>
    obtain ⟨_, p, s⟩ := changed_iff.mp c
    exact absurd s.e1 s.ne
theorem cnt_self : ∀ (a : List Nat), cnt a a = 0
  | [] => rfl
  | x :: a => by
    show (if x != x then 1 else 0) + cnt a a = 0
    rw [cnt_self a]
    simp
theorem oneDigit_self (a : List Nat) : oneDigit a a = false := by
  rw [oneDigit_cnt, cnt_self]
  simp
def optI (o : Option Nat) : Int := match o with
  | some k => (k : Int)
  | none => 0
theorem kn_is (x y : Int) : kn x y = optI (slipOf x y) := by
  unfold kn slipOf
  rw [dgB_is, odB_is]
  by_cases c : x = y
  · subst c
    rw [if_pos rfl, oneDigit_self, changed_self]
    simp [sgB, optI]
  · rw [if_neg c]
    by_cases c1 : x = -y
    · have e : sgB x y = true := by
        unfold sgB
        rw [Bool.and_eq_true, Bool.not_eq_true', decide_eq_false_iff_not, decide_eq_true_eq]
        exact ⟨c, by omega⟩
      rw [if_pos e, if_pos c1]
      rfl
    · have e : ¬ sgB x y = true := by
        unfold sgB
        rw [Bool.and_eq_true, Bool.not_eq_true', decide_eq_false_iff_not, decide_eq_true_eq]
        rintro ⟨_, h⟩
        exact c1 (by omega)
      rw [if_neg e, if_neg c1]
      split
      · rfl
      · split <;> rfl
theorem slipOf_pos {x y : Int} {k : Nat} (h : slipOf x y = some k) : 0 < k := by
  unfold slipOf at h
  split at h
  · cases h
  · split at h
    · cases h; decide
    · split at h
      · cases h; decide
      · split at h
        · cases h; decide
        · cases h
def k1 (m c : C) : Int := if m.north = c.north then kn m.east c.east else if m.east = c.east then kn m.north c.north else 0
def kw (m c : C) : Int := if m = c then 0 else if m = ⟨c.north, c.east⟩ then 4 else if m = ⟨0 - c.east, 0 - c.north⟩ then 5 else 0
def kc (m c : C) : Int := if k1 m c ≠ 0 then k1 m c else kw m c
theorem k1_is (m c : C) : k1 m c = optI (if c.north = m.north then slipOf c.east m.east else if c.east = m.east then slipOf c.north m.north else none) := by
  unfold k1
  rw [kn_is, kn_is, slipOf_comm m.east, slipOf_comm m.north]
  by_cases a : m.north = c.north
  · rw [if_pos a, if_pos a.symm]
  · rw [if_neg a, if_neg (Ne.symm a)]
    by_cases b : m.east = c.east
    · rw [if_pos b, if_pos b.symm]
    · rw [if_neg b, if_neg (Ne.symm b)]
      rfl
theorem k1_pos {m c : C} {k : Nat} (h : (if c.north = m.north then slipOf c.east m.east else if c.east = m.east then slipOf c.north m.north else none) = some k) : 0 < k := by
  split at h
  · exact slipOf_pos h
  · split at h
    · exact slipOf_pos h
    · cases h
theorem kc_is (m c : C) : kc m c = optI (kindOf c m) := by
  unfold kc
  rw [k1_is]
  unfold kindOf
  by_cases e : c = m
  · subst e
    rw [if_pos rfl, if_pos rfl]
    have z : slipOf c.east c.east = none := by unfold slipOf; rw [if_pos rfl]
    rw [z]
    simp [optI, kw]
  · rw [if_neg e]
    cases q : (if c.north = m.north then slipOf c.east m.east else if c.east = m.east then slipOf c.north m.north else none) with
    | some k =>
      have hp := k1_pos q
      show (if (k : Int) ≠ 0 then (k : Int) else kw m c) = (k : Int)
      rw [if_pos (by omega)]
    | none =>
      show (if (0 : Int) ≠ 0 then (0 : Int) else kw m c) = _
      rw [if_neg (by simp)]
      unfold kw
      rw [if_neg (Ne.symm e)]
      have z : (⟨0 - c.east, 0 - c.north⟩ : C) = ⟨-c.east, -c.north⟩ := by simp
      rw [z]
      split
      · rfl
      · split <;> rfl
/-! ### slips -/
def meant (b : Book) (c : C) : C := ⟨c.east - (off b).east, c.north - (off b).north⟩
def mt (o c : C) : C := ⟨c.east - o.east, c.north - o.north⟩
def slipL (n : Nat) (c o : C) : List Int := if kc (mt o c) c = 0 then [] else [(n : Int), kc (mt o c) c, (mt o c).east, (mt o c).north]
def row (s : Slip) : List Int := [(s.course : Int), s.kind, s.meant.east, s.meant.north]
def rows (b : Book) : List (List Int) := (slips b).map row
def rowsTo (b : Book) (i : Nat) : List (List Int) := ((List.range i).filterMap fun i => let c := b.getD i ⟨0, 0⟩
  let m : C := ⟨c.east - (off b).east, c.north - (off b).north⟩
  (kindOf c m).map fun k => (⟨i, k, m⟩ : Slip)).map row
theorem rowsTo_all (b : Book) : rowsTo b b.length = rows b := rfl
theorem rowsTo_zero (b : Book) : rowsTo b 0 = [] := rfl
theorem kindOf_pos {c m : C} {k : Nat} (h : kindOf c m = some k) : 0 < k := by
  unfold kindOf at h
  split at h
  · cases h
  · split at h
    · rename_i q
      cases h
      exact k1_pos q
    · split at h
      · cases h; decide
      · split at h
        · cases h; decide
        · cases h
theorem rowsTo_succ {b : Book} {i : Nat} {c : C} (h : b[i]? = some c) : rowsTo b (i + 1) = rowsTo b i ++ (if slipL i c (off b) = [] then [] else [slipL i c (off b)]) := by
  unfold rowsTo
  rw [List.range_succ, List.filterMap_append, List.map_append]
  congr 1
  have e : b.getD i ⟨0, 0⟩ = c := by rw [List.getD_eq_getElem?_getD, h]; rfl
  unfold slipL
  rw [kc_is]
  simp only [List.filterMap_cons, List.filterMap_nil, e]
  have em : (⟨c.east - (off b).east, c.north - (off b).north⟩ : C) = mt (off b) c := rfl
  rw [em]
  cases q : kindOf c (mt (off b) c) with
  | none => simp [optI]
  | some k =>
    have hp := kindOf_pos q
    have hk : ¬ ((k : Int) = 0) := by omega
    simp [optI, row]
    rw [if_neg (by omega)]
    simp
    omega
theorem rows_closed {b : Book} (h : off b = ⟨0, 0⟩) : rows b = [] := by
  have all : ∀ i, i ≤ b.length → rowsTo b i = [] := by
    intro i
    induction i with
    | zero => intro _; rfl
    | succ i ih =>
      intro hi
      have hb : b[i]? = some b[i] := List.getElem?_eq_getElem (by omega)
      rw [rowsTo_succ hb, ih (by omega)]
      have z : slipL i b[i] (off b) = [] := by
        unfold slipL
        have e : mt (off b) b[i] = b[i] := by
          rw [h]
          unfold mt
          simp
        rw [e, kc_is]
        have : kindOf b[i] b[i] = none := by unfold kindOf; rw [if_pos rfl]
        rw [this]
        rfl
      rw [z]
      rfl
  exact all b.length (Nat.le_refl _)
theorem rows_len (b : Book) : (rows b).length ≤ b.length := by
  unfold rows slips
  rw [List.length_map]
  exact Nat.le_trans (List.length_filterMap_le _ _) (by simp)
theorem rows_flat (b : Book) : (slips b).flatMap (fun s => [(s.course : Int), s.kind, s.meant.east, s.meant.north]) = (rows b).flatten := by
  show (slips b).flatMap row = ((slips b).map row).flatten
  rw [List.flatMap_def]
theorem rows_four (b : Book) : ∀ r ∈ rows b, r.length = 4 := by
  intro r hr
  unfold rows at hr
  obtain ⟨s, _, rfl⟩ := List.mem_map.mp hr
  rfl
/-! ### one item more -/
theorem take_more {α : Type} : ∀ {l : List α} {i : Nat} {x : α}, l[i]? = some x → l.take (i + 1) = l.take i ++ [x]
  | [], i, x, h => by simp at h
  | a :: l, 0, x, h => by
    have e : a = x := Option.some.inj h
    subst e
    rfl
  | a :: l, i + 1, x, h => by
    have ih := take_more (l := l) (i := i) (x := x) h
    show a :: l.take (i + 1) = a :: l.take i ++ [x]
    rw [ih]
    rfl
theorem off_more {b : Book} {i : Nat} {c : C} (h : b[i]? = some c) : off (b.take (i + 1)) = ⟨(off (b.take i)).east + c.east, (off (b.take i)).north + c.north⟩ := by
  unfold off sum
  rw [take_more h]
  simp only [List.map_append, List.foldl_append, List.map_cons, List.map_nil, List.foldl_cons, List.foldl_nil]
theorem off_nil : off ([] : Book) = ⟨0, 0⟩ := rfl
theorem length_more {b : Book} {i : Nat} {c : C} (h : b[i]? = some c) : ((length (b.take (i + 1)) : Nat) : Int) = (length (b.take i) : Nat) + (long c : Nat) := by
  unfold length
  rw [take_more h]
  simp only [List.map_append, List.foldl_append, List.map_cons, List.map_nil, List.foldl_cons, List.foldl_nil]
  exact Int.natCast_add _ _
def spr (b : Book) (c : C) : List Int := [(length b : Int) * c.east - (off b).east * (long c : Int), (length b : Int) * c.north - (off b).north * (long c : Int)]
def sprTo (b : Book) (i : Nat) : List Int := (b.take i).flatMap (spr b)
theorem spr_more {b : Book} {i : Nat} {c : C} (h : b[i]? = some c) : sprTo b (i + 1) = sprTo b i ++ spr b c := by
  unfold sprTo
  rw [take_more h, List.flatMap_append]
  simp
theorem sprTo_len (b : Book) (i : Nat) : (sprTo b i).length ≤ 2 * b.length := by
  unfold sprTo
  rw [List.length_flatMap]
  have e : ((b.take i).map fun c => (spr b c).length) = List.replicate (b.take i).length 2 := by
    apply List.eq_replicate_iff.mpr
    refine ⟨by simp, fun x hx => ?_⟩
    obtain ⟨c, _, rfl⟩ := List.mem_map.mp hx
    rfl
  rw [e]
  simp
  omega
theorem spread_flat (b : Book) : (spread b).flatMap (fun c => [c.east, c.north]) = sprTo b b.length := by
  unfold sprTo spread
  rw [List.take_length, List.flatMap_map]
  rfl
theorem drop_more {α : Type} {l : List α} {i : Nat} {x : α} (h : l[i]? = some x) : l.drop i = x :: l.drop (i + 1) := by
  obtain ⟨h1, h2⟩ := List.getElem?_eq_some_iff.mp h
  rw [List.drop_eq_getElem_cons h1, h2]
/-! ### bounds -/
structure Wf (b : Book) : Prop where
  few : b.length ≤ 12
  all : ∀ c ∈ b, small c = true
theorem small_iff {c : C} : small c = true ↔ c.east.natAbs ≤ 99999 ∧ c.north.natAbs ≤ 99999 := by
  unfold small MOST
  rw [Bool.and_eq_true, decide_eq_true_eq, decide_eq_true_eq]
theorem off_bound : ∀ (n : Nat) (b : Book), b.length ≤ n → (∀ c ∈ b, small c = true) → ∀ i, (off (b.take i)).east.natAbs ≤ 99999 * i ∧ (off (b.take i)).north.natAbs ≤ 99999 * i := by
  intro n b _ hs i
  induction i with
  | zero => simp [off, sum]
  | succ i ih =>
    cases q : b[i]? with
    | none =>
      have hi : b.length ≤ i := List.getElem?_eq_none_iff.mp q
      rw [List.take_of_length_le (by omega)]
      rw [List.take_of_length_le hi] at ih
      omega
    | some c =>
      rw [off_more q]
      have hc := small_iff.mp (hs c (List.mem_of_getElem? q))
      show ((off (b.take i)).east + c.east).natAbs ≤ _ ∧ ((off (b.take i)).north + c.north).natAbs ≤ _
      omega
theorem Wf.off {b : Book} (w : Wf b) : (Uw14.off b).east.natAbs ≤ 1199988 ∧ (Uw14.off b).north.natAbs ≤ 1199988 := by
  have h := off_bound 12 b w.few w.all 12
  rw [List.take_of_length_le w.few] at h
  omega
theorem Wf.nil : Wf [] := ⟨by decide, fun c h => by cases h⟩
theorem Wf.get {b : Book} (w : Wf b) {i : Nat} {c : C} (h : b[i]? = some c) : c.east.natAbs ≤ 99999 ∧ c.north.natAbs ≤ 99999 := small_iff.mp (w.all c (List.mem_of_getElem? h))
theorem long_bound {c : C} (h : c.east.natAbs ≤ 99999 ∧ c.north.natAbs ≤ 99999) : long c ≤ 199998 := by
  unfold long
  omega
theorem Wf.step {b : Book} (w : Wf b) (x : Call) : Wf (Uw14.step b x).1 := by
  cases x with
  | begins => exact Wf.nil
  | course c =>
    show Wf (if small c = false then (b, ok (-1)) else if COURSES ≤ b.length then (b, ok (-5)) else (b ++ [c], ok (b.length : Nat))).1
    split
    · exact w
    · rename_i hs
      split
      · exact w
      · rename_i hl
        refine ⟨?_, fun d hd => ?_⟩
        · show (b ++ [c]).length ≤ 12
          unfold COURSES at hl
          simp
          omega
        · rcases List.mem_append.mp hd with h | h
          · exact w.all d h
          · simp at h
            subst h
            simpa using hs
  | change i c =>
    show Wf (if b.length ≤ i then (b, ok (-2)) else if small c = false then (b, ok (-1)) else (b.set i c, ok 0)).1
    split
    · exact w
    · split
      · exact w
      · rename_i hs
        refine ⟨by show (b.set i c).length ≤ 12; rw [List.length_set]; exact w.few, fun d hd => ?_⟩
        rcases List.mem_or_eq_of_mem_set hd with h | h
        · exact w.all d h
        · subst h
          simpa using hs
  | close => exact w
  | slips => exact w
  | spread =>
    show Wf (if length b = 0 then (b, ok (-6)) else (b, (⟨(length b : Nat), (Uw14.spread b).flatMap fun c => [c.east, c.north]⟩ : Ans))).1
    split <;> exact w
  | area =>
    show Wf (if Uw14.off b ≠ ⟨0, 0⟩ then (b, ok (-6)) else (b, (⟨0, [Uw14.area b]⟩ : Ans))).1
    split <;> exact w
/-! ### the calls, read one behind another -/
open PyFlat (told played)
open PyUw14 (shape whole)
def ansOf (b : Book) (x : Call) : List Int := Uw14Neutral.out (Uw14.step b x).2
def wplay (b : Book) (cs : List (List (List Int))) : List Int := told (played (fun s c => Uw14Neutral.step s (c.headD [])) b (cs.map whole))
theorem shape_two {p : Int} {n k : Nat} (h : shape p = some (n, k)) : k = 0 ∧ ((p = 0 ∧ n = 0) ∨ (p = 1 ∧ n = 2) ∨ (p = 2 ∧ n = 3) ∨ (p = 3 ∧ n = 0) ∨ (p = 4 ∧ n = 0) ∨ (p = 5 ∧ n = 0) ∨ (p = 6 ∧ n = 0)) := by
  unfold shape at h
  repeat
    first
      | (split at h; (rename_i e; cases h; subst e; refine ⟨rfl, ?_⟩; simp))
      | cases h
/-- the first call of what is left, and the rest -/
theorem calls_cons {f : Nat} {l : List Int} {cs : List (List (List Int))} (h : PyFlat.calls shape f l = some cs) (hl : l ≠ []) :
    ∃ (p : Int) (r : List Int) (n f' : Nat) (cs' : List (List (List Int))), l = p :: r ∧ shape p = some (n, 0) ∧ n ≤ r.length ∧ cs = [p :: r.take n] :: cs' ∧ PyFlat.calls shape f' (r.drop n) = some cs' := by
  match f, l, hl with
  | _, [], hl => exact absurd rfl hl
  | 0, p :: r, _ => cases h
  | f + 1, p :: r, _ =>
    unfold PyFlat.calls at h
    cases q : PyFlat.call shape (p :: r) with
    | none => rw [q] at h; cases h
    | some ct =>
      obtain ⟨c, t⟩ := ct
      rw [q] at h
      cases q2 : PyFlat.calls shape f t with
      | none => simp only [q2] at h; cases h
      | some cs' =>
        simp only [q2] at h
        cases h
        unfold PyFlat.call at q
        cases q3 : shape p with
        | none => simp only [q3] at q; cases q
        | some nk =>
          obtain ⟨n, k⟩ := nk
          have z := (shape_two q3).1
          subst z
          simp only [q3] at q
          split at q
          · cases q
          · rename_i hn
            unfold PyFlat.rows at q
            cases q
            exact ⟨p, r, n, f, cs', rfl, q3, by omega, rfl, q2⟩
theorem whole_one {p : Int} {r : List Int} {n : Nat} (h : shape p = some (n, 0)) (hn : n ≤ r.length) : whole [p :: r.take n] = [p :: r.take n] := by
  rcases (shape_two h).2 with ⟨rfl, rfl⟩ | ⟨rfl, rfl⟩ | ⟨rfl, rfl⟩ | ⟨rfl, rfl⟩ | ⟨rfl, rfl⟩ | ⟨rfl, rfl⟩ | ⟨rfl, rfl⟩
  · rfl
  · match r, hn with
    | [], hn => exact absurd hn (by simp)
    | [_], hn => exact absurd hn (by simp)
    | x :: y :: _, _ => rfl
  · match r, hn with
    | [], hn => exact absurd hn (by simp)
    | [_], hn => exact absurd hn (by simp)
    | [_, _], hn => exact absurd hn (by simp)
    | x :: y :: z :: _, _ => rfl
  · rfl
  · rfl
  · rfl
  · rfl
theorem wplay_cons {b : Book} {p : Int} {r : List Int} {n : Nat} {cs : List (List (List Int))} {x : Call} (h : shape p = some (n, 0)) (hn : n ≤ r.length) (hx : Uw14Neutral.callOf (p :: r.take n) = some x) :
    wplay b ([p :: r.take n] :: cs) = (((ansOf b x).length : Int) :: ansOf b x) ++ wplay (Uw14.step b x).1 cs := by
  unfold wplay
  rw [List.map_cons, whole_one h hn]
  have e : Uw14Neutral.step b (p :: r.take n) = ((Uw14.step b x).1, ansOf b x) := by
    unfold Uw14Neutral.step
    rw [hx]
    rfl
  show told ((Uw14Neutral.step b (p :: r.take n)).2 :: played _ (Uw14Neutral.step b (p :: r.take n)).1 _) = _
  rw [e]
  unfold told
  rw [List.flatMap_cons]
theorem wplay_nil (b : Book) : wplay b [] = [] := rfl
/-- every call that is left is one of the document's -/
def good (cs : List (List (List Int))) : Prop := ∀ c ∈ cs.map whole, (Uw14Neutral.callOf (c.headD [])).isSome = true
theorem good_cons {c : List (List Int)} {cs : List (List (List Int))} (g : good (c :: cs)) : (Uw14Neutral.callOf ((whole c).headD [])).isSome = true ∧ good cs :=
  ⟨g _ (by simp), fun d hd => g d (by rw [List.map_cons]; exact List.mem_cons_of_mem _ hd)⟩
theorem asked_open {l : List Int} (h : PyUw14.answers_asked l = true) : ∃ raw, PyFlat.calls shape l.length l = some raw ∧ good raw ∧ PyUw14.answers l = wplay [] raw ∧ (PyUw14.answers l).length ≤ 10000000 := by
  unfold PyUw14.answers_asked at h
  cases q : PyFlat.calls shape l.length l with
  | none => rw [q] at h; cases h
  | some raw =>
    rw [q] at h
    simp only [Bool.and_eq_true] at h
    obtain ⟨⟨⟨⟨_, _⟩, _⟩, ha⟩, hs⟩ := h
    refine ⟨raw, rfl, ?_, ?_, ?_⟩
    · unfold Uw14Neutral.asked at ha
      rw [Bool.and_eq_true] at ha
      have h1 := ha.1
      rw [List.all_eq_true] at h1
      intro c hc
      exact h1 (c.headD []) (List.mem_map_of_mem (f := fun c => c.headD []) hc)
    · unfold PyUw14.answers PyUw14.calls
      rw [q]
      rfl
    · unfold PyFlat.short at hs
      exact of_decide_eq_true hs
end Fs
namespace Fs
open PySem PySem.Spec PyProof.Rows L2
/-! ### the text by places -/
def top (i : Nat) : Stmt := PySem.Challenge.pw_fieldslips_s01_answers.main.body.getD i (.Pass ⟨0, 0, 0, 0⟩)
abbrev sIsCourse : Stmt := top 2
abbrev sOffOf : Stmt := top 3
abbrev sCloses : Stmt := top 4
abbrev sCountOf : Stmt := top 5
abbrev sLengthOf : Stmt := top 6
abbrev sSpreadCourse : Stmt := top 7
abbrev sSpreadOf : Stmt := top 8
abbrev sTwiceArea : Stmt := top 9
abbrev sDigitsOf : Stmt := top 11
abbrev sWritten : Stmt := top 12
abbrev sPlacesUnlike : Stmt := top 13
abbrev sSameSide : Stmt := top 21
abbrev sIsOtherSign : Stmt := top 22
abbrev sAsManyDigits : Stmt := top 23
abbrev sIsOtherDigit : Stmt := top 24
abbrev sAreExchanged : Stmt := top 25
abbrev sIsOtherOrder : Stmt := top 26
abbrev sKindOfNumber : Stmt := top 27
abbrev sKindOfWhole : Stmt := top 28
abbrev sKindOfOne : Stmt := top 29
abbrev sKindOfCourse : Stmt := top 30
abbrev sMeantBy : Stmt := top 32
abbrev sSlipIn : Stmt := top 33
abbrev sSlipsOf : Stmt := top 34
abbrev sInit : Stmt := inClass (top 41) 0
abbrev sBegins : Stmt := inClass (top 41) 1
abbrev sCourse : Stmt := inClass (top 41) 2
abbrev sChange : Stmt := inClass (top 41) 3
abbrev sClose : Stmt := inClass (top 41) 4
abbrev sSlips : Stmt := inClass (top 41) 5
abbrev sSpread : Stmt := inClass (top 41) 6
abbrev sArea : Stmt := inClass (top 41) 7
abbrev sAnswered : Stmt := top 50
abbrev sAnswers : Stmt := top 51
/-! ### small words -/
theorem if_true_of {c : Bool} {A B : Prop} (hc : c = true) (h : A) : if c = true then A else B := by
  rw [if_pos hc]
  exact h
theorem if_false_of {c : Bool} {A B : Prop} (hc : c = false) (h : B) : if c = true then A else B := by
  rw [hc, if_neg Bool.false_ne_true]
  exact h
/-- a constant of the top -/
def Cst (mg : Str → Option Value) (x : Str) (v : V) : Prop := ∃ u, mg x = some u ∧ RelV v u
theorem pe_cst {X : Cx} {x : Str} {v : V} {pos : Pos} (hg : Gl X x) (h : Cst X.mg x v) (hd : (x == ("__debug__" : Str)) = false := by decide) : PE X (.Name x pos) (tC v) := by
  obtain ⟨u, a, b⟩ := h
  exact pe_glob hg a b hd
/-- a def that is called by its name -/
structure Callee (P : Program) (w : World) (K : PySem.W.Frag) (mg : Str → Option Value) (base : Heap) (k : Nat) (x : Str) (ps : List Str) (sp : Sp) : Prop where
  ex : ∃ f fd, mg x = some (.ref f) ∧ PySem.W.keepIn K (.ref f) = true ∧ Binds K fd ps [] ∧ FnOk P w K mg base CX0 k f fd ps sp
theorem pe_c {X : Cx} {k : Nat} {x : Str} {ps : List Str} {sp : Sp} {e : Expr} {es : List Expr} {t : TA} {p pos : Pos} (c : Callee X.prog X.w X.K X.mg X.base k x ps sp) (hr : Room k X.A) (hg : Gl X x)
    (ha : PA X (e :: es) t) (hdb : (x == ("__debug__" : Str)) = false := by decide) (he : starEach (e :: es) X.env = (false, eval e X.env) :: starEach es X.env := by rfl) (hpl : (backTo pos (starEach es X.env)).any (·.1) = false := by rfl) :
    PE X (.Call (.Name x p) (e :: es) [] pos) (tCall sp [] E0 t) := by
  obtain ⟨f, fd, h1, h2, h3, h4⟩ := c.ex
  exact pe_call h4 hr hg h1 h2 h3 .nil pass0 ha hdb he hpl
/-- a method -/
structure MCallee (P : Program) (w : World) (K : PySem.W.Frag) (mg : Str → Option Value) (base : Heap) (C : Addr) (k : Nat) (m : Str) (ps : List Str) (sp : Sp) : Prop where
  ex : ∃ f fd, Meth K C m f ∧ Binds K fd ps [] ∧ FnOk P w K mg base CX0 k f fd ps sp
theorem pe_m0 {X : Cx} {C : Addr} {k : Nat} {m : Str} {ps : List Str} {sp : Sp} {o : Expr} {ta : TE} {pos apos : Pos} {pl : Sem Bool} (he : PE X o ta) (cl : Cls X.K C) (c : MCallee X.prog X.w X.K X.mg X.base C k m ps sp) (hr : Room k X.A)
    (ht : eval (.Call (.Attribute o m apos) [] [] pos) X.env = (do
      let ov ← eval o X.env
      standAt apos.atName
      let (f, first) ← holding [ov] (getMethod ov m pl)
      callWith pos f first (backTo pos (starEach [] X.env)) (backToKw pos (keywordEach [] X.env))) := by rfl) :
    PE X (.Call (.Attribute o m apos) [] [] pos) (tMeth C m sp [] E0 ta tNil) := by
  obtain ⟨f, fd, h1, h2, h3⟩ := c.ex
  exact pe_meth0 (pl := pl) he cl h1 h3 hr h2 .nil pass0 ht
theorem pe_m1 {X : Cx} {C : Addr} {k : Nat} {m : Str} {ps : List Str} {sp : Sp} {o e : Expr} {es : List Expr} {ta : TE} {t : TA} {pos apos : Pos} {pl : Sem Bool} (he : PE X o ta) (cl : Cls X.K C) (c : MCallee X.prog X.w X.K X.mg X.base C k m ps sp) (hr : Room k X.A) (ha : PA X (e :: es) t)
    (hst : starEach (e :: es) X.env = (false, eval e X.env) :: starEach es X.env := by rfl) (hpl : (backTo pos (starEach es X.env)).any (·.1) = false := by rfl)
    (ht : eval (.Call (.Attribute o m apos) (e :: es) [] pos) X.env = (do
      let ov ← eval o X.env
      standAt apos.atName
      let (f, first) ← holding [ov] (getMethod ov m pl)
      callWith pos f first (backTo pos (starEach (e :: es) X.env)) (backToKw pos (keywordEach [] X.env))) := by rfl) :
    PE X (.Call (.Attribute o m apos) (e :: es) [] pos) (tMeth C m sp [] E0 ta t) := by
  obtain ⟨f, fd, h1, h2, h3⟩ := c.ex
  exact pe_meth (pl := pl) he cl h1 h3 hr h2 .nil pass0 ha hst hpl ht
/-! ### the heap: courses, lists of courses -/
abbrev cV (c : Uw14.C) : HO := .tup [.int c.east, .int c.north]
def CT (H : Hp) (v : V) (c : Uw14.C) : Prop := ∃ t, v = .ref t ∧ H t = some (cV c)
theorem CT.same {H H' : Hp} {v : V} {c : Uw14.C} (s : Same H H') (h : CT H v c) : CT H' v c := let ⟨t, e, q⟩ := h; ⟨t, e, s _ _ q⟩
structure Crs (H : Hp) (rs : List V) (b : Uw14.Book) : Prop where
  len : rs.length = b.length
  at_ : ∀ (i : Nat) (c : Uw14.C), b[i]? = some c → ∃ t, rs[i]? = some (V.ref t) ∧ H t = some (cV c)
theorem Crs.same {H H' : Hp} {rs : List V} {b : Uw14.Book} (s : Same H H') (h : Crs H rs b) : Crs H' rs b :=
  ⟨h.len, fun i c e => let ⟨t, e1, e2⟩ := h.at_ i c e; ⟨t, e1, s _ _ e2⟩⟩
theorem Crs.get {H : Hp} {rs : List V} {b : Uw14.Book} (h : Crs H rs b) {i : Nat} {y : V} (e : rs[i]? = some y) : ∃ c t, b[i]? = some c ∧ y = .ref t ∧ H t = some (cV c) := by
  obtain ⟨hi, _⟩ := List.getElem?_eq_some_iff.mp e
  have hb : i < b.length := h.len ▸ hi
  obtain ⟨t, e1, e2⟩ := h.at_ i b[i] (List.getElem?_eq_getElem hb)
  rw [e] at e1
  exact ⟨b[i], t, List.getElem?_eq_getElem hb, Option.some.inj e1, e2⟩
theorem Same.upd_new {H : Hp} {p : Addr} {o : HO} (h : H p = none) : Same H (upd H p o) := fun b u e => by
  rw [upd_ne (ne_of_none e h)]
  exact e
theorem at0 {x : V} {r : List V} : atI (x :: r) 0 = some x := atI_nat (j := 0) rfl
theorem at1 {x y : V} {r : List V} : atI (x :: y :: r) 1 = some y := atI_nat (j := 1) rfl
theorem at2 {x y z : V} {r : List V} : atI (x :: y :: z :: r) 2 = some z := atI_nat (j := 2) rfl
theorem abs_if (i : Int) : (if i < 0 then -i else i) = (i.natAbs : Int) := by
  split <;> omega
def dv (l : List Nat) : List V := l.map fun (d : Nat) => V.int (d : Int)
def iv (l : List Int) : List V := l.map V.int
theorem sz_le {n : Nat} (h : n ≤ 10000001) : n ≤ sizeLine := Nat.le_trans h (by decide)
theorem sz_lt {n : Nat} (h : n ≤ 10000001) : n < sizeLine := Nat.lt_of_le_of_lt h (by decide)
/-! ### what the top has left of names -/
structure Txt (K : PySem.W.Frag) (mg : Str → Option Value) (C : Addr) : Prop where
  cl : Cls K C
  nC : NoAttr K C "courses"
  gC : mg "Book" = some (.ref C)
  nAbs : mg "abs" = none
  nLen : mg "len" = none
  nRange : mg "range" = none
  nEnum : mg "enumerate" = none
  nInt : mg "int" = none
  cMost : Cst mg "MOST" (.int 99999)
  cNoSlip : Cst mg "NO_SLIP" (.int 0)
  cSign : Cst mg "OTHER_SIGN" (.int 1)
  cDigit : Cst mg "OTHER_DIGIT" (.int 2)
  cOrder : Cst mg "OTHER_ORDER" (.int 3)
  cExch : Cst mg "EXCHANGED" (.int 4)
  cBoth : Cst mg "BOTH_SIGNS" (.int 5)
  cMC : Cst mg "MOST_COURSES" (.int 12)
  cBeyond : Cst mg "BEYOND" (.int (-1))
  cNoCourse : Cst mg "NO_COURSE" (.int (-2))
  cFull : Cst mg "FULL" (.int (-5))
  cNotSo : Cst mg "NOT_SO" (.int (-6))
  cBEGINS : Cst mg "BEGINS" (.int 0)
  cCOURSE : Cst mg "COURSE" (.int 1)
  cCHANGE : Cst mg "CHANGE" (.int 2)
  cCLOSE : Cst mg "CLOSE" (.int 3)
  cSLIPS : Cst mg "SLIPS" (.int 4)
  cSPREAD : Cst mg "SPREAD" (.int 5)
  cSIZES : ∃ a, Cst mg "SIZES" (.ref a) ∧ ∀ H : Hp, SqT K H a [.int 0, .int 2, .int 3, .int 0, .int 0, .int 0, .int 0]
/-! ### the promises -/
def spIsC : Sp := fun vs H Q _ => ∃ (e n : Int), vs = [.int e, .int n] ∧ Q (.bl (Uw14.small ⟨e, n⟩)) H
def spOff : Sp := fun vs H Q _ => ∃ (l : Addr) (rs : List V) (b : Uw14.Book), vs = [.ref l] ∧ H l = some (.lst rs) ∧ Crs H rs b ∧ ∀ p, H p = none → Q (.ref p) (upd H p (cV (Uw14.off b)))
def spCloses : Sp := fun vs H Q _ => ∃ (l : Addr) (rs : List V) (b : Uw14.Book), vs = [.ref l] ∧ H l = some (.lst rs) ∧ Crs H rs b ∧ ∀ H', Same H H' → Q (.bl (decide (Uw14.off b = ⟨0, 0⟩))) H'
def spCount : Sp := fun vs H Q _ => ∃ (v : V) (c : Uw14.C), vs = [v] ∧ CT H v c ∧ Q (.int (Uw14.long c : Nat)) H
def spLength : Sp := fun vs H Q _ => ∃ (l : Addr) (rs : List V) (b : Uw14.Book), vs = [.ref l] ∧ H l = some (.lst rs) ∧ Crs H rs b ∧ Q (.int (Uw14.length b : Nat)) H
def spSprC : Sp := fun vs H Q _ => ∃ (v w : V) (c o : Uw14.C) (n : Int), vs = [v, .int n, w] ∧ CT H v c ∧ CT H w o ∧ (c.east.natAbs ≤ 99999 ∧ c.north.natAbs ≤ 99999) ∧
  ∀ p, H p = none → Q (.ref p) (upd H p (.lst [.int (n * c.east - o.east * (Uw14.long c : Nat)), .int (n * c.north - o.north * (Uw14.long c : Nat))]))
def spSpread : Sp := fun vs H Q _ => ∃ (l : Addr) (rs : List V) (b : Uw14.Book), vs = [.ref l] ∧ H l = some (.lst rs) ∧ Crs H rs b ∧ Wf b ∧ ∀ H' p, Same H H' → H p = none → H' p = some (.lst (iv (sprTo b b.length))) → Q (.ref p) H'
def spTwice : Sp := fun vs H Q _ => ∃ (l : Addr) (rs : List V) (b : Uw14.Book), vs = [.ref l] ∧ H l = some (.lst rs) ∧ Crs H rs b ∧ Wf b ∧ Q (.int (Uw14.area b)) H
def spDigits : Sp := fun vs H Q _ => ∃ (n : Nat), vs = [.int (n : Int)] ∧ n < 10 ^ 20 ∧ ∀ p, H p = none → Q (.ref p) (upd H p (.lst (dv (rd n))))
def spWritten : Sp := fun vs H Q _ => ∃ (z : Int), vs = [.int z] ∧ z.natAbs < 10 ^ 20 ∧ ∀ p, H p = none → Q (.ref p) (upd H p (.lst (dv (rd z.natAbs))))
def spPlaces : Sp := fun vs H Q _ => ∃ (a a' : Addr) (x y : List Nat), vs = [.ref a, .ref a'] ∧ H a = some (.lst (dv x)) ∧ H a' = some (.lst (dv y)) ∧ x.length = y.length ∧ x.length ≤ 21 ∧ ∀ p, H p = none → Q (.ref p) (upd H p (.lst (dv (pu x y))))
def spSame : Sp := fun vs H Q _ => ∃ (x y : Int), vs = [.int x, .int y] ∧ Q (.bl (Uw14.alike x y)) H
def spSign : Sp := fun vs H Q _ => ∃ (x y : Int), vs = [.int x, .int y] ∧ Q (.bl (sgB x y)) H
/-- of two numbers that aren't too great -/
def sp2 (g : Int → Int → V) : Sp := fun vs H Q _ => ∃ (x y : Int), vs = [.int x, .int y] ∧ x.natAbs < 10 ^ 20 ∧ y.natAbs < 10 ^ 20 ∧ ∀ H', Same H H' → Q (g x y) H'
def spExch : Sp := fun vs H Q _ => ∃ (a a' : Addr) (x y : List Nat) (p : Nat), vs = [.ref a, .ref a', .int (p : Int)] ∧ H a = some (.lst (dv x)) ∧ H a' = some (.lst (dv y)) ∧ p + 1 < x.length ∧ p + 1 < y.length ∧ Q (.bl (exch x y p)) H
def Bd (c : Uw14.C) : Prop := c.east.natAbs < 10 ^ 20 ∧ c.north.natAbs < 10 ^ 20
/-- of two courses -/
def spC2 (g : Uw14.C → Uw14.C → V) : Sp := fun vs H Q _ => ∃ (v w : V) (m c : Uw14.C), vs = [v, w] ∧ CT H v m ∧ CT H w c ∧ Bd m ∧ Bd c ∧ ∀ H', Same H H' → Q (g m c) H'
def spMeant : Sp := fun vs H Q _ => ∃ (v w : V) (c o : Uw14.C), vs = [v, w] ∧ CT H v c ∧ CT H w o ∧ ∀ p, H p = none → Q (.ref p) (upd H p (cV (mt o c)))
def spSlipIn : Sp := fun vs H Q _ => ∃ (n : Nat) (v w : V) (c o : Uw14.C), vs = [.int (n : Int), v, w] ∧ CT H v c ∧ CT H w o ∧ Bd (mt o c) ∧ Bd c ∧ ∀ H' p, Same H H' → H p = none → H' p = some (.lst (iv (slipL n c o))) → Q (.ref p) H'
structure Rws (H : Hp) (qs : List V) (rows : List (List Int)) : Prop where
  len : qs.length = rows.length
  at_ : ∀ (i : Nat) (r : List Int), rows[i]? = some r → ∃ t, qs[i]? = some (V.ref t) ∧ H t = some (.lst (iv r))
def spSlipsOf : Sp := fun vs H Q _ => ∃ (l : Addr) (rs : List V) (b : Uw14.Book), vs = [.ref l] ∧ H l = some (.lst rs) ∧ Crs H rs b ∧ Wf b ∧ ∀ H' p qs, Same H H' → H' p = some (.lst qs) → Rws H' qs (rows b) → Q (.ref p) H'
/-! ### the book -/
def BookAt (C : Addr) (H : Hp) (x l : Addr) (b : Uw14.Book) : Prop := ∃ dx rs, H x = some (.ins C dx [(("courses" : Str), .ref l)]) ∧ H l = some (.lst rs) ∧ Crs H rs b
def Kp (H H' : Hp) (x l : Addr) : Prop := ∀ a o, H a = some o → a ≠ x → a ≠ l → H' a = some o
def spInit (C : Addr) : Sp := fun vs H Q _ => ∃ (x dx : Addr), vs = [.ref x] ∧ H x = some (.ins C dx []) ∧ ∀ (H' : Hp) (l : Addr), BookAt C H' x l [] → H l = none → (∀ a o, H a = some o → a ≠ x → H' a = some o) → Q .non H'
/-- what a call's method does: args are what is handed in besides the book -/
def spM (C : Addr) (args : List V) (call : Uw14.Call) : List V → Hp → VK → Prop := fun vs H Q => ∃ (x l : Addr) (b : Uw14.Book), vs = .ref x :: args ∧ BookAt C H x l b ∧ Wf b ∧
  ∀ (H' : Hp) (l' p : Addr), BookAt C H' x l' (Uw14.step b call).1 → Kp H H' x l → (l' = l ∨ H l' = none) → H p = none → H' p = some (.lst (iv (ansOf b call))) → Q (.ref p) H'
def spM0 (C : Addr) (call : Uw14.Call) : Sp := fun vs H Q _ => spM C [] call vs H Q
def spCourse (C : Addr) : Sp := fun vs H Q _ => ∃ e n : Int, spM C [.int e, .int n] (.course ⟨e, n⟩) vs H Q
def spChange (C : Addr) : Sp := fun vs H Q _ => ∃ (i : Nat) (e n : Int), spM C [.int (i : Int), .int e, .int n] (.change i ⟨e, n⟩) vs H Q
def spAnswered (C : Addr) : Sp := fun vs H Q _ => ∃ (g : Addr) (p : Int) (gs : List Int) (call : Uw14.Call), H g = some (.lst (iv gs)) ∧ Uw14Neutral.callOf (p :: gs) = some call ∧ spM C [.int p, .ref g] call vs H Q
def spAns (K : PySem.W.Frag) : Sp := fun vs H Q _ => ∃ (a : Addr) (ns : List Int), vs = [.ref a] ∧ SqL K H a (ns.map V.int) ∧ PyUw14.answers_asked ns = true ∧ ns.length ≤ 2000 ∧
  ∀ (H' : Hp) (p : Addr), H' p = some (.lst ((PyUw14.answers ns).map V.int)) → Q (.ref p) H'
end Fs
namespace Fs
open PySem PySem.Spec PyProof.Rows L2
section
variable {P : Program} {w : World} {K : PySem.W.Frag} {mg : Str → Option Value} {base : Heap} {C : Addr}
/-! ### is_course -/
theorem scIsC : FnScope ["east", "north"] ["east", "north"] (defScope sIsCourse) := ⟨rfl, rfl, rfl, by decide +kernel, rfl, by decide +kernel, by decide +kernel⟩
theorem small_as (e n : Int) : Uw14.small ⟨e, n⟩ = (decide ((e.natAbs : Int) ≤ 99999) && decide ((n.natAbs : Int) ≤ 99999)) := by
  unfold Uw14.small Uw14.MOST
  have e1 : decide (e.natAbs ≤ 99999) = decide ((e.natAbs : Int) ≤ 99999) := decide_eq_decide.mpr (by omega)
  have e2 : decide (n.natAbs ≤ 99999) = decide ((n.natAbs : Int) ≤ 99999) := decide_eq_decide.mpr (by omega)
  rw [← e1, ← e2]
theorem ok_isC {f : Addr} {fd : FuncData} (F : Fun K "is_course" "is_course" sIsCourse f fd) (T : Txt K mg C) : FnOk P w K mg base CX0 1 f fd ["east", "north"] spIsC := by
  refine F.ok scIsC (fun vs H Q E h => ?_) (fun cdv A outer s H vs Q E hr h => ⟨_,
    pss_one (ps_ret (pe_and (pe_cmpR op_le (pe_callB call_abs (by rfl) T.nAbs PyProof.Rows.boot_abs (pa_cons (pv 0) pa_nil)) (pe_cst rfl T.cMost) (nomark _))
      (pe_one (pe_cmpR op_le (pe_callB call_abs (by rfl) T.nAbs PyProof.Rows.boot_abs (pa_cons (pv 1) pa_nil)) (pe_cst rfl T.cMost) (nomark _))))), ?_⟩)
  · obtain ⟨e, n, rfl, _⟩ := h
    rfl
  · obtain ⟨e, n, rfl, k⟩ := h
    rw [small_as] at k
    refine ⟨_, rfl, _, rfl, _, _, rfl, rfl, _, rfl, ?_⟩
    rw [abs_if]
    cases c : decide ((e.natAbs : Int) ≤ 99999) with
    | true =>
      refine if_true_of rfl ⟨_, rfl, _, rfl, _, _, rfl, rfl, ?_⟩
      rw [c, Bool.true_and] at k
      rw [abs_if]
      exact k
    | false =>
      refine if_false_of rfl ?_
      rw [c, Bool.false_and] at k
      exact k
/-! ### off_of -/
theorem scOff : FnScope ["courses", "off_east", "off_north", "east", "north"] ["courses"] (defScope sOffOf) := ⟨rfl, rfl, rfl, by decide +kernel, rfl, by decide +kernel, by decide +kernel⟩
theorem ok_off {f : Addr} {fd : FuncData} (F : Fun K "off_of" "off_of" sOffOf f fd) (T : Txt K mg C) : FnOk P w K mg base CX0 1 f fd ["courses"] spOff := by
  refine F.ok scOff (fun vs H Q E h => ?_) (fun cdv A outer s H vs Q E hr h => ⟨_,
    pss_cons (ps_set (i := 1) scOff.nd rfl (Or.inl rfl) pe_int)
    (pss_cons (ps_set (i := 2) scOff.nd rfl (Or.inl rfl) pe_int)
    (pss_cons (ps_for PassesOwn.never rfl (pi_list (pv 0)) (pg_tup rfl (pgs_cons (pg_name (i := 3) scOff.nd rfl (Or.inl rfl)) (pgs_cons (pg_name (i := 4) scOff.nd rfl (Or.inl rfl)) pgs_nil)))
      (pss_cons (ps_set (i := 1) scOff.nd rfl (Or.inl rfl) (pe_op op_add (pv 1) (pv 3)))
      (pss_one (ps_set (i := 2) scOff.nd rfl (Or.inl rfl) (pe_op op_add (pv 2) (pv 4))))))
    (pss_one (ps_ret (pe_tup (pa_cons (pv 1) (pa_cons (pv 2) pa_nil))))))), ?_⟩)
  · obtain ⟨l, rs, b, rfl, _⟩ := h
    rfl
  · obtain ⟨l, rs, b, rfl, hl, hb, k⟩ := h
    refine ⟨_, rfl, l, rfl, ⟨_, SqL.of hl⟩, for_list (K := K) (a := l) (xs := rs) (fun i σ H' => H' = H ∧ ∃ u v : Option V, σ = [some (.ref l), some (.int (Uw14.off (b.take i)).east), some (.int (Uw14.off (b.take i)).north), u, v])
      ⟨rfl, none, none, rfl⟩ (fun i σ H' _ ⟨e, _⟩ => e ▸ SqL.of hl) ?_ ?_⟩
    · rintro i y σ H' hi ⟨rfl, u, v, rfl⟩
      obtain ⟨c, t, hc, rfl, ht⟩ := hb.get hi
      refine ⟨t, _, rfl, SqT.of ht, rfl, _, _, rfl, _, _, rfl, rfl, ?_⟩
      refine ⟨_, rfl, _, rfl, _, _, rfl, rfl, _, rfl, _, rfl, _, _, rfl, rfl, rfl, some (.int c.east), some (.int c.north), ?_⟩
      rw [off_more hc]
      rfl
    · rintro σ H' ⟨rfl, u, v, rfl⟩
      rw [hb.len, List.take_length]
      exact ⟨_, rfl, _, rfl, (by show 2 ≤ sizeLine; decide), fun p hp => k p hp⟩
/-! ### closes -/
theorem eqv_two (a b c d : Int) : PyData.eqv (.tuple [.int a, .int b]) (.tuple [.int c, .int d]) = decide ((⟨a, b⟩ : Uw14.C) = ⟨c, d⟩) := by
  simp [PyData.eqv, PyData.eqvAll]
  rw [Bool.eq_iff_iff]
  simp
theorem shaped_two (a b : Int) : SeqAt.shaped (.tuple [.int a, .int b]) = true := rfl
theorem Dp.two {H : Hp} {t : Addr} {a b : Int} (h : H t = some (.tup [.int a, .int b])) : Dp K H (.ref t) (.tuple [.int a, .int b]) := .tup (SqT.of h) (.cons (.int a) (.cons (.int b) .nil))
theorem scCloses : FnScope ["courses"] ["courses"] (defScope sCloses) := ⟨rfl, rfl, rfl, by decide +kernel, rfl, by decide +kernel, by decide +kernel⟩
theorem ok_closes {f : Addr} {fd : FuncData} (F : Fun K "closes" "closes" sCloses f fd) (T : Txt K mg C) (cO : Callee P w K mg base 1 "off_of" ["courses"] spOff) : FnOk P w K mg base CX0 2 f fd ["courses"] spCloses := by
  refine F.ok scCloses (fun vs H Q E h => ?_) (fun cdv A outer s H vs Q E hr h => ⟨_,
    pss_one (ps_ret (pe_cmpR (op_eqD hr.units) (pe_c cO hr rfl (pa_cons (pv 0) pa_nil)) (pe_tup (pa_cons pe_int (pa_cons pe_int pa_nil))) (nomark _))), ?_⟩)
  · obtain ⟨l, rs, b, rfl, _⟩ := h
    rfl
  · obtain ⟨l, rs, b, rfl, hl, hb, k⟩ := h
    refine ⟨_, rfl, l, rs, b, rfl, hl, hb, fun p hp => ⟨(by show 2 ≤ sizeLine; decide), fun q hq => ⟨_, _, Dp.two (t := p) (a := (Uw14.off b).east) (b := (Uw14.off b).north) ?_, Dp.two upd_same, shaped_two _ _, shaped_two _ _, ?_⟩⟩⟩
    · rw [upd_ne (ne_of_none upd_same hq)]
      exact upd_same
    · rw [eqv_two]
      exact k _ ((Same.upd_new hp).trans (Same.upd_new hq))
/-! ### count_of, length_of -/
theorem scCount : FnScope ["course"] ["course"] (defScope sCountOf) := ⟨rfl, rfl, rfl, by decide +kernel, rfl, by decide +kernel, by decide +kernel⟩
theorem ok_count {f : Addr} {fd : FuncData} (F : Fun K "count_of" "count_of" sCountOf f fd) (T : Txt K mg C) : FnOk P w K mg base CX0 1 f fd ["course"] spCount := by
  refine F.ok scCount (fun vs H Q E h => ?_) (fun cdv A outer s H vs Q E hr h => ⟨_,
    pss_one (ps_ret (pe_op op_add (pe_callB call_abs (by rfl) T.nAbs PyProof.Rows.boot_abs (pa_cons (pe_ix ix_tup (pv 0) pe_int (fun _ _ => rfl)) pa_nil))
      (pe_callB call_abs (by rfl) T.nAbs PyProof.Rows.boot_abs (pa_cons (pe_ix ix_tup (pv 0) pe_int (fun _ _ => rfl)) pa_nil)))), ?_⟩)
  · obtain ⟨v, c, rfl, _⟩ := h
    rfl
  · obtain ⟨v, c, rfl, ⟨t, rfl, ht⟩, k⟩ := h
    refine ⟨_, rfl, t, _, _, _, rfl, rfl, SqT.of ht, at0, _, rfl, _, rfl, t, _, _, _, rfl, rfl, SqT.of ht, at1, _, rfl, _, _, rfl, rfl, ?_⟩
    rw [abs_if, abs_if]
    have e : ((c.east.natAbs : Int) + (c.north.natAbs : Int)) = ((Uw14.long c : Nat) : Int) := by
      unfold Uw14.long
      omega
    show Q (.int ((c.east.natAbs : Int) + (c.north.natAbs : Int))) H
    rw [e]
    exact k
theorem scLength : FnScope ["courses", "found", "course"] ["courses"] (defScope sLengthOf) := ⟨rfl, rfl, rfl, by decide +kernel, rfl, by decide +kernel, by decide +kernel⟩
theorem ok_length {f : Addr} {fd : FuncData} (F : Fun K "length_of" "length_of" sLengthOf f fd) (T : Txt K mg C) (cC : Callee P w K mg base 1 "count_of" ["course"] spCount) : FnOk P w K mg base CX0 2 f fd ["courses"] spLength := by
  refine F.ok scLength (fun vs H Q E h => ?_) (fun cdv A outer s H vs Q E hr h => ⟨_,
    pss_cons (ps_set (i := 1) scLength.nd rfl (Or.inl rfl) pe_int)
    (pss_cons (ps_for PassesOwn.never rfl (pi_list (pv 0)) (pg_name (i := 2) scLength.nd rfl (Or.inl rfl))
      (pss_one (ps_set (i := 1) scLength.nd rfl (Or.inl rfl) (pe_op op_add (pv 1) (pe_c cC hr rfl (pa_cons (pv 2) pa_nil))))))
    (pss_one (ps_ret (pv 1)))), ?_⟩)
  · obtain ⟨l, rs, b, rfl, _⟩ := h
    rfl
  · obtain ⟨l, rs, b, rfl, hl, hb, k⟩ := h
    refine ⟨_, rfl, l, rfl, ⟨_, SqL.of hl⟩, for_list (K := K) (a := l) (xs := rs) (fun i σ H' => H' = H ∧ ∃ u : Option V, σ = [some (.ref l), some (.int (Uw14.length (b.take i) : Nat)), u])
      ⟨rfl, none, rfl⟩ (fun i σ H' _ ⟨e, _⟩ => e ▸ SqL.of hl) ?_ ?_⟩
    · rintro i y σ H' hi ⟨rfl, u, rfl⟩
      obtain ⟨c, t, hc, rfl, ht⟩ := hb.get hi
      refine ⟨_, rfl, _, rfl, _, c, rfl, ⟨t, rfl, ht⟩, _, _, rfl, rfl, rfl, some (.ref t), ?_⟩
      rw [length_more hc]
      rfl
    · rintro σ H' ⟨rfl, u, rfl⟩
      rw [hb.len, List.take_length]
      exact ⟨_, rfl, k⟩
end
end Fs
namespace Fs
open PySem PySem.Spec PyProof.Rows L2
section
variable {P : Program} {w : World} {K : PySem.W.Frag} {mg : Str → Option Value} {base : Heap} {C : Addr}
/-! ### spread_course, spread_of -/
theorem within64 {i : Int} (h : i.natAbs ≤ 10000000) : -(2 ^ 64) < i ∧ i < 2 ^ 64 := by
  have e : (2 : Int) ^ 64 = 18446744073709551616 := by decide
  rw [e]
  omega
theorem scSprC : FnScope ["course", "length", "off", "count"] ["course", "length", "off"] (defScope sSpreadCourse) := ⟨rfl, rfl, rfl, by decide +kernel, rfl, by decide +kernel, by decide +kernel⟩
theorem ok_sprC {f : Addr} {fd : FuncData} (F : Fun K "spread_course" "spread_course" sSpreadCourse f fd) (T : Txt K mg C) (cC : Callee P w K mg base 1 "count_of" ["course"] spCount) : FnOk P w K mg base CX0 2 f fd ["course", "length", "off"] spSprC := by
  refine F.ok scSprC (fun vs H Q E h => ?_) (fun cdv A outer s H vs Q E hr h => ⟨_,
    pss_cons (ps_set (i := 3) scSprC.nd rfl (Or.inl rfl) (pe_c cC hr rfl (pa_cons (pv 0) pa_nil)))
    (pss_one (ps_ret (pe_lst (pa_cons (pe_op op_sub (pe_op op_mul (pv 1) (pe_ix ix_tup (pv 0) pe_int (fun _ _ => rfl))) (pe_op op_mul (pe_ix ix_tup (pv 2) pe_int (fun _ _ => rfl)) (pv 3)))
      (pa_cons (pe_op op_sub (pe_op op_mul (pv 1) (pe_ix ix_tup (pv 0) pe_int (fun _ _ => rfl))) (pe_op op_mul (pe_ix ix_tup (pv 2) pe_int (fun _ _ => rfl)) (pv 3))) pa_nil))))), ?_⟩)
  · obtain ⟨v, w, c, o, n, rfl, _⟩ := h
    rfl
  · obtain ⟨v, w, c, o, n, rfl, ⟨t, rfl, ht⟩, ⟨u, rfl, hu⟩, hb, k⟩ := h
    have hl := long_bound hb
    refine ⟨_, rfl, _, c, rfl, ⟨t, rfl, ht⟩, ?_⟩
    refine ⟨_, rfl, _, rfl, t, _, _, _, rfl, rfl, SqT.of ht, at0, _, _, rfl, rfl, Or.inr (within64 (by omega)), ?_⟩
    refine ⟨_, rfl, u, _, _, _, rfl, rfl, SqT.of hu, at0, _, rfl, _, _, rfl, rfl, Or.inr (within64 (by omega)), _, _, rfl, rfl, ?_⟩
    refine ⟨_, rfl, _, rfl, t, _, _, _, rfl, rfl, SqT.of ht, at1, _, _, rfl, rfl, Or.inr (within64 (by omega)), ?_⟩
    refine ⟨_, rfl, u, _, _, _, rfl, rfl, SqT.of hu, at1, _, rfl, _, _, rfl, rfl, Or.inr (within64 (by omega)), _, _, rfl, rfl, ?_⟩
    exact ⟨(by show 2 ≤ sizeLine; decide), fun p hp => k p hp⟩
theorem iv_app (a b : List Int) : iv (a ++ b) = iv a ++ iv b := List.map_append
theorem iv_len (a : List Int) : (iv a).length = a.length := List.length_map _
theorem dv_len (a : List Nat) : (dv a).length = a.length := List.length_map _
theorem scSprO : FnScope ["courses", "length", "off", "found", "course"] ["courses"] (defScope sSpreadOf) := ⟨rfl, rfl, rfl, by decide +kernel, rfl, by decide +kernel, by decide +kernel⟩
theorem ok_sprO {f : Addr} {fd : FuncData} (F : Fun K "spread_of" "spread_of" sSpreadOf f fd) (T : Txt K mg C) (cL : Callee P w K mg base 2 "length_of" ["courses"] spLength) (cO : Callee P w K mg base 1 "off_of" ["courses"] spOff)
    (cS : Callee P w K mg base 2 "spread_course" ["course", "length", "off"] spSprC) : FnOk P w K mg base CX0 3 f fd ["courses"] spSpread := by
  refine F.ok scSprO (fun vs H Q E h => ?_) (fun cdv A outer s H vs Q E hr h => ⟨_,
    pss_cons (ps_set (i := 1) scSprO.nd rfl (Or.inl rfl) (pe_c cL hr rfl (pa_cons (pv 0) pa_nil)))
    (pss_cons (ps_set (i := 2) scSprO.nd rfl (Or.inl rfl) (pe_c cO (hr.mono (by decide)) rfl (pa_cons (pv 0) pa_nil)))
    (pss_cons (ps_set (i := 3) scSprO.nd rfl (Or.inl rfl) (pe_lst pa_nil))
    (pss_cons (ps_for PassesOwn.never rfl (pi_list (pv 0)) (pg_name (i := 4) scSprO.nd rfl (Or.inl rfl))
      (pss_one (ps_expr (pe_bm PySem.F.plainAttrs_list PySem.F.slot_list_extend PySem.F.type_list_extend mt_extend (pv 3) (pa_cons (pe_c cS hr rfl (pa_cons (pv 4) (pa_cons (pv 1) (pa_cons (pv 2) pa_nil)))) pa_nil)))))
    (pss_one (ps_ret (pv 3)))))), ?_⟩)
  · obtain ⟨l, rs, b, rfl, _⟩ := h
    rfl
  · obtain ⟨l, rs, b, rfl, hl, hb, wf, k⟩ := h
    refine ⟨_, rfl, l, rs, b, rfl, hl, hb, ?_⟩
    refine ⟨_, rfl, l, rs, b, rfl, hl, hb, fun o ho => ?_⟩
    refine ⟨Nat.zero_le _, fun fl hfl => ?_⟩
    have s1 : Same H (upd H o (cV (Uw14.off b))) := Same.upd_new ho
    have s2 := s1.trans (Same.upd_new (o := .lst []) hfl)
    have nfl : H fl = none := s1.free hfl
    refine ⟨_, rfl, l, rfl, ⟨_, SqL.of (s2 _ _ hl)⟩, for_list (K := K) (a := l) (xs := rs) (fun i σ H' => Same (upd H o (cV (Uw14.off b))) H' ∧ H' fl = some (.lst (iv (sprTo b i))) ∧ ∃ u : Option V, σ = [some (.ref l), some (.int (Uw14.length b : Nat)), some (.ref o), some (.ref fl), u])
      ⟨Same.upd_new hfl, upd_same, none, rfl⟩ (fun i σ H' _ ⟨e, _⟩ => SqL.of (e _ _ (s1 _ _ hl))) ?_ ?_⟩
    · rintro i y σ H' hi ⟨sm, hf, u, rfl⟩
      obtain ⟨c, t, hc, rfl, ht⟩ := hb.get hi
      have hc2 := wf.get hc
      have ht' : H' t = some (cV c) := sm _ _ (s1 _ _ ht)
      have ho' : H' o = some (cV (Uw14.off b)) := sm _ _ upd_same
      refine ⟨_, rfl, .inl ⟨rfl, _, SqL.of hf⟩, ?_⟩
      refine ⟨_, rfl, _, rfl, _, rfl, _, _, c, Uw14.off b, _, rfl, ⟨t, rfl, ht'⟩, ⟨o, rfl, ho'⟩, hc2, fun q hq => ?_⟩
      have nq : fl ≠ q := ne_of_none hf hq
      refine ⟨fl, q, iv (sprTo b i), _, rfl, rfl, (by rw [upd_ne nq]; exact hf), upd_same, ?_, ?_⟩
      · have := sprTo_len b i
        have := wf.few
        rw [iv_len]
        exact sz_le (by simp; omega)
      · refine ⟨fun a u e => ?_, ?_, some (.ref t), rfl⟩
        · have hne : a ≠ fl := ne_of_none e hfl
          rw [upd_ne hne, upd_ne (ne_of_none (sm _ _ e) hq)]
          exact sm _ _ e
        · rw [upd_same, spr_more hc, iv_app]
          rfl
    · rintro σ H' ⟨sm, hf, u, rfl⟩
      rw [hb.len] at hf
      exact ⟨_, rfl, k _ _ (s1.trans sm) nfl hf⟩
/-! ### twice_area -/
theorem scTw : FnScope ["courses", "corner_east", "corner_north", "found", "east", "north"] ["courses"] (defScope sTwiceArea) := ⟨rfl, rfl, rfl, by decide +kernel, rfl, by decide +kernel, by decide +kernel⟩
theorem ok_twice {f : Addr} {fd : FuncData} (F : Fun K "twice_area" "twice_area" sTwiceArea f fd) (T : Txt K mg C) : FnOk P w K mg base CX0 1 f fd ["courses"] spTwice := by
  refine F.ok scTw (fun vs H Q E h => ?_) (fun cdv A outer s H vs Q E hr h => ⟨_,
    pss_cons (ps_set (i := 1) scTw.nd rfl (Or.inl rfl) pe_int)
    (pss_cons (ps_set (i := 2) scTw.nd rfl (Or.inl rfl) pe_int)
    (pss_cons (ps_set (i := 3) scTw.nd rfl (Or.inl rfl) pe_int)
    (pss_cons (ps_for PassesOwn.never rfl (pi_list (pv 0)) (pg_tup rfl (pgs_cons (pg_name (i := 4) scTw.nd rfl (Or.inl rfl)) (pgs_cons (pg_name (i := 5) scTw.nd rfl (Or.inl rfl)) pgs_nil)))
      (pss_cons (ps_set (i := 3) scTw.nd rfl (Or.inl rfl) (pe_op op_sub (pe_op op_add (pv 3) (pe_op op_mul (pv 1) (pv 5))) (pe_op op_mul (pv 2) (pv 4))))
      (pss_cons (ps_set (i := 1) scTw.nd rfl (Or.inl rfl) (pe_op op_add (pv 1) (pv 4)))
      (pss_one (ps_set (i := 2) scTw.nd rfl (Or.inl rfl) (pe_op op_add (pv 2) (pv 5)))))))
    (pss_one (ps_ret (pv 3)))))), ?_⟩)
  · obtain ⟨l, rs, b, rfl, _⟩ := h
    rfl
  · obtain ⟨l, rs, b, rfl, hl, hb, wf, k⟩ := h
    refine ⟨_, rfl, l, rfl, ⟨_, SqL.of hl⟩, for_list (K := K) (a := l) (xs := rs) (fun i σ H' => H' = H ∧ ∃ (u v : Option V) (ce cn g : Int), σ = [some (.ref l), some (.int ce), some (.int cn), some (.int g), u, v] ∧ g + Uw14.twice ⟨ce, cn⟩ (b.drop i) = Uw14.area b)
      ⟨rfl, none, none, 0, 0, 0, rfl, by rw [Int.zero_add]; rfl⟩ (fun i σ H' _ ⟨e, _⟩ => e ▸ SqL.of hl) ?_ ?_⟩
    · rintro i y σ H' hi ⟨rfl, u, v, ce, cn, g, rfl, e⟩
      obtain ⟨c, t, hc, rfl, ht⟩ := hb.get hi
      have hc2 := wf.get hc
      refine ⟨t, _, rfl, SqT.of ht, rfl, _, _, rfl, _, _, rfl, rfl, ?_⟩
      refine ⟨_, rfl, _, rfl, _, rfl, _, _, rfl, rfl, Or.inr (within64 (by omega)), _, _, rfl, rfl, _, rfl, _, rfl, _, _, rfl, rfl, Or.inr (within64 (by omega)), _, _, rfl, rfl, ?_⟩
      refine ⟨_, rfl, _, rfl, _, _, rfl, rfl, _, rfl, _, rfl, _, _, rfl, rfl, rfl, some (.int c.east), some (.int c.north), ce + c.east, cn + c.north, g + ce * c.north - cn * c.east, rfl, ?_⟩
      rw [drop_more hc] at e
      rw [← e]
      show _ = g + ((ce * c.north - cn * c.east) + Uw14.twice ⟨ce + c.east, cn + c.north⟩ (b.drop (i + 1)))
      omega
    · rintro σ H' ⟨rfl, u, v, ce, cn, g, rfl, e⟩
      rw [hb.len, List.drop_length] at e
      have e' : g = Uw14.area b := by
        have : Uw14.twice ⟨ce, cn⟩ [] = 0 := rfl
        omega
      refine ⟨_, rfl, ?_⟩
      rw [e']
      exact k
end
end Fs
namespace Fs
open PySem PySem.Spec PyProof.Rows L2
section
variable {P : Program} {w : World} {K : PySem.W.Frag} {mg : Str → Option Value} {base : Heap} {C : Addr}
/-! ### digits_of, written -/
theorem dv_app (a b : List Nat) : dv (a ++ b) = dv a ++ dv b := List.map_append
theorem scDig : FnScope ["number", "found", "left"] ["number"] (defScope sDigitsOf) := ⟨rfl, rfl, rfl, by decide +kernel, rfl, by decide +kernel, by decide +kernel⟩
def leftOf (σ : L2.St) : Nat := match σ with
  | [_, _, some (.int m)] => m.toNat
  | _ => 0
theorem rd_room {acc : List Nat} {m n : Nat} (e : acc ++ rd m = rd n) : acc.length + 1 ≤ 22 := by
  have h1 := congrArg List.length e
  rw [List.length_append] at h1
  have h2 := rd_len n
  omega
theorem ok_digits {f : Addr} {fd : FuncData} (F : Fun K "digits_of" "digits_of" sDigitsOf f fd) (T : Txt K mg C) : FnOk P w K mg base CX0 1 f fd ["number"] spDigits := by
  refine F.ok scDig (fun vs H Q E h => ?_) (fun cdv A outer s H vs Q E hr h => ⟨_,
    pss_cons (ps_set (i := 1) scDig.nd rfl (Or.inl rfl) (pe_lst pa_nil))
    (pss_cons (ps_set (i := 2) scDig.nd rfl (Or.inl rfl) (pv 0))
    (pss_cons (ps_while PassesOwn.never (pt_cmpR op_gt (pv 2) pe_int (nomark _))
      (pss_cons (ps_expr (pe_bm PySem.F.plainAttrs_list PySem.F.slot_list_append PySem.F.type_list_append mt_append (pv 1) (pa_cons (pe_op op_mod (pv 2) pe_int) pa_nil)))
      (pss_one (ps_set (i := 2) scDig.nd rfl (Or.inl rfl) (pe_op op_fdiv (pv 2) pe_int)))))
    (pss_cons (ps_expr (pe_bm PySem.F.plainAttrs_list PySem.F.slot_list_append PySem.F.type_list_append mt_append (pv 1) (pa_cons (pv 2) pa_nil)))
    (pss_one (ps_ret (pv 1)))))), ?_⟩)
  · obtain ⟨n, rfl, _⟩ := h
    rfl
  · obtain ⟨n, rfl, hn, k⟩ := h
    refine ⟨Nat.zero_le _, fun p hp => ⟨_, rfl, ?_⟩⟩
    refine while_by (fun σ H' => ∃ (m : Nat) (acc : List Nat), H' = upd H p (.lst (dv acc)) ∧ σ = [some (.int (n : Int)), some (.ref p), some (.int (m : Int))] ∧ m < 10 ^ 20 ∧ acc ++ rd m = rd n) (fun σ _ => leftOf σ)
      ⟨n, [], rfl, rfl, hn, rfl⟩ ?_ ?_
    · rintro σ H' ⟨m, acc, rfl, rfl, hm, e⟩
      refine ⟨_, rfl, _, _, rfl, rfl, _, rfl, ?_⟩
      have room := rd_room e
      by_cases c : (9 : Int) < (m : Int)
      · refine if_true_of (decide_eq_true c) ?_
        refine ⟨_, rfl, .inl ⟨rfl, _, SqL.of upd_same⟩, _, rfl, _, _, rfl, rfl, (by show (0 : Int) < 10; decide), p, _, _, rfl, rfl, upd_same, sz_lt (by rw [dv_len]; omega), ?_⟩
        refine ⟨_, rfl, _, _, rfl, rfl, ⟨by decide, by decide⟩, ⟨m / 10, acc ++ [m % 10], ?_, ?_, by omega, ?_⟩, ?_⟩
        · rw [upd_upd, dv_app]
          rfl
        · rfl
        · rw [← e, rd_high (by omega) hm, List.append_assoc]
          rfl
        · show ((m : Int) / 10).toNat < (m : Int).toNat
          omega
      · refine if_false_of (decide_eq_false c) ?_
        refine ⟨_, rfl, .inl ⟨rfl, _, SqL.of upd_same⟩, _, rfl, p, _, _, rfl, rfl, upd_same, sz_lt (by rw [dv_len]; omega), ?_⟩
        refine ⟨_, rfl, ?_⟩
        rw [upd_upd]
        have e2 : dv acc ++ [V.int (m : Int)] = dv (rd n) := by
          rw [← e, rd_low (by omega), dv_app]
          rfl
        show Q (.ref p) (upd H p (.lst (dv acc ++ [V.int (m : Int)])))
        rw [e2]
        exact k p hp
    · rintro σ H Q Q' hq ⟨v, e, i, j, e1, e2, kk, e3, q⟩
      exact ⟨v, e, i, j, e1, e2, kk, e3, hq _ _ q⟩
theorem scWr : FnScope ["number"] ["number"] (defScope sWritten) := ⟨rfl, rfl, rfl, by decide +kernel, rfl, by decide +kernel, by decide +kernel⟩
theorem ok_written {f : Addr} {fd : FuncData} (F : Fun K "written" "written" sWritten f fd) (T : Txt K mg C) (cD : Callee P w K mg base 1 "digits_of" ["number"] spDigits) : FnOk P w K mg base CX0 2 f fd ["number"] spWritten := by
  refine F.ok scWr (fun vs H Q E h => ?_) (fun cdv A outer s H vs Q E hr h => ⟨_,
    pss_one (ps_ret (pe_c cD hr rfl (pa_cons (pe_callB call_abs (by rfl) T.nAbs PyProof.Rows.boot_abs (pa_cons (pv 0) pa_nil)) pa_nil))), ?_⟩)
  · obtain ⟨z, rfl, _⟩ := h
    rfl
  · obtain ⟨z, rfl, hz, k⟩ := h
    refine ⟨_, rfl, _, rfl, z.natAbs, ?_, hz, k⟩
    rw [abs_if]
    rfl
/-! ### places_unlike -/
def puTo (x y : List Nat) (i : Nat) : List Nat := (List.range i).filter fun i => x.getD i 0 != y.getD i 0
theorem puTo_succ (x y : List Nat) (i : Nat) : puTo x y (i + 1) = puTo x y i ++ (if x.getD i 0 = y.getD i 0 then [] else [i]) := by
  unfold puTo
  rw [List.range_succ, List.filter_append]
  congr 1
  by_cases c : x.getD i 0 = y.getD i 0
  · have z : (x.getD i 0 != y.getD i 0) = false := by rw [c, bne_self_eq_false]
    rw [if_pos c]
    simp only [List.filter_cons, List.filter_nil, z]
    rfl
  · have z : (x.getD i 0 != y.getD i 0) = true := bne_iff_ne.mpr c
    rw [if_neg c]
    simp only [List.filter_cons, List.filter_nil, z]
    rfl
theorem dv_get {x : List Nat} {i : Nat} (h : i < x.length) : (dv x)[i]? = some (V.int ((x.getD i 0 : Nat) : Int)) := by
  unfold dv
  rw [List.getElem?_map, List.getElem?_eq_getElem h, List.getD_eq_getElem?_getD, List.getElem?_eq_getElem h]
  rfl
theorem dec_nat (a b : Nat) : decide (V.int (a : Int) = V.int (b : Int)) = decide (a = b) := by
  apply decide_eq_decide.mpr
  constructor
  · intro h
    injection h with h
    omega
  · intro h
    rw [h]
theorem in62 {n : Nat} (h : n ≤ 100000000) : -(2 ^ 62) ≤ (n : Int) ∧ (n : Int) < 2 ^ 62 := by
  have e : (2 : Int) ^ 62 = 4611686018427387904 := by decide
  rw [e]
  omega
theorem scPl : FnScope ["one", "other", "found", "place"] ["one", "other"] (defScope sPlacesUnlike) := ⟨rfl, rfl, rfl, by decide +kernel, rfl, by decide +kernel, by decide +kernel⟩
theorem ok_places {f : Addr} {fd : FuncData} (F : Fun K "places_unlike" "places_unlike" sPlacesUnlike f fd) (T : Txt K mg C) : FnOk P w K mg base CX0 1 f fd ["one", "other"] spPlaces := by
  refine F.ok scPl (fun vs H Q E h => ?_) (fun cdv A outer s H vs Q E hr h => ⟨_,
    pss_cons (ps_set (i := 2) scPl.nd rfl (Or.inl rfl) (pe_lst pa_nil))
    (pss_cons (ps_for PassesOwn.never rfl (pi_range1 (by rfl) T.nRange (pa_cons (pe_callB call_len_seq (by rfl) T.nLen PySem.boot_len (pa_cons (pv 0) pa_nil)) pa_nil)) (pg_name (i := 3) scPl.nd rfl (Or.inl rfl))
      (pss_one (ps_if (pt_cmpR op_ne (pe_ix ix_list (pv 0) (pv 3) (fun _ _ => rfl)) (pe_ix ix_list (pv 1) (pv 3) (fun _ _ => rfl)) (nomark _))
        (pss_one (ps_expr (pe_bm PySem.F.plainAttrs_list PySem.F.slot_list_append PySem.F.type_list_append mt_append (pv 2) (pa_cons (pv 3) pa_nil)))) pss_nil)))
    (pss_one (ps_ret (pv 2)))), ?_⟩)
  · obtain ⟨a, a', x, y, rfl, _⟩ := h
    rfl
  · obtain ⟨a, a', x, y, rfl, ha, ha', hl, hx, k⟩ := h
    refine ⟨Nat.zero_le _, fun p hp => ?_⟩
    have na : a ≠ p := ne_of_none ha hp
    have na' : a' ≠ p := ne_of_none ha' hp
    have ga : ∀ o, upd H p o a = some (.lst (dv x)) := fun o => by rw [upd_ne na]; exact ha
    have ga' : ∀ o, upd H p o a' = some (.lst (dv y)) := fun o => by rw [upd_ne na']; exact ha'
    have en : (((dv x).length : Nat) : Int).toNat = x.length := by rw [dv_len]; exact Int.toNat_natCast _
    refine ⟨_, rfl, a, _, rfl, .inl (SqL.of (ga _)), _, rfl, (in62 (by rw [dv_len]; omega)).1, (in62 (by rw [dv_len]; omega)).2, ?_⟩
    rw [en]
    refine for_range (lo := 0) (n := x.length) (fun i σ H' => H' = upd H p (.lst (dv (puTo x y i))) ∧ ∃ u : Option V, σ = [some (.ref a), some (.ref a'), some (.ref p), u]) ⟨rfl, none, rfl⟩ ?_ ?_
    · rintro i σ H' hi ⟨rfl, u, rfl⟩
      have hi' : i < y.length := hl ▸ hi
      refine ⟨_, rfl, _, rfl, a, _, _, _, rfl, rfl, SqL.of (ga _), at_of (j := i) (by omega) (dv_get hi), _, rfl, _, rfl, a', _, _, _, rfl, rfl, SqL.of (ga' _), at_of (j := i) (by omega) (dv_get hi'), rfl, _, rfl, ?_⟩
      rw [dec_nat]
      by_cases c : x.getD i 0 = y.getD i 0
      · refine if_false_of (by rw [decide_eq_true c]; rfl) ?_
        refine ⟨?_, some (.int (0 + (i : Int))), rfl⟩
        rw [puTo_succ, if_pos c, List.append_nil]
      · refine if_true_of (by rw [decide_eq_false c]; rfl) ?_
        refine ⟨_, rfl, .inl ⟨rfl, _, SqL.of upd_same⟩, _, rfl, p, _, _, rfl, rfl, upd_same, sz_lt ?_, ?_, some (.int (0 + (i : Int))), rfl⟩
        · rw [dv_len]
          have : (puTo x y i).length ≤ i := Nat.le_trans (List.length_filter_le _ _) (by simp)
          omega
        · rw [upd_upd, puTo_succ, if_neg c, dv_app, Int.zero_add]
          rfl
    · rintro σ H' ⟨rfl, u, rfl⟩
      exact ⟨_, rfl, k p hp⟩
end
end Fs
namespace Fs
open PySem PySem.Spec PyProof.Rows L2
section
variable {P : Program} {w : World} {K : PySem.W.Frag} {mg : Str → Option Value} {base : Heap} {C : Addr}
/-! ### same_side, is_other_sign -/
theorem dec_bl (a b : Bool) : decide (V.bl a = V.bl b) = (a == b) := by cases a <;> cases b <;> decide
theorem dec_i (a b : Int) : decide (V.int a = V.int b) = decide (a = b) := by
  apply decide_eq_decide.mpr
  constructor
  · intro h
    injection h
  · intro h
    rw [h]
theorem scSame : FnScope ["one", "other"] ["one", "other"] (defScope sSameSide) := ⟨rfl, rfl, rfl, by decide +kernel, rfl, by decide +kernel, by decide +kernel⟩
theorem ok_same {f : Addr} {fd : FuncData} (F : Fun K "same_side" "same_side" sSameSide f fd) (T : Txt K mg C) : FnOk P w K mg base CX0 1 f fd ["one", "other"] spSame := by
  refine F.ok scSame (fun vs H Q E h => ?_) (fun cdv A outer s H vs Q E hr h => ⟨_,
    pss_one (ps_ret (pe_cmpR op_eq (pe_cmpR op_lt (pv 0) pe_int (nomark _)) (pe_cmpR op_lt (pv 1) pe_int (nomark _)) (nomark _))), ?_⟩)
  · obtain ⟨x, y, rfl, _⟩ := h
    rfl
  · obtain ⟨x, y, rfl, k⟩ := h
    refine ⟨_, rfl, _, _, rfl, rfl, _, rfl, _, _, rfl, rfl, rfl, ?_⟩
    rw [dec_bl]
    exact k
theorem scSign : FnScope ["one", "other"] ["one", "other"] (defScope sIsOtherSign) := ⟨rfl, rfl, rfl, by decide +kernel, rfl, by decide +kernel, by decide +kernel⟩
theorem ok_sign {f : Addr} {fd : FuncData} (F : Fun K "is_other_sign" "is_other_sign" sIsOtherSign f fd) (T : Txt K mg C) : FnOk P w K mg base CX0 1 f fd ["one", "other"] spSign := by
  refine F.ok scSign (fun vs H Q E h => ?_) (fun cdv A outer s H vs Q E hr h => ⟨_,
    pss_one (ps_ret (pe_and (pe_cmpR op_ne (pv 0) (pv 1) (nomark _)) (pe_one (pe_cmpR op_eq (pv 0) (pe_op op_sub pe_int (pv 1)) (nomark _))))), ?_⟩)
  · obtain ⟨x, y, rfl, _⟩ := h
    rfl
  · obtain ⟨x, y, rfl, k⟩ := h
    refine ⟨_, rfl, _, rfl, rfl, _, rfl, ?_⟩
    rw [dec_i]
    unfold sgB at k
    cases c : decide (x = y) with
    | true =>
      rw [c] at k
      exact if_false_of rfl k
    | false =>
      rw [c] at k
      refine if_true_of rfl ⟨_, rfl, _, rfl, _, _, rfl, rfl, rfl, ?_⟩
      rw [dec_i]
      exact k
/-! ### as_many_digits, is_other_digit -/
theorem scMany : FnScope ["one", "other"] ["one", "other"] (defScope sAsManyDigits) := ⟨rfl, rfl, rfl, by decide +kernel, rfl, by decide +kernel, by decide +kernel⟩
theorem ok_many {f : Addr} {fd : FuncData} (F : Fun K "as_many_digits" "as_many_digits" sAsManyDigits f fd) (T : Txt K mg C) (cS : Callee P w K mg base 1 "same_side" ["one", "other"] spSame) (cW : Callee P w K mg base 2 "written" ["number"] spWritten) :
    FnOk P w K mg base CX0 3 f fd ["one", "other"] (sp2 fun x y => .bl (amd x y)) := by
  refine F.ok scMany (fun vs H Q E h => ?_) (fun cdv A outer s H vs Q E hr h => ⟨_,
    pss_one (ps_ret (pe_and (pe_c cS (hr.mono (by decide)) rfl (pa_cons (pv 0) (pa_cons (pv 1) pa_nil)))
      (pe_one (pe_cmpR op_eq (pe_callB call_len_seq (by rfl) T.nLen PySem.boot_len (pa_cons (pe_c cW hr rfl (pa_cons (pv 0) pa_nil)) pa_nil))
        (pe_callB call_len_seq (by rfl) T.nLen PySem.boot_len (pa_cons (pe_c cW hr rfl (pa_cons (pv 1) pa_nil)) pa_nil)) (nomark _))))), ?_⟩)
  · obtain ⟨x, y, rfl, _⟩ := h
    rfl
  · obtain ⟨x, y, rfl, hx, hy, k⟩ := h
    refine ⟨_, rfl, _, rfl, x, y, rfl, _, rfl, ?_⟩
    unfold amd at k
    dsimp only at k
    cases c : Uw14.alike x y with
    | false =>
      rw [c] at k
      exact if_false_of rfl (k H (Same.refl H))
    | true =>
      rw [c] at k
      refine if_true_of rfl ⟨_, rfl, x, rfl, hx, fun p hp => ⟨p, _, rfl, .inl (SqL.of upd_same), ?_⟩⟩
      refine ⟨_, rfl, y, rfl, hy, fun q hq => ⟨q, _, rfl, .inl (SqL.of upd_same), rfl, ?_⟩⟩
      rw [dec_nat, dv_len, dv_len]
      exact k _ ((Same.upd_new hp).trans (Same.upd_new hq))
theorem scDigit : FnScope ["one", "other"] ["one", "other"] (defScope sIsOtherDigit) := ⟨rfl, rfl, rfl, by decide +kernel, rfl, by decide +kernel, by decide +kernel⟩
theorem ok_digit {f : Addr} {fd : FuncData} (F : Fun K "is_other_digit" "is_other_digit" sIsOtherDigit f fd) (T : Txt K mg C) (cA : Callee P w K mg base 3 "as_many_digits" ["one", "other"] (sp2 fun x y => .bl (amd x y)))
    (cW : Callee P w K mg base 2 "written" ["number"] spWritten) (cP : Callee P w K mg base 1 "places_unlike" ["one", "other"] spPlaces) :
    FnOk P w K mg base CX0 4 f fd ["one", "other"] (sp2 fun x y => .bl (dgB x y)) := by
  refine F.ok scDigit (fun vs H Q E h => ?_) (fun cdv A outer s H vs Q E hr h => ⟨_,
    pss_cons (ps_if (pt_not (pt_val (pe_c cA hr rfl (pa_cons (pv 0) (pa_cons (pv 1) pa_nil))))) (pss_one (ps_ret pe_bl)) pss_nil)
    (pss_one (ps_ret (pe_cmpR op_eq (pe_callB call_len_seq (by rfl) T.nLen PySem.boot_len (pa_cons (pe_c cP (hr.mono (by decide)) rfl (pa_cons (pe_c cW (hr.mono (by decide)) rfl (pa_cons (pv 0) pa_nil)) (pa_cons (pe_c cW (hr.mono (by decide)) rfl (pa_cons (pv 1) pa_nil)) pa_nil))) pa_nil)) pe_int (nomark _)))), ?_⟩)
  · obtain ⟨x, y, rfl, _⟩ := h
    rfl
  · obtain ⟨x, y, rfl, hx, hy, k⟩ := h
    refine ⟨_, rfl, _, rfl, x, y, rfl, hx, hy, fun H1 s1 => ⟨_, rfl, ?_⟩⟩
    cases c : amd x y with
    | false =>
      refine if_true_of rfl ?_
      have e : dgB x y = false := by unfold dgB; rw [c]; rfl
      simp only [e] at k
      exact k _ s1
    | true =>
      refine if_false_of rfl ?_
      have hl : (rd x.natAbs).length = (rd y.natAbs).length := by
        unfold amd at c
        rw [Bool.and_eq_true, beq_iff_eq] at c
        exact c.2
      refine ⟨_, rfl, x, rfl, hx, fun p hp => ⟨_, rfl, y, rfl, hy, fun q hq => ⟨p, q, _, _, rfl, ?_, upd_same, hl, rd_len _, fun r hr2 => ⟨r, _, rfl, .inl (SqL.of upd_same), rfl, ?_⟩⟩⟩⟩
      · rw [upd_ne (ne_of_none upd_same hq)]
        exact upd_same
      · have e : dgB x y = decide ((pu (rd x.natAbs) (rd y.natAbs)).length = 1) := by unfold dgB; rw [c]; rfl
        simp only [e] at k
        have e2 : decide (V.int ((dv (pu (rd x.natAbs) (rd y.natAbs))).length : Int) = V.int 1) = decide ((pu (rd x.natAbs) (rd y.natAbs)).length = 1) := by
          rw [dv_len]
          exact dec_nat _ 1
        rw [e2]
        exact k _ (((s1.trans (Same.upd_new hp)).trans (Same.upd_new hq)).trans (Same.upd_new hr2))
/-! ### are_exchanged, is_other_order -/
theorem scEx : FnScope ["one", "other", "place"] ["one", "other", "place"] (defScope sAreExchanged) := ⟨rfl, rfl, rfl, by decide +kernel, rfl, by decide +kernel, by decide +kernel⟩
theorem ok_exch {f : Addr} {fd : FuncData} (F : Fun K "are_exchanged" "are_exchanged" sAreExchanged f fd) (T : Txt K mg C) : FnOk P w K mg base CX0 1 f fd ["one", "other", "place"] spExch := by
  refine F.ok scEx (fun vs H Q E h => ?_) (fun cdv A outer s H vs Q E hr h => ⟨_,
    pss_one (ps_ret (pe_and (pe_cmpR op_eq (pe_ix ix_list (pv 0) (pv 2) (fun _ _ => rfl)) (pe_ix ix_list (pv 1) (pe_op op_add (pv 2) pe_int) (fun _ _ => rfl)) (nomark _))
      (pe_one (pe_cmpR op_eq (pe_ix ix_list (pv 0) (pe_op op_add (pv 2) pe_int) (fun _ _ => rfl)) (pe_ix ix_list (pv 1) (pv 2) (fun _ _ => rfl)) (nomark _))))), ?_⟩)
  · obtain ⟨a, a', x, y, p, rfl, _⟩ := h
    rfl
  · obtain ⟨a, a', x, y, p, rfl, ha, ha', hx, hy, k⟩ := h
    unfold exch at k
    have hx0 : p < x.length := by omega
    have hy0 : p < y.length := by omega
    refine ⟨_, rfl, _, rfl, a, _, _, _, rfl, rfl, SqL.of ha, at_of (j := p) rfl (dv_get hx0), _, rfl, _, rfl, _, _, rfl, rfl, a', _, _, _, rfl, rfl, SqL.of ha', at_of (j := p + 1) (by omega) (dv_get hy), rfl, _, rfl, ?_⟩
    rw [dec_nat]
    have e1 : (x.getD p 0 == y.getD (p + 1) 0) = decide (x.getD p 0 = y.getD (p + 1) 0) := rfl
    rw [e1] at k
    cases c : decide (x.getD p 0 = y.getD (p + 1) 0) with
    | false =>
      rw [c] at k
      exact if_false_of rfl k
    | true =>
      rw [c] at k
      refine if_true_of rfl ⟨_, rfl, _, rfl, _, _, rfl, rfl, a, _, _, _, rfl, rfl, SqL.of ha, at_of (j := p + 1) (by omega) (dv_get hx), _, rfl, _, rfl, a', _, _, _, rfl, rfl, SqL.of ha', at_of (j := p) rfl (dv_get hy0), rfl, ?_⟩
      rw [dec_nat]
      exact k
theorem ordB_not {a b : List Nat} (h : (pu a b).length ≠ 2) : ordB a b = false := by
  unfold ordB
  split
  · rename_i p q e
    rw [e] at h
    exact absurd rfl h
  · rfl
theorem ordB_two {a b : List Nat} {p q : Nat} (h : pu a b = [p, q]) : ordB a b = (q == p + 1 && exch a b p) := by
  unfold ordB
  rw [h]
theorem scOrder : FnScope ["one", "other", "first", "second", "unlike"] ["one", "other"] (defScope sIsOtherOrder) := ⟨rfl, rfl, rfl, by decide +kernel, rfl, by decide +kernel, by decide +kernel⟩
theorem ok_order {f : Addr} {fd : FuncData} (F : Fun K "is_other_order" "is_other_order" sIsOtherOrder f fd) (T : Txt K mg C) (cA : Callee P w K mg base 3 "as_many_digits" ["one", "other"] (sp2 fun x y => .bl (amd x y)))
    (cW : Callee P w K mg base 2 "written" ["number"] spWritten) (cP : Callee P w K mg base 1 "places_unlike" ["one", "other"] spPlaces) (cE : Callee P w K mg base 1 "are_exchanged" ["one", "other", "place"] spExch) :
    FnOk P w K mg base CX0 4 f fd ["one", "other"] (sp2 fun x y => .bl (odB x y)) := by
  refine F.ok scOrder (fun vs H Q E h => ?_) (fun cdv A outer s H vs Q E hr h => ⟨_,
    pss_cons (ps_if (pt_not (pt_val (pe_c cA hr rfl (pa_cons (pv 0) (pa_cons (pv 1) pa_nil))))) (pss_one (ps_ret pe_bl)) pss_nil)
    (pss_cons (ps_par (i := 2) (j := 3) rfl scOrder.nd rfl rfl (by decide) rfl rfl (pa_cons (pe_c cW (hr.mono (by decide)) rfl (pa_cons (pv 0) pa_nil)) (pa_cons (pe_c cW (hr.mono (by decide)) rfl (pa_cons (pv 1) pa_nil)) pa_nil)) rfl)
    (pss_cons (ps_set (i := 4) scOrder.nd rfl (Or.inl rfl) (pe_c cP (hr.mono (by decide)) rfl (pa_cons (pv 2) (pa_cons (pv 3) pa_nil))))
    (pss_cons (ps_if (PW.pt (pw_or (pt_cmpR op_ne (pe_callB call_len_seq (by rfl) T.nLen PySem.boot_len (pa_cons (pv 4) pa_nil)) pe_int (nomark _))
        (pw_or1 (pt_cmpR op_ne (pe_ix ix_list (pv 4) pe_int (fun _ _ => rfl)) (pe_op op_add (pe_ix ix_list (pv 4) pe_int (fun _ _ => rfl)) pe_int) (nomark _))))) (pss_one (ps_ret pe_bl)) pss_nil)
    (pss_one (ps_ret (pe_c cE (hr.mono (by decide)) rfl (pa_cons (pv 2) (pa_cons (pv 3) (pa_cons (pe_ix ix_list (pv 4) pe_int (fun _ _ => rfl)) pa_nil))))))))), ?_⟩)
  · obtain ⟨x, y, rfl, _⟩ := h
    rfl
  · obtain ⟨x, y, rfl, hx, hy, k⟩ := h
    refine ⟨_, rfl, _, rfl, x, y, rfl, hx, hy, fun H1 s1 => ⟨_, rfl, ?_⟩⟩
    cases c : amd x y with
    | false =>
      refine if_true_of rfl ?_
      have e : odB x y = false := by unfold odB; rw [c]; rfl
      simp only [e] at k
      exact k _ s1
    | true =>
      refine if_false_of rfl ?_
      have hl : (rd x.natAbs).length = (rd y.natAbs).length := by
        unfold amd at c
        rw [Bool.and_eq_true, beq_iff_eq] at c
        exact c.2
      have eo : odB x y = ordB (rd x.natAbs) (rd y.natAbs) := by unfold odB; rw [c]; rfl
      dsimp only at k
      rw [eo] at k
      refine ⟨_, rfl, x, rfl, hx, fun p hp => ⟨_, rfl, y, rfl, hy, fun q hq => ⟨_, _, rfl, ?_⟩⟩⟩
      have gp : upd (upd H1 p (.lst (dv (rd x.natAbs)))) q (.lst (dv (rd y.natAbs))) p = some (.lst (dv (rd x.natAbs))) := by
        rw [upd_ne (ne_of_none upd_same hq)]
        exact upd_same
      refine ⟨_, rfl, _, rfl, p, q, _, _, rfl, gp, upd_same, hl, rd_len _, fun r hr2 => ?_⟩
      have sm := ((s1.trans (Same.upd_new (o := .lst (dv (rd x.natAbs))) hp)).trans (Same.upd_new (o := .lst (dv (rd y.natAbs))) hq)).trans (Same.upd_new (o := .lst (dv (pu (rd x.natAbs) (rd y.natAbs)))) hr2)
      have gp2 := (ne_of_none gp hr2)
      have gq2 := (ne_of_none (upd_same (H := upd H1 p (.lst (dv (rd x.natAbs)))) (a := q) (o := .lst (dv (rd y.natAbs)))) hr2)
      refine ⟨_, rfl, r, _, rfl, .inl (SqL.of upd_same), rfl, _, rfl, ?_⟩
      have e2 : decide (V.int ((dv (pu (rd x.natAbs) (rd y.natAbs))).length : Int) = V.int 2) = decide ((pu (rd x.natAbs) (rd y.natAbs)).length = 2) := by
        rw [dv_len]
        exact dec_nat _ 2
      rw [e2]
      by_cases c2 : (pu (rd x.natAbs) (rd y.natAbs)).length = 2
      · refine if_false_of (by rw [decide_eq_true c2]; rfl) ?_
        obtain ⟨u, v, euv⟩ : ∃ u v, pu (rd x.natAbs) (rd y.natAbs) = [u, v] := by
          match hh : pu (rd x.natAbs) (rd y.natAbs), c2 with
          | [u, v], _ => exact ⟨u, v, rfl⟩
        have mv : v < (rd x.natAbs).length := by
          have : v ∈ pu (rd x.natAbs) (rd y.natAbs) := by rw [euv]; simp
          exact (mem_pu.mp this).1
        have ed : dv (pu (rd x.natAbs) (rd y.natAbs)) = [.int (u : Int), .int (v : Int)] := by rw [euv]; rfl
        rw [ordB_two euv] at k
        have gr : upd (upd (upd H1 p (.lst (dv (rd x.natAbs)))) q (.lst (dv (rd y.natAbs)))) r (.lst (dv (pu (rd x.natAbs) (rd y.natAbs)))) r = some (.lst [.int (u : Int), .int (v : Int)]) := by
          rw [upd_same, ed]
        refine ⟨_, rfl, r, _, _, _, rfl, rfl, SqL.of gr, at1, _, rfl, r, _, _, _, rfl, rfl, SqL.of gr, at0, _, _, rfl, rfl, rfl, _, rfl, ?_⟩
        have e3 : decide (V.int (v : Int) = V.int ((u : Int) + 1)) = decide (v = u + 1) := dec_nat v (u + 1)
        rw [e3]
        by_cases c3 : v = u + 1
        · refine if_false_of (by rw [decide_eq_true c3]; rfl) ?_
          subst c3
          rw [beq_self_eq_true, Bool.true_and] at k
          refine ⟨_, rfl, _, rfl, _, rfl, r, _, _, _, rfl, rfl, SqL.of gr, at0, p, q, _, _, u, rfl, ?_, ?_, mv, hl ▸ mv, k _ sm⟩
          · rw [upd_ne gp2]
            exact gp
          · rw [upd_ne gq2]
            exact upd_same
        · refine if_true_of (by rw [decide_eq_false c3]; rfl) ?_
          have z : (v == u + 1) = false := beq_eq_false_iff_ne.mpr c3
          rw [z, Bool.false_and] at k
          exact k _ sm
      · refine if_true_of (by rw [decide_eq_false c2]; rfl) ?_
        rw [ordB_not c2] at k
        exact k _ sm
/-! ### kind_of_number -/
theorem scNum : FnScope ["one", "other"] ["one", "other"] (defScope sKindOfNumber) := ⟨rfl, rfl, rfl, by decide +kernel, rfl, by decide +kernel, by decide +kernel⟩
theorem ok_num {f : Addr} {fd : FuncData} (F : Fun K "kind_of_number" "kind_of_number" sKindOfNumber f fd) (T : Txt K mg C) (cS : Callee P w K mg base 1 "is_other_sign" ["one", "other"] spSign)
    (cD : Callee P w K mg base 4 "is_other_digit" ["one", "other"] (sp2 fun x y => .bl (dgB x y))) (cO : Callee P w K mg base 4 "is_other_order" ["one", "other"] (sp2 fun x y => .bl (odB x y))) :
    FnOk P w K mg base CX0 5 f fd ["one", "other"] (sp2 fun x y => .int (kn x y)) := by
  refine F.ok scNum (fun vs H Q E h => ?_) (fun cdv A outer s H vs Q E hr h => ⟨_,
    pss_cons (ps_if (pt_val (pe_c cS (hr.mono (by decide)) rfl (pa_cons (pv 0) (pa_cons (pv 1) pa_nil)))) (pss_one (ps_ret (pe_cst rfl T.cSign))) pss_nil)
    (pss_cons (ps_if (pt_val (pe_c cD hr rfl (pa_cons (pv 0) (pa_cons (pv 1) pa_nil)))) (pss_one (ps_ret (pe_cst rfl T.cDigit))) pss_nil)
    (pss_cons (ps_if (pt_val (pe_c cO hr rfl (pa_cons (pv 0) (pa_cons (pv 1) pa_nil)))) (pss_one (ps_ret (pe_cst rfl T.cOrder))) pss_nil)
    (pss_one (ps_ret (pe_cst rfl T.cNoSlip))))), ?_⟩)
  · obtain ⟨x, y, rfl, _⟩ := h
    rfl
  · obtain ⟨x, y, rfl, hx, hy, k⟩ := h
    refine ⟨_, rfl, _, rfl, x, y, rfl, _, rfl, ?_⟩
    unfold kn at k
    cases c : sgB x y with
    | true =>
      simp only [c, if_true] at k
      exact if_true_of rfl (k _ (Same.refl H))
    | false =>
      simp only [c, Bool.false_eq_true, if_false] at k
      refine if_false_of rfl ⟨_, rfl, _, rfl, x, y, rfl, hx, hy, fun H1 s1 => ⟨_, rfl, ?_⟩⟩
      cases c2 : dgB x y with
      | true =>
        simp only [c2, if_true] at k
        exact if_true_of rfl (k _ s1)
      | false =>
        simp only [c2, Bool.false_eq_true, if_false] at k
        refine if_false_of rfl ⟨_, rfl, _, rfl, x, y, rfl, hx, hy, fun H2 s2 => ⟨_, rfl, ?_⟩⟩
        cases c3 : odB x y with
        | true =>
          simp only [c3, if_true] at k
          exact if_true_of rfl (k _ (s1.trans s2))
        | false =>
          simp only [c3, Bool.false_eq_true, if_false] at k
          exact if_false_of rfl (k _ (s1.trans s2))
end
end Fs
namespace Fs
open PySem PySem.Spec PyProof.Rows L2
section
variable {P : Program} {w : World} {K : PySem.W.Frag} {mg : Str → Option Value} {base : Heap} {C : Addr}
/-! ### kind_of_whole -/
theorem scWhole : FnScope ["one", "other"] ["one", "other"] (defScope sKindOfWhole) := ⟨rfl, rfl, rfl, by decide +kernel, rfl, by decide +kernel, by decide +kernel⟩
theorem ok_whole {f : Addr} {fd : FuncData} (F : Fun K "kind_of_whole" "kind_of_whole" sKindOfWhole f fd) (T : Txt K mg C) : FnOk P w K mg base CX0 1 f fd ["one", "other"] (spC2 fun m c => .int (kw m c)) := by
  refine F.ok scWhole (fun vs H Q E h => ?_) (fun cdv A outer s H vs Q E hr h => ⟨_,
    pss_cons (ps_if (pt_cmpR (op_eqD hr.units) (pv 0) (pv 1) (nomark _)) (pss_one (ps_ret (pe_cst rfl T.cNoSlip))) pss_nil)
    (pss_cons (ps_if (pt_cmpR (op_eqD hr.units) (pv 0) (pe_tup (pa_cons (pe_ix ix_tup (pv 1) pe_int (fun _ _ => rfl)) (pa_cons (pe_ix ix_tup (pv 1) pe_int (fun _ _ => rfl)) pa_nil))) (nomark _)) (pss_one (ps_ret (pe_cst rfl T.cExch))) pss_nil)
    (pss_cons (ps_if (pt_cmpR (op_eqD hr.units) (pv 0) (pe_tup (pa_cons (pe_op op_sub pe_int (pe_ix ix_tup (pv 1) pe_int (fun _ _ => rfl))) (pa_cons (pe_op op_sub pe_int (pe_ix ix_tup (pv 1) pe_int (fun _ _ => rfl))) pa_nil))) (nomark _)) (pss_one (ps_ret (pe_cst rfl T.cBoth))) pss_nil)
    (pss_one (ps_ret (pe_cst rfl T.cNoSlip))))), ?_⟩)
  · obtain ⟨v, w, m, c, rfl, _⟩ := h
    rfl
  · obtain ⟨v, w, m, c, rfl, ⟨t, rfl, ht⟩, ⟨u, rfl, hu⟩, _, _, k⟩ := h
    dsimp only at k
    refine ⟨_, rfl, _, rfl, _, _, Dp.two ht, Dp.two hu, shaped_two _ _, shaped_two _ _, _, rfl, ?_⟩
    have q1 : PyData.eqv (.tuple [.int m.east, .int m.north]) (.tuple [.int c.east, .int c.north]) = decide (m = c) := eqv_two _ _ _ _
    rw [q1]
    by_cases c1 : m = c
    · refine if_true_of (decide_eq_true c1) ?_
      unfold kw at k
      rw [if_pos c1] at k
      exact k _ (Same.refl H)
    · refine if_false_of (decide_eq_false c1) ?_
      refine ⟨_, rfl, _, rfl, u, _, _, _, rfl, rfl, SqT.of hu, at1, _, rfl, u, _, _, _, rfl, rfl, SqT.of hu, at0, (by show 2 ≤ sizeLine; decide), fun p hp => ?_⟩
      have s1 : Same H (upd H p (.tup [.int c.north, .int c.east])) := Same.upd_new hp
      refine ⟨_, _, Dp.two (s1 _ _ ht), Dp.two upd_same, shaped_two _ _, shaped_two _ _, _, rfl, ?_⟩
      have q2 : PyData.eqv (.tuple [.int m.east, .int m.north]) (.tuple [.int c.north, .int c.east]) = decide (m = ⟨c.north, c.east⟩) := eqv_two _ _ _ _
      rw [q2]
      by_cases c2 : m = ⟨c.north, c.east⟩
      · refine if_true_of (decide_eq_true c2) ?_
        unfold kw at k
        rw [if_neg c1, if_pos c2] at k
        exact k _ s1
      · refine if_false_of (decide_eq_false c2) ?_
        have hu1 := s1 _ _ hu
        refine ⟨_, rfl, _, rfl, u, _, _, _, rfl, rfl, SqT.of hu1, at0, _, _, rfl, rfl, _, rfl, u, _, _, _, rfl, rfl, SqT.of hu1, at1, _, _, rfl, rfl, (by show 2 ≤ sizeLine; decide), fun q hq => ?_⟩
        have s2 := s1.trans (Same.upd_new (o := .tup [.int (0 - c.east), .int (0 - c.north)]) hq)
        refine ⟨_, _, Dp.two (s2 _ _ ht), Dp.two upd_same, shaped_two _ _, shaped_two _ _, _, rfl, ?_⟩
        have q3 : PyData.eqv (.tuple [.int m.east, .int m.north]) (.tuple [.int (0 - c.east), .int (0 - c.north)]) = decide (m = ⟨0 - c.east, 0 - c.north⟩) := eqv_two _ _ _ _
        rw [q3]
        by_cases c3 : m = ⟨0 - c.east, 0 - c.north⟩
        · refine if_true_of (decide_eq_true c3) ?_
          unfold kw at k
          rw [if_neg c1, if_neg c2, if_pos c3] at k
          exact k _ s2
        · refine if_false_of (decide_eq_false c3) ?_
          unfold kw at k
          rw [if_neg c1, if_neg c2, if_neg c3] at k
          exact k _ s2
/-! ### kind_of_one -/
theorem scOne : FnScope ["one", "other"] ["one", "other"] (defScope sKindOfOne) := ⟨rfl, rfl, rfl, by decide +kernel, rfl, by decide +kernel, by decide +kernel⟩
theorem ok_one {f : Addr} {fd : FuncData} (F : Fun K "kind_of_one" "kind_of_one" sKindOfOne f fd) (T : Txt K mg C) (cN : Callee P w K mg base 5 "kind_of_number" ["one", "other"] (sp2 fun x y => .int (kn x y))) :
    FnOk P w K mg base CX0 6 f fd ["one", "other"] (spC2 fun m c => .int (k1 m c)) := by
  refine F.ok scOne (fun vs H Q E h => ?_) (fun cdv A outer s H vs Q E hr h => ⟨_,
    pss_cons (ps_if (pt_cmpR op_eq (pe_ix ix_tup (pv 0) pe_int (fun _ _ => rfl)) (pe_ix ix_tup (pv 1) pe_int (fun _ _ => rfl)) (nomark _))
      (pss_one (ps_ret (pe_c cN hr rfl (pa_cons (pe_ix ix_tup (pv 0) pe_int (fun _ _ => rfl)) (pa_cons (pe_ix ix_tup (pv 1) pe_int (fun _ _ => rfl)) pa_nil))))) pss_nil)
    (pss_cons (ps_if (pt_cmpR op_eq (pe_ix ix_tup (pv 0) pe_int (fun _ _ => rfl)) (pe_ix ix_tup (pv 1) pe_int (fun _ _ => rfl)) (nomark _))
      (pss_one (ps_ret (pe_c cN hr rfl (pa_cons (pe_ix ix_tup (pv 0) pe_int (fun _ _ => rfl)) (pa_cons (pe_ix ix_tup (pv 1) pe_int (fun _ _ => rfl)) pa_nil))))) pss_nil)
    (pss_one (ps_ret (pe_cst rfl T.cNoSlip)))), ?_⟩)
  · obtain ⟨v, w, m, c, rfl, _⟩ := h
    rfl
  · obtain ⟨v, w, m, c, rfl, ⟨t, rfl, ht⟩, ⟨u, rfl, hu⟩, bm, bc, k⟩ := h
    dsimp only at k
    refine ⟨_, rfl, t, _, _, _, rfl, rfl, SqT.of ht, at1, _, rfl, u, _, _, _, rfl, rfl, SqT.of hu, at1, rfl, _, rfl, ?_⟩
    rw [dec_i]
    unfold k1 at k
    by_cases c1 : m.north = c.north
    · refine if_true_of (decide_eq_true c1) ?_
      rw [if_pos c1] at k
      exact ⟨_, rfl, t, _, _, _, rfl, rfl, SqT.of ht, at0, _, rfl, u, _, _, _, rfl, rfl, SqT.of hu, at0, m.east, c.east, rfl, bm.1, bc.1, k⟩
    · refine if_false_of (decide_eq_false c1) ?_
      rw [if_neg c1] at k
      refine ⟨_, rfl, t, _, _, _, rfl, rfl, SqT.of ht, at0, _, rfl, u, _, _, _, rfl, rfl, SqT.of hu, at0, rfl, _, rfl, ?_⟩
      rw [dec_i]
      by_cases c2 : m.east = c.east
      · refine if_true_of (decide_eq_true c2) ?_
        rw [if_pos c2] at k
        exact ⟨_, rfl, t, _, _, _, rfl, rfl, SqT.of ht, at1, _, rfl, u, _, _, _, rfl, rfl, SqT.of hu, at1, m.north, c.north, rfl, bm.2, bc.2, k⟩
      · refine if_false_of (decide_eq_false c2) ?_
        rw [if_neg c2] at k
        exact k _ (Same.refl H)
/-! ### kind_of_course -/
theorem scKC : FnScope ["one", "other", "kind"] ["one", "other"] (defScope sKindOfCourse) := ⟨rfl, rfl, rfl, by decide +kernel, rfl, by decide +kernel, by decide +kernel⟩
theorem ok_kc {f : Addr} {fd : FuncData} (F : Fun K "kind_of_course" "kind_of_course" sKindOfCourse f fd) (T : Txt K mg C) (cO : Callee P w K mg base 6 "kind_of_one" ["one", "other"] (spC2 fun m c => .int (k1 m c)))
    (cW : Callee P w K mg base 1 "kind_of_whole" ["one", "other"] (spC2 fun m c => .int (kw m c))) : FnOk P w K mg base CX0 7 f fd ["one", "other"] (spC2 fun m c => .int (kc m c)) := by
  refine F.ok scKC (fun vs H Q E h => ?_) (fun cdv A outer s H vs Q E hr h => ⟨_,
    pss_cons (ps_set (i := 2) scKC.nd rfl (Or.inl rfl) (pe_c cO hr rfl (pa_cons (pv 0) (pa_cons (pv 1) pa_nil))))
    (pss_cons (ps_if (pt_cmpR op_ne (pv 2) (pe_cst rfl T.cNoSlip) (nomark _)) (pss_one (ps_ret (pv 2))) pss_nil)
    (pss_one (ps_ret (pe_c cW (hr.mono (by decide)) rfl (pa_cons (pv 0) (pa_cons (pv 1) pa_nil)))))), ?_⟩)
  · obtain ⟨v, w, m, c, rfl, _⟩ := h
    rfl
  · obtain ⟨v, w, m, c, rfl, hv, hw, bm, bc, k⟩ := h
    dsimp only at k
    refine ⟨_, rfl, _, rfl, v, w, m, c, rfl, hv, hw, bm, bc, fun H1 s1 => ?_⟩
    refine ⟨_, rfl, rfl, _, rfl, ?_⟩
    rw [dec_i]
    unfold kc at k
    by_cases c1 : k1 m c = 0
    · refine if_false_of (by rw [decide_eq_true c1]; rfl) ?_
      rw [if_neg (fun h => h c1)] at k
      exact ⟨_, rfl, _, rfl, v, w, m, c, rfl, hv.same s1, hw.same s1, bm, bc, fun H2 s2 => k _ (s1.trans s2)⟩
    · refine if_true_of (by rw [decide_eq_false c1]; rfl) ?_
      rw [if_pos c1] at k
      exact ⟨_, rfl, k _ s1⟩
/-! ### meant_by, slip_in -/
theorem scMb : FnScope ["course", "off"] ["course", "off"] (defScope sMeantBy) := ⟨rfl, rfl, rfl, by decide +kernel, rfl, by decide +kernel, by decide +kernel⟩
theorem ok_meant {f : Addr} {fd : FuncData} (F : Fun K "meant_by" "meant_by" sMeantBy f fd) (T : Txt K mg C) : FnOk P w K mg base CX0 1 f fd ["course", "off"] spMeant := by
  refine F.ok scMb (fun vs H Q E h => ?_) (fun cdv A outer s H vs Q E hr h => ⟨_,
    pss_one (ps_ret (pe_tup (pa_cons (pe_op op_sub (pe_ix ix_tup (pv 0) pe_int (fun _ _ => rfl)) (pe_ix ix_tup (pv 1) pe_int (fun _ _ => rfl)))
      (pa_cons (pe_op op_sub (pe_ix ix_tup (pv 0) pe_int (fun _ _ => rfl)) (pe_ix ix_tup (pv 1) pe_int (fun _ _ => rfl))) pa_nil)))), ?_⟩)
  · obtain ⟨v, w, c, o, rfl, _⟩ := h
    rfl
  · obtain ⟨v, w, c, o, rfl, ⟨t, rfl, ht⟩, ⟨u, rfl, hu⟩, k⟩ := h
    exact ⟨_, rfl, t, _, _, _, rfl, rfl, SqT.of ht, at0, _, rfl, u, _, _, _, rfl, rfl, SqT.of hu, at0, _, _, rfl, rfl,
      _, rfl, t, _, _, _, rfl, rfl, SqT.of ht, at1, _, rfl, u, _, _, _, rfl, rfl, SqT.of hu, at1, _, _, rfl, rfl, (by show 2 ≤ sizeLine; decide), fun p hp => k p hp⟩
theorem scSi : FnScope ["number", "course", "off", "meant", "kind"] ["number", "course", "off"] (defScope sSlipIn) := ⟨rfl, rfl, rfl, by decide +kernel, rfl, by decide +kernel, by decide +kernel⟩
theorem ok_slipIn {f : Addr} {fd : FuncData} (F : Fun K "slip_in" "slip_in" sSlipIn f fd) (T : Txt K mg C) (cM : Callee P w K mg base 1 "meant_by" ["course", "off"] spMeant)
    (cK : Callee P w K mg base 7 "kind_of_course" ["one", "other"] (spC2 fun m c => .int (kc m c))) : FnOk P w K mg base CX0 8 f fd ["number", "course", "off"] spSlipIn := by
  refine F.ok scSi (fun vs H Q E h => ?_) (fun cdv A outer s H vs Q E hr h => ⟨_,
    pss_cons (ps_set (i := 3) scSi.nd rfl (Or.inl rfl) (pe_c cM (hr.mono (by decide)) rfl (pa_cons (pv 1) (pa_cons (pv 2) pa_nil))))
    (pss_cons (ps_set (i := 4) scSi.nd rfl (Or.inl rfl) (pe_c cK hr rfl (pa_cons (pv 3) (pa_cons (pv 1) pa_nil))))
    (pss_cons (ps_if (pt_cmpR op_eq (pv 4) (pe_cst rfl T.cNoSlip) (nomark _)) (pss_one (ps_ret (pe_lst pa_nil))) pss_nil)
    (pss_one (ps_ret (pe_lst (pa_cons (pv 0) (pa_cons (pv 4) (pa_cons (pe_ix ix_tup (pv 3) pe_int (fun _ _ => rfl)) (pa_cons (pe_ix ix_tup (pv 3) pe_int (fun _ _ => rfl)) pa_nil))))))))), ?_⟩)
  · obtain ⟨n, v, w, c, o, rfl, _⟩ := h
    rfl
  · obtain ⟨n, v, w, c, o, rfl, hv, hw, bm, bc, k⟩ := h
    refine ⟨_, rfl, _, rfl, v, w, c, o, rfl, hv, hw, fun p hp => ?_⟩
    have s1 : Same H (upd H p (cV (mt o c))) := Same.upd_new hp
    refine ⟨_, rfl, _, rfl, _, v, mt o c, c, rfl, ⟨p, rfl, upd_same⟩, hv.same s1, bm, bc, fun H2 s2 => ?_⟩
    have s3 := s1.trans s2
    have hp2 : H2 p = some (cV (mt o c)) := s2 _ _ upd_same
    refine ⟨_, rfl, rfl, _, rfl, ?_⟩
    rw [dec_i]
    by_cases c1 : kc (mt o c) c = 0
    · refine if_true_of (decide_eq_true c1) ⟨Nat.zero_le _, fun q hq => ?_⟩
      refine k _ q (s3.trans (Same.upd_new hq)) (s3.free hq) ?_
      unfold slipL
      rw [if_pos c1]
      exact upd_same
    · refine if_false_of (decide_eq_false c1) ?_
      refine ⟨_, rfl, _, rfl, _, rfl, p, _, _, _, rfl, rfl, SqT.of hp2, at0, _, rfl, p, _, _, _, rfl, rfl, SqT.of hp2, at1, (by show 4 ≤ sizeLine; decide), fun q hq => ?_⟩
      refine k _ q (s3.trans (Same.upd_new hq)) (s3.free hq) ?_
      unfold slipL
      rw [if_neg c1]
      exact upd_same
/-! ### slips_of -/
theorem Rws.keep {H H' : Hp} {qs : List V} {rows : List (List Int)} (h : Rws H qs rows) (k : ∀ t o, V.ref t ∈ qs → H t = some o → H' t = some o) : Rws H' qs rows :=
  ⟨h.len, fun i r e => let ⟨t, e1, e2⟩ := h.at_ i r e; ⟨t, e1, k t _ (List.mem_of_getElem? e1) e2⟩⟩
theorem Rws.snoc {H : Hp} {qs : List V} {rows : List (List Int)} {p : Addr} {r : List Int} (h : Rws H qs rows) (hp : H p = some (.lst (iv r))) : Rws H (qs ++ [.ref p]) (rows ++ [r]) := by
  refine ⟨by simp [h.len], fun i r' e => ?_⟩
  by_cases c : i < rows.length
  · rw [List.getElem?_append_left c] at e
    obtain ⟨t, e1, e2⟩ := h.at_ i r' e
    exact ⟨t, by rw [List.getElem?_append_left (by rw [h.len]; exact c)]; exact e1, e2⟩
  · have hi : i = rows.length := by
      have := (List.getElem?_eq_some_iff.mp e).1
      simp at this
      omega
    subst hi
    rw [List.getElem?_append_right (Nat.le_refl _)] at e
    simp at e
    subst e
    exact ⟨p, by rw [List.getElem?_append_right (by rw [h.len]; exact Nat.le_refl _)]; simp [h.len], hp⟩
theorem rowsTo_len (b : Uw14.Book) (i : Nat) : (rowsTo b i).length ≤ i := by
  unfold rowsTo
  rw [List.length_map]
  exact Nat.le_trans (List.length_filterMap_le _ _) (by simp)
theorem Dp.ints {H : Hp} : ∀ (l : List Int), DpAll K H (iv l) (l.map PyData.int)
  | [] => .nil
  | x :: l => .cons (.int x) (Dp.ints l)
theorem slipL_two (n : Nat) (c o : Uw14.C) : slipL n c o = [] ∨ ∃ x y z u, slipL n c o = [x, y, z, u] := by
  unfold slipL
  split
  · exact .inl rfl
  · exact .inr ⟨_, _, _, _, rfl⟩
theorem scSo : FnScope ["courses", "off", "found", "number", "course", "slip"] ["courses"] (defScope sSlipsOf) := ⟨rfl, rfl, rfl, by decide +kernel, rfl, by decide +kernel, by decide +kernel⟩
theorem ok_slipsOf {f : Addr} {fd : FuncData} (F : Fun K "slips_of" "slips_of" sSlipsOf f fd) (T : Txt K mg C) (cO : Callee P w K mg base 1 "off_of" ["courses"] spOff)
    (cS : Callee P w K mg base 8 "slip_in" ["number", "course", "off"] spSlipIn) : FnOk P w K mg base CX0 9 f fd ["courses"] spSlipsOf := by
  refine F.ok scSo (fun vs H Q E h => ?_) (fun cdv A outer s H vs Q E hr h => ⟨_,
    pss_cons (ps_set (i := 1) scSo.nd rfl (Or.inl rfl) (pe_c cO (hr.mono (by decide)) rfl (pa_cons (pv 0) pa_nil)))
    (pss_cons (ps_set (i := 2) scSo.nd rfl (Or.inl rfl) (pe_lst pa_nil))
    (pss_cons (ps_if (pt_cmpR (op_eqD hr.units) (pv 1) (pe_tup (pa_cons pe_int (pa_cons pe_int pa_nil))) (nomark _)) (pss_one (ps_ret (pv 2))) pss_nil)
    (pss_cons (ps_for PassesOwn.never rfl (pi_enum (by rfl) T.nEnum (pa_cons (pv 0) pa_nil)) (pg_tup rfl (pgs_cons (pg_name (i := 3) scSo.nd rfl (Or.inl rfl)) (pgs_cons (pg_name (i := 4) scSo.nd rfl (Or.inl rfl)) pgs_nil)))
      (pss_cons (ps_set (i := 5) scSo.nd rfl (Or.inl rfl) (pe_c cS hr rfl (pa_cons (pv 3) (pa_cons (pv 4) (pa_cons (pv 1) pa_nil)))))
      (pss_one (ps_if (pt_cmpR (op_neD hr.units) (pv 5) (pe_lst pa_nil) (nomark _))
        (pss_one (ps_expr (pe_bm PySem.F.plainAttrs_list PySem.F.slot_list_append PySem.F.type_list_append mt_append (pv 2) (pa_cons (pv 5) pa_nil)))) pss_nil))))
    (pss_one (ps_ret (pv 2)))))), ?_⟩)
  · obtain ⟨l, rs, b, rfl, _⟩ := h
    rfl
  · obtain ⟨l, rs, b, rfl, hl, hb, wf, k⟩ := h
    refine ⟨_, rfl, l, rs, b, rfl, hl, hb, fun o ho => ?_⟩
    have s1 : Same H (upd H o (cV (Uw14.off b))) := Same.upd_new ho
    refine ⟨Nat.zero_le _, fun fl hfl => ?_⟩
    have s2 : Same (upd H o (cV (Uw14.off b))) (upd (upd H o (cV (Uw14.off b))) fl (.lst [])) := Same.upd_new hfl
    have go : upd (upd H o (cV (Uw14.off b))) fl (.lst []) o = some (cV (Uw14.off b)) := s2 _ _ upd_same
    refine ⟨_, rfl, (by show 2 ≤ sizeLine; decide), fun z hz => ?_⟩
    have s3 := s2.trans (Same.upd_new (o := .tup [.int 0, .int 0]) hz)
    have gf : upd (upd (upd H o (cV (Uw14.off b))) fl (.lst [])) z (.tup [.int 0, .int 0]) fl = some (.lst []) := by
      rw [upd_ne (ne_of_none upd_same hz)]
      exact upd_same
    refine ⟨_, _, Dp.two (a := (Uw14.off b).east) (b := (Uw14.off b).north) (s3 _ _ upd_same), Dp.two upd_same, shaped_two _ _, shaped_two _ _, _, rfl, ?_⟩
    have q1 : PyData.eqv (.tuple [.int (Uw14.off b).east, .int (Uw14.off b).north]) (.tuple [.int 0, .int 0]) = decide (Uw14.off b = ⟨0, 0⟩) := eqv_two _ _ _ _
    rw [q1]
    by_cases c1 : Uw14.off b = ⟨0, 0⟩
    · refine if_true_of (decide_eq_true c1) ⟨_, rfl, ?_⟩
      refine k _ fl [] (s1.trans s3) gf ?_
      rw [rows_closed c1]
      exact ⟨rfl, fun i r e => by simp at e⟩
    · refine if_false_of (decide_eq_false c1) ?_
      refine ⟨_, rfl, l, rs, rfl, SqL.of (s3 _ _ (s1 _ _ hl)), for_it (walk_enum (K := K) (a := l) (xs := rs)) (fun i σ H' => Same (upd H o (cV (Uw14.off b))) H' ∧ ∃ qs, H' fl = some (.lst qs) ∧ Rws H' qs (rowsTo b i) ∧ (∀ t, V.ref t ∈ qs → t ≠ fl) ∧
          ∃ u v w : Option V, σ = [some (.ref l), some (.ref o), some (.ref fl), u, v, w])
        ⟨s3, [], gf, ⟨rfl, fun i r e => by simp [rowsTo_zero] at e⟩, fun t ht => by simp at ht, none, none, none, rfl⟩ (fun i σ H' _ ⟨e, _⟩ => SqL.of (e _ _ (s1 _ _ hl))) ?_ ?_⟩
      · rintro i x σ H' H2 hi ⟨sm, qs, hf, hrw, hne, u, v, w, rfl⟩ ⟨T', x1, y1, rfl, hT, rfl, e1, e2⟩
        obtain rfl := Option.some.inj e1
        obtain ⟨c, t, hc, rfl, ht⟩ := hb.get e2
        have hc2 := wf.get hc
        have ho2 := wf.off
        have s4 : Same H' (upd H' T' (.tup [.int (i : Nat), .ref t])) := Same.upd_new hT
        refine ⟨T', _, rfl, SqT.of upd_same, rfl, _, _, rfl, _, _, rfl, rfl, ?_⟩
        refine ⟨_, rfl, _, rfl, _, rfl, i, _, _, c, Uw14.off b, rfl, ⟨t, rfl, s4 _ _ (sm _ _ (s1 _ _ ht))⟩, ⟨o, rfl, s4 _ _ (sm _ _ upd_same)⟩, ?_, ?_, fun H3 p s5 np gp => ?_⟩
        · show (c.east - (Uw14.off b).east).natAbs < 10 ^ 20 ∧ (c.north - (Uw14.off b).north).natAbs < 10 ^ 20
          omega
        · show c.east.natAbs < 10 ^ 20 ∧ c.north.natAbs < 10 ^ 20
          omega
        · have np' : H' p = none := s4.free np
          have npf : p ≠ fl := fun e => by rw [e, hf] at np'; cases np'
          have s6 := s4.trans s5
          refine ⟨_, rfl, Nat.zero_le _, fun q hq => ?_⟩
          have s7 := s6.trans (Same.upd_new (o := .lst []) hq)
          have gp7 : upd H3 q (.lst []) p = some (.lst (iv (slipL i c (Uw14.off b)))) := (Same.upd_new hq) _ _ gp
          have hf7 := s7 _ _ hf
          have hrw7 : Rws (upd H3 q (.lst [])) qs (rowsTo b i) := hrw.keep fun t o _ e => s7 _ _ e
          have sm7 := sm.trans s7
          rcases slipL_two i c (Uw14.off b) with es | ⟨x1, x2, x3, x4, es⟩
          · have gp8 : upd H3 q (.lst []) p = some (.lst []) := by rw [gp7, es]; rfl
            refine ⟨_, _, .lst (SqL.of gp8) .nil, .lst (SqL.of upd_same) .nil, rfl, rfl, _, rfl, if_false_of rfl ?_⟩
            refine ⟨sm7, qs, hf7, ?_, hne, _, _, _, rfl⟩
            rw [rowsTo_succ hc, es, if_pos rfl, List.append_nil]
            exact hrw7
          · have gp8 : upd H3 q (.lst []) p = some (.lst [.int x1, .int x2, .int x3, .int x4]) := by rw [gp7, es]; rfl
            refine ⟨_, _, .lst (SqL.of gp8) (Dp.ints [x1, x2, x3, x4]), .lst (SqL.of upd_same) .nil, rfl, rfl, _, rfl, if_true_of rfl ?_⟩
            refine ⟨_, rfl, .inl ⟨rfl, _, SqL.of hf7⟩, _, rfl, fl, qs, _, rfl, rfl, hf7, sz_lt ?_, ?_⟩
            · rw [hrw.len]
              have := rowsTo_len b i
              have := wf.few
              have := hb.len
              omega
            · refine ⟨fun a u e => ?_, qs ++ [.ref p], upd_same, ?_, fun t ht => ?_, _, _, _, rfl⟩
              · have hne : a ≠ fl := ne_of_none e hfl
                rw [upd_ne hne]
                exact sm7 _ _ e
              · rw [rowsTo_succ hc, es, if_neg (by simp)]
                refine Rws.snoc ?_ ?_
                · exact hrw7.keep fun t o ht e => by rw [upd_ne (hne t ht)]; exact e
                · rw [upd_ne npf, gp7, es]
              · rcases List.mem_append.mp ht with h | h
                · exact hne t h
                · simp at h
                  rw [h]
                  exact npf
      · rintro σ H' ⟨sm, qs, hf, hrw, hne, u, v, w, rfl⟩
        rw [hb.len, rowsTo_all] at hrw
        exact ⟨_, rfl, k _ fl qs (s1.trans sm) hf hrw⟩
end
end Fs
namespace Fs
open PySem PySem.Spec PyProof.Rows L2
section
variable {P : Program} {w : World} {K : PySem.W.Frag} {mg : Str → Option Value} {base : Heap} {C : Addr}
theorem lk_here {k : Str} {v : V} {r : List (Str × V)} : List.lookup k ((k, v) :: r) = some v := by
  have e : (k == k) = true := beq_self_eq_true k
  simp only [List.lookup, e]
theorem put_here {f : Str} {v x : V} {r : List (Str × V)} : putF f v ((f, x) :: r) = (f, v) :: r := if_pos rfl
theorem BookAt.same {H H' : Hp} {x l : Addr} {b : Uw14.Book} (s : Same H H') (h : BookAt C H x l b) : BookAt C H' x l b :=
  let ⟨dx, rs, h1, h2, h3⟩ := h
  ⟨dx, rs, s _ _ h1, s _ _ h2, h3.same s⟩
theorem Kp.same {H H' : Hp} {x l : Addr} (s : Same H H') : Kp H H' x l := fun a o e _ _ => s a o e
theorem BookAt.upd {H : Hp} {x l fl : Addr} {b : Uw14.Book} {zs zs' : List V} (h : BookAt C H x l b) (hf : H fl = some (.lst zs)) (hn : fl ≠ l) : BookAt C (L2.upd H fl (.lst zs')) x l b := by
  obtain ⟨dx, rs, h1, h2, h3⟩ := h
  refine ⟨dx, rs, ?_, ?_, h3.len, fun i c e => ?_⟩
  · rw [upd_ne (ne_of h1 hf (by intro z; cases z))]
    exact h1
  · rw [upd_ne (Ne.symm hn)]
    exact h2
  · obtain ⟨t, e1, e2⟩ := h3.at_ i c e
    exact ⟨t, e1, by rw [upd_ne (ne_of e2 hf (by intro z; cases z))]; exact e2⟩
/-! ### __init__, begins -/
theorem Crs.nil {H : Hp} : Crs H [] [] := ⟨rfl, fun i c e => by simp at e⟩
theorem scInit : FnScope ["self"] ["self"] (defScope sInit) := ⟨rfl, rfl, rfl, by decide +kernel, rfl, by decide +kernel, by decide +kernel⟩
theorem ok_init {f : Addr} {fd : FuncData} (F : Fun K "__init__" "Book.__init__" sInit f fd) (T : Txt K mg C) : FnOk P w K mg base CX0 1 f fd ["self"] (spInit C) := by
  refine F.ok scInit (fun vs H Q E h => ?_) (fun cdv A outer s H vs Q E hr h => ⟨_, pss_one (ps_fld (pv 0) (pe_lst pa_nil) rfl), ?_⟩)
  · obtain ⟨x, dx, rfl, _⟩ := h
    rfl
  · obtain ⟨x, dx, rfl, hx, k⟩ := h
    refine ⟨Nat.zero_le _, fun l hl => ⟨_, rfl, x, C, dx, [], rfl, ?_, T.cl, T.nC, (by show 0 < 1000; decide), ?_⟩⟩
    · rw [upd_ne (ne_of_none hx hl)]
      exact hx
    · refine k _ l ⟨dx, [], upd_same, ?_, Crs.nil⟩ hl fun a o e hne => ?_
      · rw [upd_ne (Ne.symm (ne_of_none hx hl))]
        exact upd_same
      · rw [upd_ne hne, upd_ne (ne_of_none e hl)]
        exact e
theorem scBegins : FnScope ["self"] ["self"] (defScope sBegins) := ⟨rfl, rfl, rfl, by decide +kernel, rfl, by decide +kernel, by decide +kernel⟩
theorem ok_begins {f : Addr} {fd : FuncData} (F : Fun K "begins" "Book.begins" sBegins f fd) (T : Txt K mg C) : FnOk P w K mg base CX0 1 f fd ["self"] (spM0 C .begins) := by
  refine F.ok scBegins (fun vs H Q E h => ?_) (fun cdv A outer s H vs Q E hr h => ⟨_,
    pss_cons (ps_fld (pv 0) (pe_lst pa_nil) rfl) (pss_one (ps_ret (pe_lst (pa_cons pe_int pa_nil)))), ?_⟩)
  · obtain ⟨x, l, b, rfl, _⟩ := h
    rfl
  · obtain ⟨x, l, b, rfl, ⟨dx, rs, hx, hl, hb⟩, wf, k⟩ := h
    refine ⟨Nat.zero_le _, fun l' hl' => ⟨_, rfl, x, C, dx, [(("courses" : Str), .ref l)], rfl, ?_, T.cl, T.nC, (by show 1 < 1000; decide), (by show 1 ≤ sizeLine; decide), fun p hp => ?_⟩⟩
    · rw [upd_ne (ne_of_none hx hl')]
      exact hx
    · rw [put_here] at hp ⊢
      have nlx : l' ≠ x := Ne.symm (ne_of_none hx hl')
      have g1 : upd (upd H l' (.lst [])) x (.ins C dx [(("courses" : Str), .ref l')]) l' = some (.lst []) := by
        rw [upd_ne nlx]
        exact upd_same
      have s3 := Same.upd_new (o := .lst [.int 0]) hp
      have np : H p = none := by
        cases q : H p with
        | none => rfl
        | some o =>
          by_cases c : p = x
          · rw [c, upd_same] at hp
            cases hp
          · rw [upd_ne c, upd_ne (ne_of_none q hl'), q] at hp
            cases hp
      refine k _ l' p ⟨dx, [], s3 _ _ upd_same, s3 _ _ g1, Crs.nil⟩ (fun a o e h1 h2 => s3 _ _ ?_) (.inr hl') np upd_same
      rw [upd_ne h1, upd_ne (ne_of_none e hl')]
      exact e
/-! ### course -/
theorem ixN_nat {n i : Nat} (h : i < n) : ixN n (i : Int) = some i := by
  unfold ixN
  rw [if_pos (by omega), if_pos (by omega)]
  rfl
theorem scCourse : FnScope ["self", "east", "north"] ["self", "east", "north"] (defScope sCourse) := ⟨rfl, rfl, rfl, by decide +kernel, rfl, by decide +kernel, by decide +kernel⟩
theorem ok_course {f : Addr} {fd : FuncData} (F : Fun K "course" "Book.course" sCourse f fd) (T : Txt K mg C) (cI : Callee P w K mg base 1 "is_course" ["east", "north"] spIsC) : FnOk P w K mg base CX0 2 f fd ["self", "east", "north"] (spCourse C) := by
  refine F.ok scCourse (fun vs H Q E h => ?_) (fun cdv A outer s H vs Q E hr h => ⟨_,
    pss_cons (ps_if (pt_not (pt_val (pe_c cI hr rfl (pa_cons (pv 1) (pa_cons (pv 2) pa_nil))))) (pss_one (ps_ret (pe_lst (pa_cons (pe_cst rfl T.cBeyond) pa_nil)))) pss_nil)
    (pss_cons (ps_if (pt_cmpR op_ge (pe_callB call_len_seq (by rfl) T.nLen PySem.boot_len (pa_cons (pe_fld (pv 0) rfl) pa_nil)) (pe_cst rfl T.cMC) (nomark _)) (pss_one (ps_ret (pe_lst (pa_cons (pe_cst rfl T.cFull) pa_nil)))) pss_nil)
    (pss_cons (ps_expr (pe_bm PySem.F.plainAttrs_list PySem.F.slot_list_append PySem.F.type_list_append mt_append (pe_fld (pv 0) rfl) (pa_cons (pe_tup (pa_cons (pv 1) (pa_cons (pv 2) pa_nil))) pa_nil)))
    (pss_one (ps_ret (pe_lst (pa_cons (pe_op op_sub (pe_callB call_len_seq (by rfl) T.nLen PySem.boot_len (pa_cons (pe_fld (pv 0) rfl) pa_nil)) pe_int) pa_nil)))))), ?_⟩)
  · obtain ⟨e, n, x, l, b, rfl, _⟩ := h
    rfl
  · obtain ⟨e, n, x, l, b, rfl, hB, wf, k⟩ := h
    obtain ⟨dx, rs, hx, hl, hb⟩ := id hB
    refine ⟨_, rfl, _, rfl, e, n, rfl, _, rfl, ?_⟩
    cases c1 : Uw14.small ⟨e, n⟩ with
    | false =>
      refine if_true_of rfl ⟨(by show 1 ≤ sizeLine; decide), fun p hp => ?_⟩
      have es : Uw14.step b (.course ⟨e, n⟩) = (b, Uw14.ok (-1)) := if_pos c1
      have s1 := Same.upd_new (o := .lst [.int (-1)]) hp
      refine k _ l p ?_ (Kp.same s1) (.inl rfl) hp ?_
      · rw [es]
        exact hB.same s1
      · unfold ansOf
        rw [es]
        exact upd_same
    | true =>
      refine if_false_of rfl ⟨_, rfl, x, C, dx, _, _, rfl, hx, T.cl, T.nC, lk_here, l, _, rfl, .inl (SqL.of hl), _, _, rfl, rfl, _, rfl, ?_⟩
      have e0 : Uw14.step b (.course ⟨e, n⟩) = (if Uw14.COURSES ≤ b.length then (b, Uw14.ok (-5)) else (b ++ [⟨e, n⟩], Uw14.ok (b.length : Nat))) := if_neg (by rw [c1]; decide)
      by_cases c2 : 12 ≤ b.length
      · have es := e0.trans (if_pos c2)
        refine if_true_of (decide_eq_true (by rw [hb.len]; omega)) ⟨(by show 1 ≤ sizeLine; decide), fun p hp => ?_⟩
        have s1 := Same.upd_new (o := .lst [.int (-5)]) hp
        refine k _ l p ?_ (Kp.same s1) (.inl rfl) hp ?_
        · rw [es]
          exact hB.same s1
        · unfold ansOf
          rw [es]
          exact upd_same
      · have es := e0.trans (if_neg c2)
        refine if_false_of (decide_eq_false (by rw [hb.len]; omega)) ?_
        refine ⟨_, rfl, x, C, dx, _, _, rfl, hx, T.cl, T.nC, lk_here, .inl ⟨rfl, _, SqL.of hl⟩, _, rfl, _, rfl, (by show 2 ≤ sizeLine; decide), fun t ht => ?_⟩
        have nlt : l ≠ t := ne_of_none hl ht
        have nxt : x ≠ t := ne_of_none hx ht
        have nxl : x ≠ l := ne_of hx hl (by intro z; cases z)
        refine ⟨l, rs, _, rfl, rfl, (by rw [upd_ne nlt]; exact hl), sz_lt (by rw [hb.len]; omega), ?_⟩
        have gx : upd (upd H t (.tup [.int e, .int n])) l (.lst (rs ++ [.ref t])) x = some (.ins C dx [(("courses" : Str), .ref l)]) := by
          rw [upd_ne nxl, upd_ne nxt]
          exact hx
        refine ⟨_, rfl, x, C, dx, _, _, rfl, gx, T.cl, T.nC, lk_here, l, _, rfl, .inl (SqL.of upd_same), _, _, rfl, rfl, (by show 1 ≤ sizeLine; decide), fun p hp => ?_⟩
        have el : (((rs ++ [V.ref t]).length : Nat) : Int) - 1 = ((b.length : Nat) : Int) := by
          rw [List.length_append, hb.len]
          simp
        have s1 := Same.upd_new (o := .lst [.int ((((rs ++ [V.ref t]).length : Nat) : Int) - 1)]) hp
        have np : H p = none := by
          cases q : H p with
          | none => rfl
          | some o =>
            by_cases c : p = l
            · rw [c, upd_same] at hp
              cases hp
            · rw [upd_ne c, upd_ne (ne_of_none q ht), q] at hp
              cases hp
        refine k _ l p ?_ (fun a o ea h1 h2 => s1 _ _ ?_) (.inl rfl) np ?_
        · rw [es]
          refine ⟨dx, _, s1 _ _ gx, s1 _ _ upd_same, by simp [hb.len], fun i c ec => ?_⟩
          by_cases ci : i < b.length
          · rw [List.getElem?_append_left ci] at ec
            obtain ⟨u, e1, e2⟩ := hb.at_ i c ec
            refine ⟨u, by rw [List.getElem?_append_left (by rw [hb.len]; exact ci)]; exact e1, s1 _ _ ?_⟩
            rw [upd_ne (ne_of e2 hl (by intro z; cases z)), upd_ne (ne_of_none e2 ht)]
            exact e2
          · have hi : i = b.length := by
              have := (List.getElem?_eq_some_iff.mp ec).1
              simp at this
              omega
            subst hi
            rw [List.getElem?_append_right (Nat.le_refl _)] at ec
            simp at ec
            subst ec
            refine ⟨t, by rw [List.getElem?_append_right (by rw [hb.len]; exact Nat.le_refl _)]; simp [hb.len], s1 _ _ ?_⟩
            rw [upd_ne (Ne.symm nlt)]
            exact upd_same
        · rw [upd_ne h2, upd_ne (ne_of_none ea ht)]
          exact ea
        · unfold ansOf
          rw [es]
          show upd _ p (.lst [.int ((((rs ++ [V.ref t]).length : Nat) : Int) - 1)]) p = some (.lst [.int ((b.length : Nat) : Int)])
          rw [el]
          exact upd_same
/-! ### change -/
theorem scChange : FnScope ["self", "number", "east", "north"] ["self", "number", "east", "north"] (defScope sChange) := ⟨rfl, rfl, rfl, by decide +kernel, rfl, by decide +kernel, by decide +kernel⟩
theorem ok_change {f : Addr} {fd : FuncData} (F : Fun K "change" "Book.change" sChange f fd) (T : Txt K mg C) (cI : Callee P w K mg base 1 "is_course" ["east", "north"] spIsC) : FnOk P w K mg base CX0 2 f fd ["self", "number", "east", "north"] (spChange C) := by
  refine F.ok scChange (fun vs H Q E h => ?_) (fun cdv A outer s H vs Q E hr h => ⟨_,
    pss_cons (ps_if (pt_cmpR op_ge (pv 1) (pe_callB call_len_seq (by rfl) T.nLen PySem.boot_len (pa_cons (pe_fld (pv 0) rfl) pa_nil)) (nomark _)) (pss_one (ps_ret (pe_lst (pa_cons (pe_cst rfl T.cNoCourse) pa_nil)))) pss_nil)
    (pss_cons (ps_if (pt_not (pt_val (pe_c cI hr rfl (pa_cons (pv 2) (pa_cons (pv 3) pa_nil))))) (pss_one (ps_ret (pe_lst (pa_cons (pe_cst rfl T.cBeyond) pa_nil)))) pss_nil)
    (pss_cons (ps_asg (pe_tup (pa_cons (pv 2) (pa_cons (pv 3) pa_nil))) (pg_sub (pe_fld (pv 0) rfl) (pv 1) set_list))
    (pss_one (ps_ret (pe_lst (pa_cons pe_int pa_nil)))))), ?_⟩)
  · obtain ⟨i, e, n, x, l, b, rfl, _⟩ := h
    rfl
  · obtain ⟨i, e, n, x, l, b, rfl, hB, wf, k⟩ := h
    obtain ⟨dx, rs, hx, hl, hb⟩ := id hB
    refine ⟨_, rfl, _, rfl, x, C, dx, _, _, rfl, hx, T.cl, T.nC, lk_here, l, _, rfl, .inl (SqL.of hl), _, _, rfl, rfl, _, rfl, ?_⟩
    by_cases c0 : b.length ≤ i
    · have es : Uw14.step b (.change i ⟨e, n⟩) = (b, Uw14.ok (-2)) := if_pos c0
      refine if_true_of (decide_eq_true (by rw [hb.len]; omega)) ⟨(by show 1 ≤ sizeLine; decide), fun p hp => ?_⟩
      have s1 := Same.upd_new (o := .lst [.int (-2)]) hp
      refine k _ l p ?_ (Kp.same s1) (.inl rfl) hp ?_
      · rw [es]
        exact hB.same s1
      · unfold ansOf
        rw [es]
        exact upd_same
    · have e0 : Uw14.step b (.change i ⟨e, n⟩) = (if Uw14.small ⟨e, n⟩ = false then (b, Uw14.ok (-1)) else (b.set i ⟨e, n⟩, Uw14.ok 0)) := if_neg c0
      refine if_false_of (decide_eq_false (by rw [hb.len]; omega)) ?_
      refine ⟨_, rfl, _, rfl, e, n, rfl, _, rfl, ?_⟩
      cases c1 : Uw14.small ⟨e, n⟩ with
      | false =>
        have es := e0.trans (if_pos c1)
        refine if_true_of rfl ⟨(by show 1 ≤ sizeLine; decide), fun p hp => ?_⟩
        have s1 := Same.upd_new (o := .lst [.int (-1)]) hp
        refine k _ l p ?_ (Kp.same s1) (.inl rfl) hp ?_
        · rw [es]
          exact hB.same s1
        · unfold ansOf
          rw [es]
          exact upd_same
      | true =>
        have es := e0.trans (if_neg (by rw [c1]; decide))
        refine if_false_of rfl ⟨_, rfl, _, rfl, (by show 2 ≤ sizeLine; decide), fun t ht => ?_⟩
        have nlt : l ≠ t := ne_of_none hl ht
        have nxt : x ≠ t := ne_of_none hx ht
        have nxl : x ≠ l := ne_of hx hl (by intro z; cases z)
        refine ⟨_, rfl, x, C, dx, _, _, rfl, (by rw [upd_ne nxt]; exact hx), T.cl, T.nC, lk_here, _, rfl, l, rs, _, i, rfl, rfl, (by rw [upd_ne nlt]; exact hl), ixN_nat (by rw [hb.len]; omega), ?_⟩
        refine ⟨(by show 1 ≤ sizeLine; decide), fun p hp => ?_⟩
        have s1 := Same.upd_new (o := .lst [.int 0]) hp
        have np : H p = none := by
          cases q : H p with
          | none => rfl
          | some o =>
            by_cases c : p = l
            · rw [c, upd_same] at hp
              cases hp
            · rw [upd_ne c, upd_ne (ne_of_none q ht), q] at hp
              cases hp
        refine k _ l p ?_ (fun a o ea h1 h2 => s1 _ _ ?_) (.inl rfl) np ?_
        · rw [es]
          refine ⟨dx, rs.set i (.ref t), s1 _ _ ?_, s1 _ _ upd_same, by simp [hb.len], fun j c ec => ?_⟩
          · rw [upd_ne nxl, upd_ne nxt]
            exact hx
          · by_cases cj : i = j
            · subst cj
              rw [List.getElem?_set_self (by omega)] at ec
              obtain rfl := Option.some.inj ec
              refine ⟨t, by rw [List.getElem?_set_self (by rw [hb.len]; omega)], s1 _ _ ?_⟩
              rw [upd_ne (Ne.symm nlt)]
              exact upd_same
            · rw [List.getElem?_set_ne cj] at ec
              obtain ⟨u, e1, e2⟩ := hb.at_ j c ec
              refine ⟨u, by rw [List.getElem?_set_ne cj]; exact e1, s1 _ _ ?_⟩
              rw [upd_ne (ne_of e2 hl (by intro z; cases z)), upd_ne (ne_of_none e2 ht)]
              exact e2
        · rw [upd_ne h2, upd_ne (ne_of_none ea ht)]
          exact ea
        · unfold ansOf
          rw [es]
          exact upd_same
/-! ### close -/
theorem scClose : FnScope ["self", "off"] ["self"] (defScope sClose) := ⟨rfl, rfl, rfl, by decide +kernel, rfl, by decide +kernel, by decide +kernel⟩
theorem ok_close {f : Addr} {fd : FuncData} (F : Fun K "close" "Book.close" sClose f fd) (T : Txt K mg C) (cO : Callee P w K mg base 1 "off_of" ["courses"] spOff) : FnOk P w K mg base CX0 2 f fd ["self"] (spM0 C .close) := by
  refine F.ok scClose (fun vs H Q E h => ?_) (fun cdv A outer s H vs Q E hr h => ⟨_,
    pss_cons (ps_set (i := 1) scClose.nd rfl (Or.inl rfl) (pe_c cO hr rfl (pa_cons (pe_fld (pv 0) rfl) pa_nil)))
    (pss_one (ps_ret (pe_lst (pa_cons (pe_callTy call_int1 (by rfl) T.nInt PyProof.Rows.boot_int (pa_cons (pe_cmpR (op_eqD hr.units) (pv 1) (pe_tup (pa_cons pe_int (pa_cons pe_int pa_nil))) (nomark _)) pa_nil))
      (pa_cons (pe_ix ix_tup (pv 1) pe_int (fun _ _ => rfl)) (pa_cons (pe_ix ix_tup (pv 1) pe_int (fun _ _ => rfl)) pa_nil)))))), ?_⟩)
  · obtain ⟨x, l, b, rfl, _⟩ := h
    rfl
  · obtain ⟨x, l, b, rfl, hB, wf, k⟩ := h
    obtain ⟨dx, rs, hx, hl, hb⟩ := id hB
    refine ⟨_, rfl, x, C, dx, _, _, rfl, hx, T.cl, T.nC, lk_here, l, rs, b, rfl, hl, hb, fun o ho => ?_⟩
    have s1 : Same H (upd H o (cV (Uw14.off b))) := Same.upd_new ho
    refine ⟨_, rfl, (by show 2 ≤ sizeLine; decide), fun z hz => ?_⟩
    have s2 : Same (upd H o (cV (Uw14.off b))) (upd (upd H o (cV (Uw14.off b))) z (.tup [.int 0, .int 0])) := Same.upd_new hz
    have go : upd (upd H o (cV (Uw14.off b))) z (.tup [.int 0, .int 0]) o = some (cV (Uw14.off b)) := s2 _ _ upd_same
    refine ⟨_, _, Dp.two (a := (Uw14.off b).east) (b := (Uw14.off b).north) go, Dp.two upd_same, shaped_two _ _, shaped_two _ _, .inr ⟨_, rfl, ?_⟩⟩
    have q1 : PyData.eqv (.tuple [.int (Uw14.off b).east, .int (Uw14.off b).north]) (.tuple [.int 0, .int 0]) = decide (Uw14.off b = ⟨0, 0⟩) := eqv_two _ _ _ _
    rw [q1]
    refine ⟨_, rfl, o, _, _, _, rfl, rfl, SqT.of go, at0, _, rfl, o, _, _, _, rfl, rfl, SqT.of go, at1, (by show 3 ≤ sizeLine; decide), fun p hp => ?_⟩
    have s3 := (s1.trans s2).trans (Same.upd_new (o := .lst [.int (if decide (Uw14.off b = ⟨0, 0⟩) = true then 1 else 0), .int (Uw14.off b).east, .int (Uw14.off b).north]) hp)
    refine k _ l p (hB.same s3) (Kp.same s3) (.inl rfl) ((s1.trans s2).free hp) ?_
    rw [upd_same]
    have ea : ansOf b .close = [(if Uw14.off b = ⟨0, 0⟩ then 1 else 0), (Uw14.off b).east, (Uw14.off b).north] := rfl
    rw [ea]
    by_cases c : Uw14.off b = ⟨0, 0⟩
    · rw [if_pos (decide_eq_true c), if_pos c]
      rfl
    · rw [if_neg (by rw [decide_eq_false c]; decide), if_neg c]
      rfl
end
end Fs
namespace Fs
open PySem PySem.Spec PyProof.Rows L2
section
variable {P : Program} {w : World} {K : PySem.W.Frag} {mg : Str → Option Value} {base : Heap} {C : Addr}
/-! ### slips -/
theorem flat_more {rows : List (List Int)} {i : Nat} {r : List Int} (h : rows[i]? = some r) : (rows.take (i + 1)).flatten = (rows.take i).flatten ++ r := by
  rw [take_more h, List.flatten_append]
  simp
theorem flat_len {rows : List (List Int)} (h : ∀ r ∈ rows, r.length = 4) : ∀ (i : Nat), ((rows.take i).flatten).length ≤ 4 * i := by
  intro i
  induction i with
  | zero => simp
  | succ i ih =>
    cases q : rows[i]? with
    | none =>
      have hi := List.getElem?_eq_none_iff.mp q
      rw [List.take_of_length_le (by omega)]
      rw [List.take_of_length_le hi] at ih
      omega
    | some r =>
      rw [flat_more q, List.length_append, h r (List.mem_of_getElem? q)]
      omega
theorem scSlips : FnScope ["self", "told", "found", "slip"] ["self"] (defScope sSlips) := ⟨rfl, rfl, rfl, by decide +kernel, rfl, by decide +kernel, by decide +kernel⟩
theorem ok_slips {f : Addr} {fd : FuncData} (F : Fun K "slips" "Book.slips" sSlips f fd) (T : Txt K mg C) (cS : Callee P w K mg base 9 "slips_of" ["courses"] spSlipsOf) : FnOk P w K mg base CX0 10 f fd ["self"] (spM0 C .slips) := by
  refine F.ok scSlips (fun vs H Q E h => ?_) (fun cdv A outer s H vs Q E hr h => ⟨_,
    pss_cons (ps_set (i := 1) scSlips.nd rfl (Or.inl rfl) (pe_c cS hr rfl (pa_cons (pe_fld (pv 0) rfl) pa_nil)))
    (pss_cons (ps_set (i := 2) scSlips.nd rfl (Or.inl rfl) (pe_lst (pa_cons (pe_callB call_len_seq (by rfl) T.nLen PySem.boot_len (pa_cons (pv 1) pa_nil)) pa_nil)))
    (pss_cons (ps_for PassesOwn.never rfl (pi_list (pv 1)) (pg_name (i := 3) scSlips.nd rfl (Or.inl rfl))
      (pss_one (ps_expr (pe_bm PySem.F.plainAttrs_list PySem.F.slot_list_extend PySem.F.type_list_extend mt_extend (pv 2) (pa_cons (pv 3) pa_nil)))))
    (pss_one (ps_ret (pv 2))))), ?_⟩)
  · obtain ⟨x, l, b, rfl, _⟩ := h
    rfl
  · obtain ⟨x, l, b, rfl, hB, wf, k⟩ := h
    obtain ⟨dx, rs, hx, hl, hb⟩ := id hB
    refine ⟨_, rfl, x, C, dx, _, _, rfl, hx, T.cl, T.nC, lk_here, l, rs, b, rfl, hl, hb, wf, fun H1 q qs s1 hq hrw => ?_⟩
    refine ⟨_, rfl, q, _, rfl, .inl (SqL.of hq), (by show 1 ≤ sizeLine; decide), fun fl hfl => ?_⟩
    have s2 : Same H1 (upd H1 fl (.lst [.int (qs.length : Nat)])) := Same.upd_new hfl
    refine ⟨_, rfl, q, rfl, ⟨_, SqL.of (s2 _ _ hq)⟩, for_list (K := K) (a := q) (xs := qs) (fun i σ H' => Same H1 H' ∧ H' fl = some (.lst (iv (((rows b).length : Int) :: ((rows b).take i).flatten))) ∧ ∃ u : Option V, σ = [some (.ref x), some (.ref q), some (.ref fl), u])
      ⟨s2, ?_, none, rfl⟩ (fun i σ H' _ ⟨e, _⟩ => SqL.of (e _ _ hq)) ?_ ?_⟩
    · rw [upd_same, hrw.len]
      rfl
    · rintro i y σ H' hi ⟨sm, hf, u, rfl⟩
      have hir : i < (rows b).length := by
        have := (List.getElem?_eq_some_iff.mp hi).1
        rw [hrw.len] at this
        exact this
      have hr' : (rows b)[i]? = some (rows b)[i] := List.getElem?_eq_getElem hir
      obtain ⟨t, e1, e2⟩ := hrw.at_ i _ hr'
      rw [hi] at e1
      obtain rfl := Option.some.inj e1
      refine ⟨_, rfl, .inl ⟨rfl, _, SqL.of hf⟩, _, rfl, fl, t, _, _, rfl, rfl, hf, sm _ _ e2, sz_le ?_, ?_⟩
      · rw [iv_len, iv_len, List.length_cons]
        have h1 := flat_len (rows_four b) i
        have h2 := rows_four b _ (List.mem_of_getElem? hr')
        have h3 := rows_len b
        have h4 := wf.few
        omega
      · refine ⟨fun a o e => ?_, ?_, some (.ref t), rfl⟩
        · rw [upd_ne (ne_of_none e hfl)]
          exact sm _ _ e
        · rw [upd_same, flat_more hr', ← iv_app]
          rfl
    · rintro σ H' ⟨sm, hf, u, rfl⟩
      rw [hrw.len, List.take_length] at hf
      refine ⟨_, rfl, k _ l fl (hB.same (s1.trans sm)) (Kp.same (s1.trans sm)) (.inl rfl) (s1.free hfl) ?_⟩
      have ea : ansOf b .slips = (((Uw14.slips b).length : Nat) : Int) :: (Uw14.slips b).flatMap (fun s => [(s.course : Int), s.kind, s.meant.east, s.meant.north]) := rfl
      rw [ea, rows_flat, hf]
      have el : (rows b).length = (Uw14.slips b).length := List.length_map _
      rw [el]
/-! ### spread, area -/
theorem scSpread : FnScope ["self", "length"] ["self"] (defScope sSpread) := ⟨rfl, rfl, rfl, by decide +kernel, rfl, by decide +kernel, by decide +kernel⟩
theorem ok_spread {f : Addr} {fd : FuncData} (F : Fun K "spread" "Book.spread" sSpread f fd) (T : Txt K mg C) (cL : Callee P w K mg base 2 "length_of" ["courses"] spLength) (cS : Callee P w K mg base 3 "spread_of" ["courses"] spSpread) : FnOk P w K mg base CX0 4 f fd ["self"] (spM0 C .spread) := by
  refine F.ok scSpread (fun vs H Q E h => ?_) (fun cdv A outer s H vs Q E hr h => ⟨_,
    pss_cons (ps_set (i := 1) scSpread.nd rfl (Or.inl rfl) (pe_c cL (hr.mono (by decide)) rfl (pa_cons (pe_fld (pv 0) rfl) pa_nil)))
    (pss_cons (ps_if (pt_cmpR op_eq (pv 1) pe_int (nomark _)) (pss_one (ps_ret (pe_lst (pa_cons (pe_cst rfl T.cNotSo) pa_nil)))) pss_nil)
    (pss_one (ps_ret (pe_op op_cat (pe_lst (pa_cons (pv 1) pa_nil)) (pe_c cS hr rfl (pa_cons (pe_fld (pv 0) rfl) pa_nil)))))), ?_⟩)
  · obtain ⟨x, l, b, rfl, _⟩ := h
    rfl
  · obtain ⟨x, l, b, rfl, hB, wf, k⟩ := h
    obtain ⟨dx, rs, hx, hl, hb⟩ := id hB
    refine ⟨_, rfl, x, C, dx, _, _, rfl, hx, T.cl, T.nC, lk_here, l, rs, b, rfl, hl, hb, ?_⟩
    refine ⟨_, rfl, rfl, _, rfl, ?_⟩
    have e1 : decide (V.int ((Uw14.length b : Nat) : Int) = V.int 0) = decide (Uw14.length b = 0) := dec_nat _ 0
    rw [e1]
    by_cases c : Uw14.length b = 0
    · have es : Uw14.step b .spread = (b, Uw14.ok (-6)) := if_pos c
      refine if_true_of (decide_eq_true c) ⟨(by show 1 ≤ sizeLine; decide), fun p hp => ?_⟩
      have s1 := Same.upd_new (o := .lst [.int (-6)]) hp
      refine k _ l p ?_ (Kp.same s1) (.inl rfl) hp ?_
      · rw [es]
        exact hB.same s1
      · unfold ansOf
        rw [es]
        exact upd_same
    · have es : Uw14.step b .spread = (b, (⟨(Uw14.length b : Nat), (Uw14.spread b).flatMap fun c => [c.east, c.north]⟩ : Uw14.Ans)) := if_neg c
      refine if_false_of (decide_eq_false c) ⟨_, rfl, (by show 1 ≤ sizeLine; decide), fun q hq => ?_⟩
      have s1 : Same H (upd H q (.lst [.int (Uw14.length b : Nat)])) := Same.upd_new hq
      refine ⟨_, rfl, x, C, dx, _, _, rfl, s1 _ _ hx, T.cl, T.nC, lk_here, l, rs, b, rfl, s1 _ _ hl, hb.same s1, wf, fun H2 r s2 nr gr => ?_⟩
      refine ⟨q, r, _, _, rfl, rfl, s2 _ _ upd_same, gr, sz_le ?_, fun p hp => ?_⟩
      · have := sprTo_len b b.length
        have := wf.few
        rw [iv_len]
        show 1 + _ ≤ _
        omega
      · have s3 := (s1.trans s2).trans (Same.upd_new (o := .lst ([V.int (Uw14.length b : Nat)] ++ iv (sprTo b b.length))) hp)
        refine k _ l p ?_ (Kp.same s3) (.inl rfl) ((s1.trans s2).free hp) ?_
        · rw [es]
          exact hB.same s3
        · unfold ansOf
          rw [es]
          show _ = some (HO.lst (iv (((Uw14.length b : Nat) : Int) :: (Uw14.spread b).flatMap fun c => [c.east, c.north])))
          rw [spread_flat, upd_same]
          rfl
theorem scArea : FnScope ["self"] ["self"] (defScope sArea) := ⟨rfl, rfl, rfl, by decide +kernel, rfl, by decide +kernel, by decide +kernel⟩
theorem ok_area {f : Addr} {fd : FuncData} (F : Fun K "area" "Book.area" sArea f fd) (T : Txt K mg C) (cC : Callee P w K mg base 2 "closes" ["courses"] spCloses) (cT : Callee P w K mg base 1 "twice_area" ["courses"] spTwice) : FnOk P w K mg base CX0 3 f fd ["self"] (spM0 C .area) := by
  refine F.ok scArea (fun vs H Q E h => ?_) (fun cdv A outer s H vs Q E hr h => ⟨_,
    pss_cons (ps_if (pt_not (pt_val (pe_c cC hr rfl (pa_cons (pe_fld (pv 0) rfl) pa_nil)))) (pss_one (ps_ret (pe_lst (pa_cons (pe_cst rfl T.cNotSo) pa_nil)))) pss_nil)
    (pss_one (ps_ret (pe_lst (pa_cons pe_int (pa_cons (pe_c cT (hr.mono (by decide)) rfl (pa_cons (pe_fld (pv 0) rfl) pa_nil)) pa_nil))))), ?_⟩)
  · obtain ⟨x, l, b, rfl, _⟩ := h
    rfl
  · obtain ⟨x, l, b, rfl, hB, wf, k⟩ := h
    obtain ⟨dx, rs, hx, hl, hb⟩ := id hB
    refine ⟨_, rfl, x, C, dx, _, _, rfl, hx, T.cl, T.nC, lk_here, l, rs, b, rfl, hl, hb, fun H1 s1 => ⟨_, rfl, ?_⟩⟩
    by_cases c : Uw14.off b = ⟨0, 0⟩
    · have es : Uw14.step b .area = (b, (⟨0, [Uw14.area b]⟩ : Uw14.Ans)) := if_neg (fun h => h c)
      refine if_false_of (by rw [decide_eq_true c]; rfl) ⟨_, rfl, x, C, dx, _, _, rfl, s1 _ _ hx, T.cl, T.nC, lk_here, l, rs, b, rfl, s1 _ _ hl, hb.same s1, wf, (by show 2 ≤ sizeLine; decide), fun p hp => ?_⟩
      have s2 := s1.trans (Same.upd_new (o := .lst [.int 0, .int (Uw14.area b)]) hp)
      refine k _ l p ?_ (Kp.same s2) (.inl rfl) (s1.free hp) ?_
      · rw [es]
        exact hB.same s2
      · unfold ansOf
        rw [es]
        exact upd_same
    · have es : Uw14.step b .area = (b, Uw14.ok (-6)) := if_pos c
      refine if_true_of (by rw [decide_eq_false c]; rfl) ⟨(by show 1 ≤ sizeLine; decide), fun p hp => ?_⟩
      have s2 := s1.trans (Same.upd_new (o := .lst [.int (-6)]) hp)
      refine k _ l p ?_ (Kp.same s2) (.inl rfl) (s1.free hp) ?_
      · rw [es]
        exact hB.same s2
      · unfold ansOf
        rw [es]
        exact upd_same
/-! ### answered -/
theorem callOf_inv {p : Int} {gs : List Int} {x : Uw14.Call} (h : Uw14Neutral.callOf (p :: gs) = some x) :
    (p = 0 ∧ gs = [] ∧ x = .begins) ∨ (p = 1 ∧ ∃ e n, gs = [e, n] ∧ x = .course ⟨e, n⟩) ∨ (p = 2 ∧ ∃ (i : Nat) (e n : Int), gs = [(i : Int), e, n] ∧ x = .change i ⟨e, n⟩) ∨
    (p = 3 ∧ gs = [] ∧ x = .close) ∨ (p = 4 ∧ gs = [] ∧ x = .slips) ∨ (p = 5 ∧ gs = [] ∧ x = .spread) ∨ (p = 6 ∧ gs = [] ∧ x = .area) := by
  unfold Uw14Neutral.callOf at h
  split at h
  · rename_i e
    cases h
    cases e
    simp
  · rename_i e1 n1 e
    cases e
    split at h
    · cases h
      exact .inr (.inl ⟨rfl, _, _, rfl, rfl⟩)
    · cases h
  · rename_i i1 e1 n1 e
    cases e
    split at h
    · rename_i hc
      cases h
      have hn : 0 ≤ i1 := by
        rw [Bool.and_eq_true] at hc
        have := hc.1
        unfold Uw14Neutral.nat at this
        rw [Bool.and_eq_true, decide_eq_true_eq] at this
        exact this.1
      refine .inr (.inr (.inl ⟨rfl, i1.toNat, _, _, ?_, rfl⟩))
      rw [Int.toNat_of_nonneg hn]
    · cases h
  · rename_i e
    cases h
    cases e
    simp
  · rename_i e
    cases h
    cases e
    simp
  · rename_i e
    cases h
    cases e
    simp
  · rename_i e
    cases h
    cases e
    simp
  · cases h
theorem nolk {m : Str} {v : V} (h : (m == ("courses" : Str)) = false) : List.lookup m [(("courses" : Str), v)] = none := by
  simp only [List.lookup, h]
theorem scAnd : FnScope ["book", "call", "given"] ["book", "call", "given"] (defScope sAnswered) := ⟨rfl, rfl, rfl, by decide +kernel, rfl, by decide +kernel, by decide +kernel⟩
theorem ok_answered {f : Addr} {fd : FuncData} (F : Fun K "answered" "answered" sAnswered f fd) (T : Txt K mg C)
    (m0 : MCallee P w K mg base C 1 "begins" ["self"] (spM0 C .begins)) (m1 : MCallee P w K mg base C 2 "course" ["self", "east", "north"] (spCourse C)) (m2 : MCallee P w K mg base C 2 "change" ["self", "number", "east", "north"] (spChange C))
    (m3 : MCallee P w K mg base C 2 "close" ["self"] (spM0 C .close)) (m4 : MCallee P w K mg base C 10 "slips" ["self"] (spM0 C .slips)) (m5 : MCallee P w K mg base C 4 "spread" ["self"] (spM0 C .spread)) (m6 : MCallee P w K mg base C 3 "area" ["self"] (spM0 C .area)) :
    FnOk P w K mg base CX0 11 f fd ["book", "call", "given"] (spAnswered C) := by
  refine F.ok scAnd (fun vs H Q E h => ?_) (fun cdv A outer s H vs Q E hr h => ⟨_,
    pss_cons (ps_if (pt_cmpR op_eq (pv 1) (pe_cst rfl T.cBEGINS) (nomark _)) (pss_one (ps_ret (pe_m0 (pv 0) T.cl m0 (hr.mono (by decide))))) pss_nil)
    (pss_cons (ps_if (pt_cmpR op_eq (pv 1) (pe_cst rfl T.cCOURSE) (nomark _)) (pss_one (ps_ret (pe_m1 (pv 0) T.cl m1 (hr.mono (by decide)) (pa_cons (pe_ix ix_list (pv 2) pe_int (fun _ _ => rfl)) (pa_cons (pe_ix ix_list (pv 2) pe_int (fun _ _ => rfl)) pa_nil))))) pss_nil)
    (pss_cons (ps_if (pt_cmpR op_eq (pv 1) (pe_cst rfl T.cCHANGE) (nomark _)) (pss_one (ps_ret (pe_m1 (pv 0) T.cl m2 (hr.mono (by decide)) (pa_cons (pe_ix ix_list (pv 2) pe_int (fun _ _ => rfl)) (pa_cons (pe_ix ix_list (pv 2) pe_int (fun _ _ => rfl)) (pa_cons (pe_ix ix_list (pv 2) pe_int (fun _ _ => rfl)) pa_nil)))))) pss_nil)
    (pss_cons (ps_if (pt_cmpR op_eq (pv 1) (pe_cst rfl T.cCLOSE) (nomark _)) (pss_one (ps_ret (pe_m0 (pv 0) T.cl m3 (hr.mono (by decide))))) pss_nil)
    (pss_cons (ps_if (pt_cmpR op_eq (pv 1) (pe_cst rfl T.cSLIPS) (nomark _)) (pss_one (ps_ret (pe_m0 (pv 0) T.cl m4 hr))) pss_nil)
    (pss_cons (ps_if (pt_cmpR op_eq (pv 1) (pe_cst rfl T.cSPREAD) (nomark _)) (pss_one (ps_ret (pe_m0 (pv 0) T.cl m5 (hr.mono (by decide))))) pss_nil)
    (pss_one (ps_ret (pe_m0 (pv 0) T.cl m6 (hr.mono (by decide)))))))))), ?_⟩)
  · obtain ⟨g, p, gs, x, _, _, xa, l, b, rfl, _⟩ := h
    rfl
  · obtain ⟨g, p, gs, x, hg, hc, xa, l, b, rfl, hB, wf, k⟩ := h
    obtain ⟨dx, rs, hx, hl, hb⟩ := id hB
    refine ⟨_, rfl, rfl, _, rfl, ?_⟩
    rcases callOf_inv hc with ⟨rfl, rfl, rfl⟩ | ⟨rfl, e, n, rfl, rfl⟩ | ⟨rfl, i, e, n, rfl, rfl⟩ | ⟨rfl, rfl, rfl⟩ | ⟨rfl, rfl, rfl⟩ | ⟨rfl, rfl, rfl⟩ | ⟨rfl, rfl, rfl⟩
    · exact if_true_of rfl ⟨_, rfl, xa, dx, _, rfl, hx, nolk (by decide +kernel), xa, l, b, rfl, hB, wf, k⟩
    · refine if_false_of rfl ⟨_, rfl, rfl, _, rfl, if_true_of rfl ?_⟩
      exact ⟨_, rfl, xa, dx, _, rfl, hx, nolk (by decide +kernel), _, rfl, g, _, _, _, rfl, rfl, SqL.of hg, at0, _, rfl, g, _, _, _, rfl, rfl, SqL.of hg, at1, e, n, xa, l, b, rfl, hB, wf, k⟩
    · refine if_false_of rfl ⟨_, rfl, rfl, _, rfl, if_false_of rfl ⟨_, rfl, rfl, _, rfl, if_true_of rfl ?_⟩⟩
      exact ⟨_, rfl, xa, dx, _, rfl, hx, nolk (by decide +kernel), _, rfl, g, _, _, _, rfl, rfl, SqL.of hg, at0, _, rfl, g, _, _, _, rfl, rfl, SqL.of hg, at1, _, rfl, g, _, _, _, rfl, rfl, SqL.of hg, at2, i, e, n, xa, l, b, rfl, hB, wf, k⟩
    · refine if_false_of rfl ⟨_, rfl, rfl, _, rfl, if_false_of rfl ⟨_, rfl, rfl, _, rfl, if_false_of rfl ⟨_, rfl, rfl, _, rfl, if_true_of rfl ?_⟩⟩⟩
      exact ⟨_, rfl, xa, dx, _, rfl, hx, nolk (by decide +kernel), xa, l, b, rfl, hB, wf, k⟩
    · refine if_false_of rfl ⟨_, rfl, rfl, _, rfl, if_false_of rfl ⟨_, rfl, rfl, _, rfl, if_false_of rfl ⟨_, rfl, rfl, _, rfl, if_false_of rfl ⟨_, rfl, rfl, _, rfl, if_true_of rfl ?_⟩⟩⟩⟩
      exact ⟨_, rfl, xa, dx, _, rfl, hx, nolk (by decide +kernel), xa, l, b, rfl, hB, wf, k⟩
    · refine if_false_of rfl ⟨_, rfl, rfl, _, rfl, if_false_of rfl ⟨_, rfl, rfl, _, rfl, if_false_of rfl ⟨_, rfl, rfl, _, rfl, if_false_of rfl ⟨_, rfl, rfl, _, rfl, if_false_of rfl ⟨_, rfl, rfl, _, rfl, if_true_of rfl ?_⟩⟩⟩⟩⟩
      exact ⟨_, rfl, xa, dx, _, rfl, hx, nolk (by decide +kernel), xa, l, b, rfl, hB, wf, k⟩
    · refine if_false_of rfl ⟨_, rfl, rfl, _, rfl, if_false_of rfl ⟨_, rfl, rfl, _, rfl, if_false_of rfl ⟨_, rfl, rfl, _, rfl, if_false_of rfl ⟨_, rfl, rfl, _, rfl, if_false_of rfl ⟨_, rfl, rfl, _, rfl, if_false_of rfl ?_⟩⟩⟩⟩⟩
      exact ⟨_, rfl, xa, dx, _, rfl, hx, nolk (by decide +kernel), xa, l, b, rfl, hB, wf, k⟩
end
end Fs
namespace Fs
open PySem PySem.Spec PyProof.Rows L2
section
variable {P : Program} {w : World} {K : PySem.W.Frag} {mg : Str → Option Value} {base : Heap} {C : Addr}
/-! ### answers -/
theorem sizes_at {p : Int} {n : Nat} (h : PyUw14.shape p = some (n, 0)) : atI [V.int 0, V.int 2, V.int 3, V.int 0, V.int 0, V.int 0, V.int 0] p = some (V.int (n : Int)) := by
  rcases (shape_two h).2 with ⟨rfl, rfl⟩ | ⟨rfl, rfl⟩ | ⟨rfl, rfl⟩ | ⟨rfl, rfl⟩ | ⟨rfl, rfl⟩ | ⟨rfl, rfl⟩ | ⟨rfl, rfl⟩ <;> rfl
theorem shape_le {p : Int} {n : Nat} (h : PyUw14.shape p = some (n, 0)) : n ≤ 3 := by
  rcases (shape_two h).2 with ⟨rfl, rfl⟩ | ⟨rfl, rfl⟩ | ⟨rfl, rfl⟩ | ⟨rfl, rfl⟩ | ⟨rfl, rfl⟩ | ⟨rfl, rfl⟩ | ⟨rfl, rfl⟩ <;> decide
def leftIn (n : Nat) (σ : L2.St) : Nat := match σ with
  | [_, _, _, some (.int j), _, _, _, _] => n - j.toNat
  | _ => 0
theorem iv_get {l : List Int} {i : Nat} {x : Int} (h : l[i]? = some x) : (l.map V.int)[i]? = some (V.int x) := by
  rw [List.getElem?_map, h]
  rfl
theorem yes_then {σ : L2.St} {H : Hp} {A B : Hp → Prop} (h : A H) : tYes σ H (fun b H3 => if b = true then A H3 else B H3) := by
  show (if true = true then A H else B H)
  exact iteT h
/-- what the loop keeps between two turns: H the heap at the entry, a the calls' list, x the book, fl what is found -/
def Turns (C : Addr) (H : Hp) (a x fl : Addr) (ns : List Int) (σ : L2.St) (H' : Hp) : Prop :=
  ∃ (j : Nat) (b : Uw14.Book) (l : Addr) (acc : List Int) (f : Nat) (cs : List (List (List Int))) (u4 u5 u6 u7 : Option V),
    j ≤ ns.length ∧ σ = [some (.ref a), some (.ref x), some (.ref fl), some (.int (j : Int)), u4, u5, u6, u7] ∧ Same H H' ∧ H l = none ∧ fl ≠ l ∧ H' fl = some (.lst (iv acc)) ∧ BookAt C H' x l b ∧ Wf b ∧
    PyFlat.calls PyUw14.shape f (ns.drop j) = some cs ∧ good cs ∧ acc ++ wplay b cs = PyUw14.answers ns
abbrev nAns : List Str := ["calls", "book", "found", "at", "size", "given", "told", "place"]
theorem scAns : FnScope nAns ["calls"] (defScope sAnswers) := ⟨rfl, rfl, rfl, by decide +kernel, rfl, by decide +kernel, by decide +kernel⟩
theorem ok_answers {f fI : Addr} {fd fdI : FuncData} (F : Fun K "answers" "answers" sAnswers f fd) (T : Txt K mg C) (M : Mk K C fI) (GI : FnOk P w K mg base CX0 1 fI fdI ["self"] (spInit C)) (bI : Binds K fdI ["self"] [])
    (cA : Callee P w K mg base 11 "answered" ["book", "call", "given"] (spAnswered C)) : FnOk P w K mg base CX0 12 f fd ["calls"] (spAns K) := by
  obtain ⟨aS, cS, qS⟩ := T.cSIZES
  refine F.ok scAns (fun vs H Q E h => ?_) (fun cdv A outer s H vs Q E hr h => ⟨_,
    pss_cons (ps_set (i := 1) scAns.nd rfl (Or.inl rfl) (pe_make0 M GI (hr.mono (by decide)) rfl T.gC bI .nil pass0))
    (pss_cons (ps_set (i := 2) scAns.nd rfl (Or.inl rfl) (pe_lst pa_nil))
    (pss_cons (ps_set (i := 3) scAns.nd rfl (Or.inr rfl) pe_int)
    (pss_cons (ps_while PassesOwn.never (pt_cmpR op_lt (pv 3) (pe_callB call_len_seq (by rfl) T.nLen PySem.boot_len (pa_cons (pv 0) pa_nil)) (nomark _))
      (pss_cons (ps_set (i := 4) scAns.nd rfl (Or.inl rfl) (pe_ix ix_tup (pe_cst rfl cS) (pe_ix ix_list (pv 0) (pv 3) (fun _ _ => rfl)) (fun _ _ => rfl)))
      (pss_cons (ps_setLc (i := 5) (own := [("place", 7)]) (g := gName 7) (tt := tYes) (te := tOp (rIxL K) (tVar 0) (tOp (rI0 fun i j => .int (i + j)) (tOp (rI0 fun i j => .int (i + j)) (tVar 3) (tC (.int 1))) (tVar 7))) rfl scAns.nd rfl rfl (sw_true rfl rfl rfl (by decide +kernel)) (pi_range1 (by rfl) T.nRange (pa_cons (pv 4) pa_nil))
        (blkOk_by (N := nAns) (sc := defScope sAnswers) (by decide +kernel)) (fun _ _ _ _ _ => pg_name (i := 7) scAns.nd rfl (Or.inl rfl)) (fun _ _ _ _ _ => pts_nil)
        (fun _ _ _ _ _ => pe_ix ix_list (pv 0) (pe_op op_add (pe_op op_add (pv 3) pe_int) (pv 7)) (fun _ _ => rfl)))
      (pss_cons (ps_set (i := 6) scAns.nd rfl (Or.inl rfl) (pe_c cA hr rfl (pa_cons (pv 1) (pa_cons (pe_ix ix_list (pv 0) (pv 3) (fun _ _ => rfl)) (pa_cons (pv 5) pa_nil)))))
      (pss_cons (ps_expr (pe_bm PySem.F.plainAttrs_list PySem.F.slot_list_append PySem.F.type_list_append mt_append (pv 2) (pa_cons (pe_callB call_len_seq (by rfl) T.nLen PySem.boot_len (pa_cons (pv 6) pa_nil)) pa_nil)))
      (pss_cons (ps_expr (pe_bm PySem.F.plainAttrs_list PySem.F.slot_list_extend PySem.F.type_list_extend mt_extend (pv 2) (pa_cons (pv 6) pa_nil)))
      (pss_one (ps_set (i := 3) scAns.nd rfl (Or.inr rfl) (pe_op op_add (pe_op op_add (pv 3) pe_int) (pv 4))))))))))
    (pss_one (ps_ret (pv 2)))))), ?_⟩)
  · obtain ⟨a, ns, rfl, _⟩ := h
    rfl
  · obtain ⟨a, ns, rfl, hS, hask, hlen, k⟩ := h
    obtain ⟨raw, hraw, hgood, hans, hshort⟩ := asked_open hask
    intro x dx nx nd ne
    refine ⟨x, dx, rfl, upd_same, fun H1 l0 B1 nl0 kp1 => ⟨rfl, ?_⟩⟩
    have s1 : Same H H1 := Same.made nx nd kp1
    have nl : H l0 = none := by
      cases q : H l0 with
      | none => rfl
      | some o =>
        rw [upd_ne (ne_of_none q nx), upd_ne (ne_of_none q nd), q] at nl0
        cases nl0
    refine ⟨Nat.zero_le _, fun fl hfl => ?_⟩
    have s2 : Same H1 (upd H1 fl (.lst [])) := Same.upd_new hfl
    have nfl : H fl = none := s1.free hfl
    have flne : fl ≠ l0 := by
      obtain ⟨_, _, _, h2, _⟩ := B1
      exact Ne.symm (ne_of_none h2 hfl)
    refine while_by (Turns C H a x fl ns) (fun σ _ => leftIn ns.length σ)
      ⟨0, [], l0, [], ns.length, raw, none, none, none, none, Nat.zero_le _, rfl, s1.trans s2, nl, flne, upd_same, B1.same s2, Wf.nil, hraw, hgood, hans.symm⟩ ?_ ?_
    · rintro σ H' ⟨j, b, l, acc, fu, cs, u4, u5, u6, u7, hj, rfl, sm, nl', fln, hf, B, wf, hcs, hg, hacc⟩
      have hq := sm.seq hS
      refine ⟨_, rfl, _, rfl, a, _, rfl, .inl hq, _, _, rfl, rfl, _, rfl, ?_⟩
      rw [List.length_map]
      by_cases c : (j : Int) < (ns.length : Int)
      · refine if_true_of (decide_eq_true c) ?_
        have hne : ns.drop j ≠ [] := by
          intro e
          have := congrArg List.length e
          rw [List.length_drop, List.length_nil] at this
          omega
        obtain ⟨p, r, n, f', cs', hd, hsh, hn, rfl, hcs'⟩ := calls_cons hcs hne
        obtain ⟨hg1, hg2⟩ := good_cons hg
        rw [whole_one hsh hn] at hg1
        obtain ⟨call, hcall⟩ := Option.isSome_iff_exists.mp hg1
        have hcall' : Uw14Neutral.callOf (p :: r.take n) = some call := hcall
        rw [wplay_cons hsh hn hcall'] at hacc
        have hp : ns[j]? = some p := by
          have := congrArg (fun l => l[0]?) hd
          simpa using this
        have hr1 : ∀ i, ns[j + 1 + i]? = r[i]? := fun i => by
          have := congrArg (fun l => l[i + 1]?) hd
          simp only [List.getElem?_drop, List.getElem?_cons_succ] at this
          rw [show j + 1 + i = j + (i + 1) by omega]
          exact this
        have hn3 := shape_le hsh
        have hrl : r.length + j + 1 = ns.length := by
          have := congrArg List.length hd
          rw [List.length_drop, List.length_cons] at this
          omega
        -- size = SIZES[calls[at]]
        refine ⟨_, rfl, _, rfl, a, _, _, _, rfl, rfl, hq, at_of (j := j) rfl (iv_get hp), aS, _, _, _, rfl, rfl, qS H', sizes_at hsh, ?_⟩
        -- given = [..]
        refine ⟨_, rfl, _, rfl, (in62 (by omega)).1, (in62 (by omega)).2, fun D hD => ?_⟩
        have en : ((n : Nat) : Int).toNat = n := Int.toNat_natCast n
        rw [en]
        have sD : ∀ o, Same H' (upd H' D o) := fun o => Same.upd_new hD
        refine lc_range (lo := 0) (n := n) (fun i H2 => H2 = upd H' D (.lst (iv (r.take i)))) rfl ?_ ?_
        · rintro i H2 hi rfl
          have hri : r[i]? = some (r[i]'(by omega)) := List.getElem?_eq_getElem (by omega)
          refine ⟨rfl, yes_then ?_⟩
          refine ⟨_, rfl, _, rfl, _, _, rfl, rfl, _, rfl, _, _, rfl, rfl, a, _, _, _, rfl, rfl, (sD _).seq hq, at_of (j := j + 1 + i) (by omega) (iv_get ((hr1 i).trans hri)), _, upd_same, sz_lt ?_, ?_⟩
          · rw [iv_len, List.length_take]
            omega
          · rw [upd_upd, take_more hri, iv_app]
            rfl
        · rintro H2 rfl
          -- told = answered(book, calls[at], given)
          have sm2 := sm.trans (sD (.lst (iv (r.take n))))
          refine ⟨_, rfl, _, rfl, _, rfl, a, _, _, _, rfl, rfl, (sD _).seq hq, at_of (j := j) rfl (iv_get hp), _, rfl, D, p, r.take n, call, upd_same, hcall', x, l, b, rfl, B.same (sD _), wf, fun H3 l3 q B3 kp3 hl3 nq gq => ?_⟩
          have flx : fl ≠ x := by
            obtain ⟨dx', _, h1, _, _⟩ := B
            exact ne_of hf h1 (by intro z; cases z)
          have hf2 : upd H' D (.lst (iv (r.take n))) fl = some (.lst (iv acc)) := (sD _) _ _ hf
          have hf3 : H3 fl = some (.lst (iv acc)) := kp3 _ _ hf2 flx fln
          have qfl : q ≠ fl := Ne.symm (ne_of_none hf2 nq)
          have nl3 : H l3 = none := by
            rcases hl3 with rfl | z
            · exact nl'
            · exact sm2.free z
          have fl3 : fl ≠ l3 := by
            rcases hl3 with rfl | z
            · exact fln
            · exact ne_of_none hf2 z
          have sm3 : Same H H3 := fun a' o e => kp3 _ _ (sm2 _ _ e) (ne_of_none e nx) (ne_of_none e nl')
          have hsz : acc.length + 1 + (ansOf b call).length ≤ 10000000 := by
            have h1 := congrArg List.length hacc
            rw [List.length_append, List.length_append, List.length_cons] at h1
            omega
          -- found.append(len(told))
          refine ⟨_, rfl, .inl ⟨rfl, _, SqL.of hf3⟩, _, rfl, q, _, rfl, .inl (SqL.of gq), fl, _, _, rfl, rfl, hf3, sz_lt (by rw [iv_len]; omega), ?_⟩
          -- found.extend(told)
          refine ⟨_, rfl, .inl ⟨rfl, _, SqL.of upd_same⟩, _, rfl, fl, q, _, _, rfl, rfl, upd_same, (by rw [upd_ne qfl]; exact gq), sz_le ?_, ?_⟩
          · rw [List.length_append, iv_len, iv_len]
            show acc.length + 1 + _ ≤ _
            omega
          · -- at = at + 1 + size
            rw [upd_upd]
            refine ⟨_, rfl, _, _, rfl, rfl, _, rfl, _, _, rfl, rfl, ⟨j + 1 + n, (Uw14.step b call).1, l3, acc ++ (((ansOf b call).length : Int) :: ansOf b call), f', cs', some (.int (n : Int)), some (.ref D), some (.ref q), u7, by omega, rfl, ?_, nl3, fl3, ?_, B3.upd hf3 fl3, wf.step call, ?_, hg2, ?_⟩, ?_⟩
            · intro a' o e
              rw [upd_ne (ne_of_none e nfl)]
              exact sm3 _ _ e
            · rw [upd_same, iv_len, iv_app]
              show some (HO.lst (iv acc ++ [V.int ((ansOf b call).length : Int)] ++ iv (ansOf b call))) = _
              rw [List.append_assoc]
              rfl
            · have ed : ns.drop (j + 1 + n) = r.drop n := by
                have := congrArg (List.drop (n + 1)) hd
                rw [List.drop_drop, List.drop_succ_cons] at this
                rw [← this]
                congr 1
                omega
              rw [ed]
              exact hcs'
            · rw [List.append_assoc]
              exact hacc
            · show ns.length - ((j : Int) + 1 + (n : Int)).toNat < ns.length - (j : Int).toNat
              omega
      · refine if_false_of (decide_eq_false c) ⟨_, rfl, k _ fl ?_⟩
        have ej : j = ns.length := by omega
        subst ej
        rw [List.drop_length] at hcs
        have e0 : cs = [] := by
          cases fu <;> (unfold PyFlat.calls at hcs; exact (Option.some.inj hcs).symm)
        subst e0
        rw [wplay_nil, List.append_nil] at hacc
        rw [← hacc]
        exact hf
    · rintro σ H Q Q' hq ⟨v, e, v2, e2, q, ys, e3, hh, i, j, e4, e5, kk, e6, z⟩
      exact ⟨v, e, v2, e2, q, ys, e3, hh, i, j, e4, e5, kk, e6, hq _ _ z⟩
end
end Fs
namespace Fs
open PySem PySem.Spec PyProof.Rows L2
/-! ### the end: what the top has written, every address a letter -/
theorem all_mk {P : Program} {w : World} {K : PySem.W.Frag} {h : Heap} {mg : Str → Option Value} {fa : Addr} (X : K.In h) (G : h.Ns mainGlobals mg) (hfa : mg "answers" = some (.ref fa))
    {C : Addr}
    {f_isC : Addr} {od_isC an_isC : Option Addr} {sl_isC : Array (Option Value)} {oc_isC kV_isC dc_isC pm_isC cd_isC ct_isC : Value}
    {f_off : Addr} {od_off an_off : Option Addr} {sl_off : Array (Option Value)} {oc_off kV_off dc_off pm_off cd_off ct_off : Value}
    {f_closes : Addr} {od_closes an_closes : Option Addr} {sl_closes : Array (Option Value)} {oc_closes kV_closes dc_closes pm_closes cd_closes ct_closes : Value}
    {f_count : Addr} {od_count an_count : Option Addr} {sl_count : Array (Option Value)} {oc_count kV_count dc_count pm_count cd_count ct_count : Value}
    {f_length : Addr} {od_length an_length : Option Addr} {sl_length : Array (Option Value)} {oc_length kV_length dc_length pm_length cd_length ct_length : Value}
    {f_sprC : Addr} {od_sprC an_sprC : Option Addr} {sl_sprC : Array (Option Value)} {oc_sprC kV_sprC dc_sprC pm_sprC cd_sprC ct_sprC : Value}
    {f_sprO : Addr} {od_sprO an_sprO : Option Addr} {sl_sprO : Array (Option Value)} {oc_sprO kV_sprO dc_sprO pm_sprO cd_sprO ct_sprO : Value}
    {f_twice : Addr} {od_twice an_twice : Option Addr} {sl_twice : Array (Option Value)} {oc_twice kV_twice dc_twice pm_twice cd_twice ct_twice : Value}
    {f_digits : Addr} {od_digits an_digits : Option Addr} {sl_digits : Array (Option Value)} {oc_digits kV_digits dc_digits pm_digits cd_digits ct_digits : Value}
    {f_written : Addr} {od_written an_written : Option Addr} {sl_written : Array (Option Value)} {oc_written kV_written dc_written pm_written cd_written ct_written : Value}
    {f_places : Addr} {od_places an_places : Option Addr} {sl_places : Array (Option Value)} {oc_places kV_places dc_places pm_places cd_places ct_places : Value}
    {f_same : Addr} {od_same an_same : Option Addr} {sl_same : Array (Option Value)} {oc_same kV_same dc_same pm_same cd_same ct_same : Value}
    {f_sign : Addr} {od_sign an_sign : Option Addr} {sl_sign : Array (Option Value)} {oc_sign kV_sign dc_sign pm_sign cd_sign ct_sign : Value}
    {f_many : Addr} {od_many an_many : Option Addr} {sl_many : Array (Option Value)} {oc_many kV_many dc_many pm_many cd_many ct_many : Value}
    {f_digit : Addr} {od_digit an_digit : Option Addr} {sl_digit : Array (Option Value)} {oc_digit kV_digit dc_digit pm_digit cd_digit ct_digit : Value}
    {f_exch : Addr} {od_exch an_exch : Option Addr} {sl_exch : Array (Option Value)} {oc_exch kV_exch dc_exch pm_exch cd_exch ct_exch : Value}
    {f_order : Addr} {od_order an_order : Option Addr} {sl_order : Array (Option Value)} {oc_order kV_order dc_order pm_order cd_order ct_order : Value}
    {f_num : Addr} {od_num an_num : Option Addr} {sl_num : Array (Option Value)} {oc_num kV_num dc_num pm_num cd_num ct_num : Value}
    {f_whole : Addr} {od_whole an_whole : Option Addr} {sl_whole : Array (Option Value)} {oc_whole kV_whole dc_whole pm_whole cd_whole ct_whole : Value}
    {f_one : Addr} {od_one an_one : Option Addr} {sl_one : Array (Option Value)} {oc_one kV_one dc_one pm_one cd_one ct_one : Value}
    {f_kc : Addr} {od_kc an_kc : Option Addr} {sl_kc : Array (Option Value)} {oc_kc kV_kc dc_kc pm_kc cd_kc ct_kc : Value}
    {f_meant : Addr} {od_meant an_meant : Option Addr} {sl_meant : Array (Option Value)} {oc_meant kV_meant dc_meant pm_meant cd_meant ct_meant : Value}
    {f_slipIn : Addr} {od_slipIn an_slipIn : Option Addr} {sl_slipIn : Array (Option Value)} {oc_slipIn kV_slipIn dc_slipIn pm_slipIn cd_slipIn ct_slipIn : Value}
    {f_slipsOf : Addr} {od_slipsOf an_slipsOf : Option Addr} {sl_slipsOf : Array (Option Value)} {oc_slipsOf kV_slipsOf dc_slipsOf pm_slipsOf cd_slipsOf ct_slipsOf : Value}
    {f_answered : Addr} {od_answered an_answered : Option Addr} {sl_answered : Array (Option Value)} {oc_answered kV_answered dc_answered pm_answered cd_answered ct_answered : Value}
    {f_answers : Addr} {od_answers an_answers : Option Addr} {sl_answers : Array (Option Value)} {oc_answers kV_answers dc_answers pm_answers cd_answers ct_answers : Value}
    {f_minit : Addr} {od_minit an_minit : Option Addr} {sl_minit : Array (Option Value)} {oc_minit kV_minit dc_minit pm_minit cd_minit ct_minit : Value}
    {f_mbegins : Addr} {od_mbegins an_mbegins : Option Addr} {sl_mbegins : Array (Option Value)} {oc_mbegins kV_mbegins dc_mbegins pm_mbegins cd_mbegins ct_mbegins : Value}
    {f_mcourse : Addr} {od_mcourse an_mcourse : Option Addr} {sl_mcourse : Array (Option Value)} {oc_mcourse kV_mcourse dc_mcourse pm_mcourse cd_mcourse ct_mcourse : Value}
    {f_mchange : Addr} {od_mchange an_mchange : Option Addr} {sl_mchange : Array (Option Value)} {oc_mchange kV_mchange dc_mchange pm_mchange cd_mchange ct_mchange : Value}
    {f_mclose : Addr} {od_mclose an_mclose : Option Addr} {sl_mclose : Array (Option Value)} {oc_mclose kV_mclose dc_mclose pm_mclose cd_mclose ct_mclose : Value}
    {f_mslips : Addr} {od_mslips an_mslips : Option Addr} {sl_mslips : Array (Option Value)} {oc_mslips kV_mslips dc_mslips pm_mslips cd_mslips ct_mslips : Value}
    {f_mspread : Addr} {od_mspread an_mspread : Option Addr} {sl_mspread : Array (Option Value)} {oc_mspread kV_mspread dc_mspread pm_mspread cd_mspread ct_mspread : Value}
    {f_marea : Addr} {od_marea an_marea : Option Addr} {sl_marea : Array (Option Value)} {oc_marea kV_marea dc_marea pm_marea cd_marea ct_marea : Value}
    {t_MOST : Tok}
    {t_NO_SLIP : Tok}
    {t_OTHER_SIGN : Tok}
    {t_OTHER_DIGIT : Tok}
    {t_OTHER_ORDER : Tok}
    {t_EXCHANGED : Tok}
    {t_BOTH_SIGNS : Tok}
    {t_MOST_COURSES : Tok}
    {t_BEYOND : Tok}
    {t_NO_COURSE : Tok}
    {t_FULL : Tok}
    {t_NOT_SO : Tok}
    {t_BEGINS : Tok}
    {t_COURSE : Tok}
    {t_CHANGE : Tok}
    {t_CLOSE : Tok}
    {t_SLIPS : Tok}
    {t_SPREAD : Tok}
    {aS : Addr} {odS : Option Addr} {nS : Nat} {slS : Array (Option Value)} {q0 q1 q2 q3 q4 q5 q6 : Tok}
    (aC : PySem.W.nsIn K mainGlobals "Book" = some (some (.ref C)))
    (a_isC : PySem.W.nsIn K mainGlobals "is_course" = some (some (.ref f_isC)))
    (l_isC : K.lookup f_isC = some ⟨oc_isC, od_isC, .func (PySem.W.fnOf "is_course" "is_course" (defArgs sIsCourse) (defBody sIsCourse) (defScope sIsCourse) .none kV_isC dc_isC pm_isC an_isC cd_isC ct_isC), sl_isC⟩) (c_isC : PySem.W.codeIn K cd_isC "is_course" = true) (k_isC : PySem.W.keepIn K (.ref f_isC) = true)
    (a_off : PySem.W.nsIn K mainGlobals "off_of" = some (some (.ref f_off)))
    (l_off : K.lookup f_off = some ⟨oc_off, od_off, .func (PySem.W.fnOf "off_of" "off_of" (defArgs sOffOf) (defBody sOffOf) (defScope sOffOf) .none kV_off dc_off pm_off an_off cd_off ct_off), sl_off⟩) (c_off : PySem.W.codeIn K cd_off "off_of" = true) (k_off : PySem.W.keepIn K (.ref f_off) = true)
    (a_closes : PySem.W.nsIn K mainGlobals "closes" = some (some (.ref f_closes)))
    (l_closes : K.lookup f_closes = some ⟨oc_closes, od_closes, .func (PySem.W.fnOf "closes" "closes" (defArgs sCloses) (defBody sCloses) (defScope sCloses) .none kV_closes dc_closes pm_closes an_closes cd_closes ct_closes), sl_closes⟩) (c_closes : PySem.W.codeIn K cd_closes "closes" = true) (k_closes : PySem.W.keepIn K (.ref f_closes) = true)
    (a_count : PySem.W.nsIn K mainGlobals "count_of" = some (some (.ref f_count)))
    (l_count : K.lookup f_count = some ⟨oc_count, od_count, .func (PySem.W.fnOf "count_of" "count_of" (defArgs sCountOf) (defBody sCountOf) (defScope sCountOf) .none kV_count dc_count pm_count an_count cd_count ct_count), sl_count⟩) (c_count : PySem.W.codeIn K cd_count "count_of" = true) (k_count : PySem.W.keepIn K (.ref f_count) = true)
    (a_length : PySem.W.nsIn K mainGlobals "length_of" = some (some (.ref f_length)))
    (l_length : K.lookup f_length = some ⟨oc_length, od_length, .func (PySem.W.fnOf "length_of" "length_of" (defArgs sLengthOf) (defBody sLengthOf) (defScope sLengthOf) .none kV_length dc_length pm_length an_length cd_length ct_length), sl_length⟩) (c_length : PySem.W.codeIn K cd_length "length_of" = true) (k_length : PySem.W.keepIn K (.ref f_length) = true)
    (a_sprC : PySem.W.nsIn K mainGlobals "spread_course" = some (some (.ref f_sprC)))
    (l_sprC : K.lookup f_sprC = some ⟨oc_sprC, od_sprC, .func (PySem.W.fnOf "spread_course" "spread_course" (defArgs sSpreadCourse) (defBody sSpreadCourse) (defScope sSpreadCourse) .none kV_sprC dc_sprC pm_sprC an_sprC cd_sprC ct_sprC), sl_sprC⟩) (c_sprC : PySem.W.codeIn K cd_sprC "spread_course" = true) (k_sprC : PySem.W.keepIn K (.ref f_sprC) = true)
    (a_sprO : PySem.W.nsIn K mainGlobals "spread_of" = some (some (.ref f_sprO)))
    (l_sprO : K.lookup f_sprO = some ⟨oc_sprO, od_sprO, .func (PySem.W.fnOf "spread_of" "spread_of" (defArgs sSpreadOf) (defBody sSpreadOf) (defScope sSpreadOf) .none kV_sprO dc_sprO pm_sprO an_sprO cd_sprO ct_sprO), sl_sprO⟩) (c_sprO : PySem.W.codeIn K cd_sprO "spread_of" = true) (k_sprO : PySem.W.keepIn K (.ref f_sprO) = true)
    (a_twice : PySem.W.nsIn K mainGlobals "twice_area" = some (some (.ref f_twice)))
    (l_twice : K.lookup f_twice = some ⟨oc_twice, od_twice, .func (PySem.W.fnOf "twice_area" "twice_area" (defArgs sTwiceArea) (defBody sTwiceArea) (defScope sTwiceArea) .none kV_twice dc_twice pm_twice an_twice cd_twice ct_twice), sl_twice⟩) (c_twice : PySem.W.codeIn K cd_twice "twice_area" = true) (k_twice : PySem.W.keepIn K (.ref f_twice) = true)
    (a_digits : PySem.W.nsIn K mainGlobals "digits_of" = some (some (.ref f_digits)))
    (l_digits : K.lookup f_digits = some ⟨oc_digits, od_digits, .func (PySem.W.fnOf "digits_of" "digits_of" (defArgs sDigitsOf) (defBody sDigitsOf) (defScope sDigitsOf) .none kV_digits dc_digits pm_digits an_digits cd_digits ct_digits), sl_digits⟩) (c_digits : PySem.W.codeIn K cd_digits "digits_of" = true) (k_digits : PySem.W.keepIn K (.ref f_digits) = true)
    (a_written : PySem.W.nsIn K mainGlobals "written" = some (some (.ref f_written)))
    (l_written : K.lookup f_written = some ⟨oc_written, od_written, .func (PySem.W.fnOf "written" "written" (defArgs sWritten) (defBody sWritten) (defScope sWritten) .none kV_written dc_written pm_written an_written cd_written ct_written), sl_written⟩) (c_written : PySem.W.codeIn K cd_written "written" = true) (k_written : PySem.W.keepIn K (.ref f_written) = true)
    (a_places : PySem.W.nsIn K mainGlobals "places_unlike" = some (some (.ref f_places)))
    (l_places : K.lookup f_places = some ⟨oc_places, od_places, .func (PySem.W.fnOf "places_unlike" "places_unlike" (defArgs sPlacesUnlike) (defBody sPlacesUnlike) (defScope sPlacesUnlike) .none kV_places dc_places pm_places an_places cd_places ct_places), sl_places⟩) (c_places : PySem.W.codeIn K cd_places "places_unlike" = true) (k_places : PySem.W.keepIn K (.ref f_places) = true)
    (a_same : PySem.W.nsIn K mainGlobals "same_side" = some (some (.ref f_same)))
    (l_same : K.lookup f_same = some ⟨oc_same, od_same, .func (PySem.W.fnOf "same_side" "same_side" (defArgs sSameSide) (defBody sSameSide) (defScope sSameSide) .none kV_same dc_same pm_same an_same cd_same ct_same), sl_same⟩) (c_same : PySem.W.codeIn K cd_same "same_side" = true) (k_same : PySem.W.keepIn K (.ref f_same) = true)
    (a_sign : PySem.W.nsIn K mainGlobals "is_other_sign" = some (some (.ref f_sign)))
    (l_sign : K.lookup f_sign = some ⟨oc_sign, od_sign, .func (PySem.W.fnOf "is_other_sign" "is_other_sign" (defArgs sIsOtherSign) (defBody sIsOtherSign) (defScope sIsOtherSign) .none kV_sign dc_sign pm_sign an_sign cd_sign ct_sign), sl_sign⟩) (c_sign : PySem.W.codeIn K cd_sign "is_other_sign" = true) (k_sign : PySem.W.keepIn K (.ref f_sign) = true)
    (a_many : PySem.W.nsIn K mainGlobals "as_many_digits" = some (some (.ref f_many)))
    (l_many : K.lookup f_many = some ⟨oc_many, od_many, .func (PySem.W.fnOf "as_many_digits" "as_many_digits" (defArgs sAsManyDigits) (defBody sAsManyDigits) (defScope sAsManyDigits) .none kV_many dc_many pm_many an_many cd_many ct_many), sl_many⟩) (c_many : PySem.W.codeIn K cd_many "as_many_digits" = true) (k_many : PySem.W.keepIn K (.ref f_many) = true)
    (a_digit : PySem.W.nsIn K mainGlobals "is_other_digit" = some (some (.ref f_digit)))
    (l_digit : K.lookup f_digit = some ⟨oc_digit, od_digit, .func (PySem.W.fnOf "is_other_digit" "is_other_digit" (defArgs sIsOtherDigit) (defBody sIsOtherDigit) (defScope sIsOtherDigit) .none kV_digit dc_digit pm_digit an_digit cd_digit ct_digit), sl_digit⟩) (c_digit : PySem.W.codeIn K cd_digit "is_other_digit" = true) (k_digit : PySem.W.keepIn K (.ref f_digit) = true)
    (a_exch : PySem.W.nsIn K mainGlobals "are_exchanged" = some (some (.ref f_exch)))
    (l_exch : K.lookup f_exch = some ⟨oc_exch, od_exch, .func (PySem.W.fnOf "are_exchanged" "are_exchanged" (defArgs sAreExchanged) (defBody sAreExchanged) (defScope sAreExchanged) .none kV_exch dc_exch pm_exch an_exch cd_exch ct_exch), sl_exch⟩) (c_exch : PySem.W.codeIn K cd_exch "are_exchanged" = true) (k_exch : PySem.W.keepIn K (.ref f_exch) = true)
    (a_order : PySem.W.nsIn K mainGlobals "is_other_order" = some (some (.ref f_order)))
    (l_order : K.lookup f_order = some ⟨oc_order, od_order, .func (PySem.W.fnOf "is_other_order" "is_other_order" (defArgs sIsOtherOrder) (defBody sIsOtherOrder) (defScope sIsOtherOrder) .none kV_order dc_order pm_order an_order cd_order ct_order), sl_order⟩) (c_order : PySem.W.codeIn K cd_order "is_other_order" = true) (k_order : PySem.W.keepIn K (.ref f_order) = true)
    (a_num : PySem.W.nsIn K mainGlobals "kind_of_number" = some (some (.ref f_num)))
    (l_num : K.lookup f_num = some ⟨oc_num, od_num, .func (PySem.W.fnOf "kind_of_number" "kind_of_number" (defArgs sKindOfNumber) (defBody sKindOfNumber) (defScope sKindOfNumber) .none kV_num dc_num pm_num an_num cd_num ct_num), sl_num⟩) (c_num : PySem.W.codeIn K cd_num "kind_of_number" = true) (k_num : PySem.W.keepIn K (.ref f_num) = true)
    (a_whole : PySem.W.nsIn K mainGlobals "kind_of_whole" = some (some (.ref f_whole)))
    (l_whole : K.lookup f_whole = some ⟨oc_whole, od_whole, .func (PySem.W.fnOf "kind_of_whole" "kind_of_whole" (defArgs sKindOfWhole) (defBody sKindOfWhole) (defScope sKindOfWhole) .none kV_whole dc_whole pm_whole an_whole cd_whole ct_whole), sl_whole⟩) (c_whole : PySem.W.codeIn K cd_whole "kind_of_whole" = true) (k_whole : PySem.W.keepIn K (.ref f_whole) = true)
    (a_one : PySem.W.nsIn K mainGlobals "kind_of_one" = some (some (.ref f_one)))
    (l_one : K.lookup f_one = some ⟨oc_one, od_one, .func (PySem.W.fnOf "kind_of_one" "kind_of_one" (defArgs sKindOfOne) (defBody sKindOfOne) (defScope sKindOfOne) .none kV_one dc_one pm_one an_one cd_one ct_one), sl_one⟩) (c_one : PySem.W.codeIn K cd_one "kind_of_one" = true) (k_one : PySem.W.keepIn K (.ref f_one) = true)
    (a_kc : PySem.W.nsIn K mainGlobals "kind_of_course" = some (some (.ref f_kc)))
    (l_kc : K.lookup f_kc = some ⟨oc_kc, od_kc, .func (PySem.W.fnOf "kind_of_course" "kind_of_course" (defArgs sKindOfCourse) (defBody sKindOfCourse) (defScope sKindOfCourse) .none kV_kc dc_kc pm_kc an_kc cd_kc ct_kc), sl_kc⟩) (c_kc : PySem.W.codeIn K cd_kc "kind_of_course" = true) (k_kc : PySem.W.keepIn K (.ref f_kc) = true)
    (a_meant : PySem.W.nsIn K mainGlobals "meant_by" = some (some (.ref f_meant)))
    (l_meant : K.lookup f_meant = some ⟨oc_meant, od_meant, .func (PySem.W.fnOf "meant_by" "meant_by" (defArgs sMeantBy) (defBody sMeantBy) (defScope sMeantBy) .none kV_meant dc_meant pm_meant an_meant cd_meant ct_meant), sl_meant⟩) (c_meant : PySem.W.codeIn K cd_meant "meant_by" = true) (k_meant : PySem.W.keepIn K (.ref f_meant) = true)
    (a_slipIn : PySem.W.nsIn K mainGlobals "slip_in" = some (some (.ref f_slipIn)))
    (l_slipIn : K.lookup f_slipIn = some ⟨oc_slipIn, od_slipIn, .func (PySem.W.fnOf "slip_in" "slip_in" (defArgs sSlipIn) (defBody sSlipIn) (defScope sSlipIn) .none kV_slipIn dc_slipIn pm_slipIn an_slipIn cd_slipIn ct_slipIn), sl_slipIn⟩) (c_slipIn : PySem.W.codeIn K cd_slipIn "slip_in" = true) (k_slipIn : PySem.W.keepIn K (.ref f_slipIn) = true)
    (a_slipsOf : PySem.W.nsIn K mainGlobals "slips_of" = some (some (.ref f_slipsOf)))
    (l_slipsOf : K.lookup f_slipsOf = some ⟨oc_slipsOf, od_slipsOf, .func (PySem.W.fnOf "slips_of" "slips_of" (defArgs sSlipsOf) (defBody sSlipsOf) (defScope sSlipsOf) .none kV_slipsOf dc_slipsOf pm_slipsOf an_slipsOf cd_slipsOf ct_slipsOf), sl_slipsOf⟩) (c_slipsOf : PySem.W.codeIn K cd_slipsOf "slips_of" = true) (k_slipsOf : PySem.W.keepIn K (.ref f_slipsOf) = true)
    (a_answered : PySem.W.nsIn K mainGlobals "answered" = some (some (.ref f_answered)))
    (l_answered : K.lookup f_answered = some ⟨oc_answered, od_answered, .func (PySem.W.fnOf "answered" "answered" (defArgs sAnswered) (defBody sAnswered) (defScope sAnswered) .none kV_answered dc_answered pm_answered an_answered cd_answered ct_answered), sl_answered⟩) (c_answered : PySem.W.codeIn K cd_answered "answered" = true) (k_answered : PySem.W.keepIn K (.ref f_answered) = true)
    (a_answers : PySem.W.nsIn K mainGlobals "answers" = some (some (.ref f_answers)))
    (l_answers : K.lookup f_answers = some ⟨oc_answers, od_answers, .func (PySem.W.fnOf "answers" "answers" (defArgs sAnswers) (defBody sAnswers) (defScope sAnswers) .none kV_answers dc_answers pm_answers an_answers cd_answers ct_answers), sl_answers⟩) (c_answers : PySem.W.codeIn K cd_answers "answers" = true) (k_answers : PySem.W.keepIn K (.ref f_answers) = true)
    (a_minit : PySem.W.findIn K (.ref C) "__init__" = some (some (.ref f_minit))) (i_minit : PySem.W.isFn K (.ref f_minit) = true)
    (l_minit : K.lookup f_minit = some ⟨oc_minit, od_minit, .func (PySem.W.fnOf "__init__" "Book.__init__" (defArgs sInit) (defBody sInit) (defScope sInit) .none kV_minit dc_minit pm_minit an_minit cd_minit ct_minit), sl_minit⟩) (c_minit : PySem.W.codeIn K cd_minit "Book.__init__" = true) (k_minit : PySem.W.keepIn K (.ref f_minit) = true)
    (a_mbegins : PySem.W.findIn K (.ref C) "begins" = some (some (.ref f_mbegins))) (i_mbegins : PySem.W.isFn K (.ref f_mbegins) = true)
    (l_mbegins : K.lookup f_mbegins = some ⟨oc_mbegins, od_mbegins, .func (PySem.W.fnOf "begins" "Book.begins" (defArgs sBegins) (defBody sBegins) (defScope sBegins) .none kV_mbegins dc_mbegins pm_mbegins an_mbegins cd_mbegins ct_mbegins), sl_mbegins⟩) (c_mbegins : PySem.W.codeIn K cd_mbegins "Book.begins" = true) (k_mbegins : PySem.W.keepIn K (.ref f_mbegins) = true)
    (a_mcourse : PySem.W.findIn K (.ref C) "course" = some (some (.ref f_mcourse))) (i_mcourse : PySem.W.isFn K (.ref f_mcourse) = true)
    (l_mcourse : K.lookup f_mcourse = some ⟨oc_mcourse, od_mcourse, .func (PySem.W.fnOf "course" "Book.course" (defArgs sCourse) (defBody sCourse) (defScope sCourse) .none kV_mcourse dc_mcourse pm_mcourse an_mcourse cd_mcourse ct_mcourse), sl_mcourse⟩) (c_mcourse : PySem.W.codeIn K cd_mcourse "Book.course" = true) (k_mcourse : PySem.W.keepIn K (.ref f_mcourse) = true)
    (a_mchange : PySem.W.findIn K (.ref C) "change" = some (some (.ref f_mchange))) (i_mchange : PySem.W.isFn K (.ref f_mchange) = true)
    (l_mchange : K.lookup f_mchange = some ⟨oc_mchange, od_mchange, .func (PySem.W.fnOf "change" "Book.change" (defArgs sChange) (defBody sChange) (defScope sChange) .none kV_mchange dc_mchange pm_mchange an_mchange cd_mchange ct_mchange), sl_mchange⟩) (c_mchange : PySem.W.codeIn K cd_mchange "Book.change" = true) (k_mchange : PySem.W.keepIn K (.ref f_mchange) = true)
    (a_mclose : PySem.W.findIn K (.ref C) "close" = some (some (.ref f_mclose))) (i_mclose : PySem.W.isFn K (.ref f_mclose) = true)
    (l_mclose : K.lookup f_mclose = some ⟨oc_mclose, od_mclose, .func (PySem.W.fnOf "close" "Book.close" (defArgs sClose) (defBody sClose) (defScope sClose) .none kV_mclose dc_mclose pm_mclose an_mclose cd_mclose ct_mclose), sl_mclose⟩) (c_mclose : PySem.W.codeIn K cd_mclose "Book.close" = true) (k_mclose : PySem.W.keepIn K (.ref f_mclose) = true)
    (a_mslips : PySem.W.findIn K (.ref C) "slips" = some (some (.ref f_mslips))) (i_mslips : PySem.W.isFn K (.ref f_mslips) = true)
    (l_mslips : K.lookup f_mslips = some ⟨oc_mslips, od_mslips, .func (PySem.W.fnOf "slips" "Book.slips" (defArgs sSlips) (defBody sSlips) (defScope sSlips) .none kV_mslips dc_mslips pm_mslips an_mslips cd_mslips ct_mslips), sl_mslips⟩) (c_mslips : PySem.W.codeIn K cd_mslips "Book.slips" = true) (k_mslips : PySem.W.keepIn K (.ref f_mslips) = true)
    (a_mspread : PySem.W.findIn K (.ref C) "spread" = some (some (.ref f_mspread))) (i_mspread : PySem.W.isFn K (.ref f_mspread) = true)
    (l_mspread : K.lookup f_mspread = some ⟨oc_mspread, od_mspread, .func (PySem.W.fnOf "spread" "Book.spread" (defArgs sSpread) (defBody sSpread) (defScope sSpread) .none kV_mspread dc_mspread pm_mspread an_mspread cd_mspread ct_mspread), sl_mspread⟩) (c_mspread : PySem.W.codeIn K cd_mspread "Book.spread" = true) (k_mspread : PySem.W.keepIn K (.ref f_mspread) = true)
    (a_marea : PySem.W.findIn K (.ref C) "area" = some (some (.ref f_marea))) (i_marea : PySem.W.isFn K (.ref f_marea) = true)
    (l_marea : K.lookup f_marea = some ⟨oc_marea, od_marea, .func (PySem.W.fnOf "area" "Book.area" (defArgs sArea) (defBody sArea) (defScope sArea) .none kV_marea dc_marea pm_marea an_marea cd_marea ct_marea), sl_marea⟩) (c_marea : PySem.W.codeIn K cd_marea "Book.area" = true) (k_marea : PySem.W.keepIn K (.ref f_marea) = true)
    (pg : PySem.W.plainGet K C Str.empty = true) (hd : PySem.W.hasDictIn K C = true) (po : PySem.W.plainOver K C = true) (sa : PySem.W.findIn K (.ref C) "__setattr__" = some (some (.builtin "object.__setattr__"))) (mk : PySem.W.makesIn K C = true) (kcl : PySem.W.keepIn K (.ref C) = true) (nC : PySem.W.findIn K (.ref C) "courses" = some none)
    (z_abs : PySem.W.nsIn K mainGlobals "abs" = some none)
    (z_len : PySem.W.nsIn K mainGlobals "len" = some none)
    (z_range : PySem.W.nsIn K mainGlobals "range" = some none)
    (z_enumerate : PySem.W.nsIn K mainGlobals "enumerate" = some none)
    (z_int : PySem.W.nsIn K mainGlobals "int" = some none)
    (v_MOST : PySem.W.nsIn K mainGlobals "MOST" = some (some (.int 99999 t_MOST)))
    (v_NO_SLIP : PySem.W.nsIn K mainGlobals "NO_SLIP" = some (some (.int 0 t_NO_SLIP)))
    (v_OTHER_SIGN : PySem.W.nsIn K mainGlobals "OTHER_SIGN" = some (some (.int 1 t_OTHER_SIGN)))
    (v_OTHER_DIGIT : PySem.W.nsIn K mainGlobals "OTHER_DIGIT" = some (some (.int 2 t_OTHER_DIGIT)))
    (v_OTHER_ORDER : PySem.W.nsIn K mainGlobals "OTHER_ORDER" = some (some (.int 3 t_OTHER_ORDER)))
    (v_EXCHANGED : PySem.W.nsIn K mainGlobals "EXCHANGED" = some (some (.int 4 t_EXCHANGED)))
    (v_BOTH_SIGNS : PySem.W.nsIn K mainGlobals "BOTH_SIGNS" = some (some (.int 5 t_BOTH_SIGNS)))
    (v_MOST_COURSES : PySem.W.nsIn K mainGlobals "MOST_COURSES" = some (some (.int 12 t_MOST_COURSES)))
    (v_BEYOND : PySem.W.nsIn K mainGlobals "BEYOND" = some (some (.int (-1) t_BEYOND)))
    (v_NO_COURSE : PySem.W.nsIn K mainGlobals "NO_COURSE" = some (some (.int (-2) t_NO_COURSE)))
    (v_FULL : PySem.W.nsIn K mainGlobals "FULL" = some (some (.int (-5) t_FULL)))
    (v_NOT_SO : PySem.W.nsIn K mainGlobals "NOT_SO" = some (some (.int (-6) t_NOT_SO)))
    (v_BEGINS : PySem.W.nsIn K mainGlobals "BEGINS" = some (some (.int 0 t_BEGINS)))
    (v_COURSE : PySem.W.nsIn K mainGlobals "COURSE" = some (some (.int 1 t_COURSE)))
    (v_CHANGE : PySem.W.nsIn K mainGlobals "CHANGE" = some (some (.int 2 t_CHANGE)))
    (v_CLOSE : PySem.W.nsIn K mainGlobals "CLOSE" = some (some (.int 3 t_CLOSE)))
    (v_SLIPS : PySem.W.nsIn K mainGlobals "SLIPS" = some (some (.int 4 t_SLIPS)))
    (v_SPREAD : PySem.W.nsIn K mainGlobals "SPREAD" = some (some (.int 5 t_SPREAD)))
    (v_SIZES : PySem.W.nsIn K mainGlobals "SIZES" = some (some (.ref aS))) (l_SIZES : K.lookup aS = some ⟨.type "tuple", odS, .seq #[.int 0 q0, .int 2 q1, .int 3 q2, .int 0 q3, .int 0 q4, .int 0 q5, .int 0 q6] nS, slS⟩) :
    ∃ fd : FuncData, (∀ (s : Shared) (us : List Value), us.length = (["calls"] : List Str).length → BindsTo s fd ⟨us, []⟩ ((["calls"] : List Str).zip us)) ∧ ∀ base : Heap, K.In base → base.Ns mainGlobals mg → FnOk P w K mg base CX0 12 fa fd ["calls"] (spAns K) := by
  have e := hfa.symm.trans (PySem.W.mg_of X G a_answers)
  cases e
  have T : Txt K mg C := ⟨⟨pg, hd, po, sa⟩, nC, PySem.W.mg_of X G aC, PySem.W.mg_none_of X G z_abs, PySem.W.mg_none_of X G z_len, PySem.W.mg_none_of X G z_range, PySem.W.mg_none_of X G z_enumerate, PySem.W.mg_none_of X G z_int, ⟨_, PySem.W.mg_of X G v_MOST, _, rfl⟩, ⟨_, PySem.W.mg_of X G v_NO_SLIP, _, rfl⟩, ⟨_, PySem.W.mg_of X G v_OTHER_SIGN, _, rfl⟩, ⟨_, PySem.W.mg_of X G v_OTHER_DIGIT, _, rfl⟩, ⟨_, PySem.W.mg_of X G v_OTHER_ORDER, _, rfl⟩, ⟨_, PySem.W.mg_of X G v_EXCHANGED, _, rfl⟩, ⟨_, PySem.W.mg_of X G v_BOTH_SIGNS, _, rfl⟩, ⟨_, PySem.W.mg_of X G v_MOST_COURSES, _, rfl⟩, ⟨_, PySem.W.mg_of X G v_BEYOND, _, rfl⟩, ⟨_, PySem.W.mg_of X G v_NO_COURSE, _, rfl⟩, ⟨_, PySem.W.mg_of X G v_FULL, _, rfl⟩, ⟨_, PySem.W.mg_of X G v_NOT_SO, _, rfl⟩, ⟨_, PySem.W.mg_of X G v_BEGINS, _, rfl⟩, ⟨_, PySem.W.mg_of X G v_COURSE, _, rfl⟩, ⟨_, PySem.W.mg_of X G v_CHANGE, _, rfl⟩, ⟨_, PySem.W.mg_of X G v_CLOSE, _, rfl⟩, ⟨_, PySem.W.mg_of X G v_SLIPS, _, rfl⟩, ⟨_, PySem.W.mg_of X G v_SPREAD, _, rfl⟩,
    ⟨aS, ⟨_, PySem.W.mg_of X G v_SIZES, rfl⟩, fun H => .inr ⟨_, _, nS, l_SIZES, rfl, rfl, (by show 7 ≤ sizeLine; decide), .cons ⟨_, rfl⟩ (.cons ⟨_, rfl⟩ (.cons ⟨_, rfl⟩ (.cons ⟨_, rfl⟩ (.cons ⟨_, rfl⟩ (.cons ⟨_, rfl⟩ (.cons ⟨_, rfl⟩ (.nil)))))))⟩⟩⟩
  have F_isC := fun_mk (st := sIsCourse) l_isC c_isC k_isC
  have b_isC := F_isC.binds (ps := ["east", "north"]) fun _ _ _ _ _ _ us hl => match us, hl with | [_, _], _ => rfl
  have F_off := fun_mk (st := sOffOf) l_off c_off k_off
  have b_off := F_off.binds (ps := ["courses"]) fun _ _ _ _ _ _ us hl => match us, hl with | [_], _ => rfl
  have F_closes := fun_mk (st := sCloses) l_closes c_closes k_closes
  have b_closes := F_closes.binds (ps := ["courses"]) fun _ _ _ _ _ _ us hl => match us, hl with | [_], _ => rfl
  have F_count := fun_mk (st := sCountOf) l_count c_count k_count
  have b_count := F_count.binds (ps := ["course"]) fun _ _ _ _ _ _ us hl => match us, hl with | [_], _ => rfl
  have F_length := fun_mk (st := sLengthOf) l_length c_length k_length
  have b_length := F_length.binds (ps := ["courses"]) fun _ _ _ _ _ _ us hl => match us, hl with | [_], _ => rfl
  have F_sprC := fun_mk (st := sSpreadCourse) l_sprC c_sprC k_sprC
  have b_sprC := F_sprC.binds (ps := ["course", "length", "off"]) fun _ _ _ _ _ _ us hl => match us, hl with | [_, _, _], _ => rfl
  have F_sprO := fun_mk (st := sSpreadOf) l_sprO c_sprO k_sprO
  have b_sprO := F_sprO.binds (ps := ["courses"]) fun _ _ _ _ _ _ us hl => match us, hl with | [_], _ => rfl
  have F_twice := fun_mk (st := sTwiceArea) l_twice c_twice k_twice
  have b_twice := F_twice.binds (ps := ["courses"]) fun _ _ _ _ _ _ us hl => match us, hl with | [_], _ => rfl
  have F_digits := fun_mk (st := sDigitsOf) l_digits c_digits k_digits
  have b_digits := F_digits.binds (ps := ["number"]) fun _ _ _ _ _ _ us hl => match us, hl with | [_], _ => rfl
  have F_written := fun_mk (st := sWritten) l_written c_written k_written
  have b_written := F_written.binds (ps := ["number"]) fun _ _ _ _ _ _ us hl => match us, hl with | [_], _ => rfl
  have F_places := fun_mk (st := sPlacesUnlike) l_places c_places k_places
  have b_places := F_places.binds (ps := ["one", "other"]) fun _ _ _ _ _ _ us hl => match us, hl with | [_, _], _ => rfl
  have F_same := fun_mk (st := sSameSide) l_same c_same k_same
  have b_same := F_same.binds (ps := ["one", "other"]) fun _ _ _ _ _ _ us hl => match us, hl with | [_, _], _ => rfl
  have F_sign := fun_mk (st := sIsOtherSign) l_sign c_sign k_sign
  have b_sign := F_sign.binds (ps := ["one", "other"]) fun _ _ _ _ _ _ us hl => match us, hl with | [_, _], _ => rfl
  have F_many := fun_mk (st := sAsManyDigits) l_many c_many k_many
  have b_many := F_many.binds (ps := ["one", "other"]) fun _ _ _ _ _ _ us hl => match us, hl with | [_, _], _ => rfl
  have F_digit := fun_mk (st := sIsOtherDigit) l_digit c_digit k_digit
  have b_digit := F_digit.binds (ps := ["one", "other"]) fun _ _ _ _ _ _ us hl => match us, hl with | [_, _], _ => rfl
  have F_exch := fun_mk (st := sAreExchanged) l_exch c_exch k_exch
  have b_exch := F_exch.binds (ps := ["one", "other", "place"]) fun _ _ _ _ _ _ us hl => match us, hl with | [_, _, _], _ => rfl
  have F_order := fun_mk (st := sIsOtherOrder) l_order c_order k_order
  have b_order := F_order.binds (ps := ["one", "other"]) fun _ _ _ _ _ _ us hl => match us, hl with | [_, _], _ => rfl
  have F_num := fun_mk (st := sKindOfNumber) l_num c_num k_num
  have b_num := F_num.binds (ps := ["one", "other"]) fun _ _ _ _ _ _ us hl => match us, hl with | [_, _], _ => rfl
  have F_whole := fun_mk (st := sKindOfWhole) l_whole c_whole k_whole
  have b_whole := F_whole.binds (ps := ["one", "other"]) fun _ _ _ _ _ _ us hl => match us, hl with | [_, _], _ => rfl
  have F_one := fun_mk (st := sKindOfOne) l_one c_one k_one
  have b_one := F_one.binds (ps := ["one", "other"]) fun _ _ _ _ _ _ us hl => match us, hl with | [_, _], _ => rfl
  have F_kc := fun_mk (st := sKindOfCourse) l_kc c_kc k_kc
  have b_kc := F_kc.binds (ps := ["one", "other"]) fun _ _ _ _ _ _ us hl => match us, hl with | [_, _], _ => rfl
  have F_meant := fun_mk (st := sMeantBy) l_meant c_meant k_meant
  have b_meant := F_meant.binds (ps := ["course", "off"]) fun _ _ _ _ _ _ us hl => match us, hl with | [_, _], _ => rfl
  have F_slipIn := fun_mk (st := sSlipIn) l_slipIn c_slipIn k_slipIn
  have b_slipIn := F_slipIn.binds (ps := ["number", "course", "off"]) fun _ _ _ _ _ _ us hl => match us, hl with | [_, _, _], _ => rfl
  have F_slipsOf := fun_mk (st := sSlipsOf) l_slipsOf c_slipsOf k_slipsOf
  have b_slipsOf := F_slipsOf.binds (ps := ["courses"]) fun _ _ _ _ _ _ us hl => match us, hl with | [_], _ => rfl
  have F_answered := fun_mk (st := sAnswered) l_answered c_answered k_answered
  have b_answered := F_answered.binds (ps := ["book", "call", "given"]) fun _ _ _ _ _ _ us hl => match us, hl with | [_, _, _], _ => rfl
  have F_answers := fun_mk (st := sAnswers) l_answers c_answers k_answers
  have b_answers := F_answers.binds (ps := ["calls"]) fun _ _ _ _ _ _ us hl => match us, hl with | [_], _ => rfl
  have F_minit := fun_mk (st := sInit) l_minit c_minit k_minit
  have b_minit := F_minit.binds (ps := ["self"]) fun _ _ _ _ _ _ us hl => match us, hl with | [_], _ => rfl
  have F_mbegins := fun_mk (st := sBegins) l_mbegins c_mbegins k_mbegins
  have b_mbegins := F_mbegins.binds (ps := ["self"]) fun _ _ _ _ _ _ us hl => match us, hl with | [_], _ => rfl
  have F_mcourse := fun_mk (st := sCourse) l_mcourse c_mcourse k_mcourse
  have b_mcourse := F_mcourse.binds (ps := ["self", "east", "north"]) fun _ _ _ _ _ _ us hl => match us, hl with | [_, _, _], _ => rfl
  have F_mchange := fun_mk (st := sChange) l_mchange c_mchange k_mchange
  have b_mchange := F_mchange.binds (ps := ["self", "number", "east", "north"]) fun _ _ _ _ _ _ us hl => match us, hl with | [_, _, _, _], _ => rfl
  have F_mclose := fun_mk (st := sClose) l_mclose c_mclose k_mclose
  have b_mclose := F_mclose.binds (ps := ["self"]) fun _ _ _ _ _ _ us hl => match us, hl with | [_], _ => rfl
  have F_mslips := fun_mk (st := sSlips) l_mslips c_mslips k_mslips
  have b_mslips := F_mslips.binds (ps := ["self"]) fun _ _ _ _ _ _ us hl => match us, hl with | [_], _ => rfl
  have F_mspread := fun_mk (st := sSpread) l_mspread c_mspread k_mspread
  have b_mspread := F_mspread.binds (ps := ["self"]) fun _ _ _ _ _ _ us hl => match us, hl with | [_], _ => rfl
  have F_marea := fun_mk (st := sArea) l_marea c_marea k_marea
  have b_marea := F_marea.binds (ps := ["self"]) fun _ _ _ _ _ _ us hl => match us, hl with | [_], _ => rfl
  refine ⟨PySem.W.fnOf "answers" "answers" (defArgs sAnswers) (defBody sAnswers) (defScope sAnswers) .none kV_answers dc_answers pm_answers an_answers cd_answers ct_answers, fun s us hu => match us, hu with | [_], _ => .of_eq rfl, fun base _ _ => ?_⟩
  have C_isC : Callee P w K mg base 1 "is_course" ["east", "north"] spIsC := ⟨_, _, PySem.W.mg_of X G a_isC, k_isC, b_isC, ok_isC F_isC T⟩
  have C_off : Callee P w K mg base 1 "off_of" ["courses"] spOff := ⟨_, _, PySem.W.mg_of X G a_off, k_off, b_off, ok_off F_off T⟩
  have C_closes : Callee P w K mg base 2 "closes" ["courses"] spCloses := ⟨_, _, PySem.W.mg_of X G a_closes, k_closes, b_closes, ok_closes F_closes T C_off⟩
  have C_count : Callee P w K mg base 1 "count_of" ["course"] spCount := ⟨_, _, PySem.W.mg_of X G a_count, k_count, b_count, ok_count F_count T⟩
  have C_length : Callee P w K mg base 2 "length_of" ["courses"] spLength := ⟨_, _, PySem.W.mg_of X G a_length, k_length, b_length, ok_length F_length T C_count⟩
  have C_sprC : Callee P w K mg base 2 "spread_course" ["course", "length", "off"] spSprC := ⟨_, _, PySem.W.mg_of X G a_sprC, k_sprC, b_sprC, ok_sprC F_sprC T C_count⟩
  have C_sprO : Callee P w K mg base 3 "spread_of" ["courses"] spSpread := ⟨_, _, PySem.W.mg_of X G a_sprO, k_sprO, b_sprO, ok_sprO F_sprO T C_length C_off C_sprC⟩
  have C_twice : Callee P w K mg base 1 "twice_area" ["courses"] spTwice := ⟨_, _, PySem.W.mg_of X G a_twice, k_twice, b_twice, ok_twice F_twice T⟩
  have C_digits : Callee P w K mg base 1 "digits_of" ["number"] spDigits := ⟨_, _, PySem.W.mg_of X G a_digits, k_digits, b_digits, ok_digits F_digits T⟩
  have C_written : Callee P w K mg base 2 "written" ["number"] spWritten := ⟨_, _, PySem.W.mg_of X G a_written, k_written, b_written, ok_written F_written T C_digits⟩
  have C_places : Callee P w K mg base 1 "places_unlike" ["one", "other"] spPlaces := ⟨_, _, PySem.W.mg_of X G a_places, k_places, b_places, ok_places F_places T⟩
  have C_same : Callee P w K mg base 1 "same_side" ["one", "other"] spSame := ⟨_, _, PySem.W.mg_of X G a_same, k_same, b_same, ok_same F_same T⟩
  have C_sign : Callee P w K mg base 1 "is_other_sign" ["one", "other"] spSign := ⟨_, _, PySem.W.mg_of X G a_sign, k_sign, b_sign, ok_sign F_sign T⟩
  have C_many : Callee P w K mg base 3 "as_many_digits" ["one", "other"] (sp2 fun x y => .bl (amd x y)) := ⟨_, _, PySem.W.mg_of X G a_many, k_many, b_many, ok_many F_many T C_same C_written⟩
  have C_digit : Callee P w K mg base 4 "is_other_digit" ["one", "other"] (sp2 fun x y => .bl (dgB x y)) := ⟨_, _, PySem.W.mg_of X G a_digit, k_digit, b_digit, ok_digit F_digit T C_many C_written C_places⟩
  have C_exch : Callee P w K mg base 1 "are_exchanged" ["one", "other", "place"] spExch := ⟨_, _, PySem.W.mg_of X G a_exch, k_exch, b_exch, ok_exch F_exch T⟩
  have C_order : Callee P w K mg base 4 "is_other_order" ["one", "other"] (sp2 fun x y => .bl (odB x y)) := ⟨_, _, PySem.W.mg_of X G a_order, k_order, b_order, ok_order F_order T C_many C_written C_places C_exch⟩
  have C_num : Callee P w K mg base 5 "kind_of_number" ["one", "other"] (sp2 fun x y => .int (kn x y)) := ⟨_, _, PySem.W.mg_of X G a_num, k_num, b_num, ok_num F_num T C_sign C_digit C_order⟩
  have C_whole : Callee P w K mg base 1 "kind_of_whole" ["one", "other"] (spC2 fun m c => .int (kw m c)) := ⟨_, _, PySem.W.mg_of X G a_whole, k_whole, b_whole, ok_whole F_whole T⟩
  have C_one : Callee P w K mg base 6 "kind_of_one" ["one", "other"] (spC2 fun m c => .int (k1 m c)) := ⟨_, _, PySem.W.mg_of X G a_one, k_one, b_one, ok_one F_one T C_num⟩
  have C_kc : Callee P w K mg base 7 "kind_of_course" ["one", "other"] (spC2 fun m c => .int (kc m c)) := ⟨_, _, PySem.W.mg_of X G a_kc, k_kc, b_kc, ok_kc F_kc T C_one C_whole⟩
  have C_meant : Callee P w K mg base 1 "meant_by" ["course", "off"] spMeant := ⟨_, _, PySem.W.mg_of X G a_meant, k_meant, b_meant, ok_meant F_meant T⟩
  have C_slipIn : Callee P w K mg base 8 "slip_in" ["number", "course", "off"] spSlipIn := ⟨_, _, PySem.W.mg_of X G a_slipIn, k_slipIn, b_slipIn, ok_slipIn F_slipIn T C_meant C_kc⟩
  have C_slipsOf : Callee P w K mg base 9 "slips_of" ["courses"] spSlipsOf := ⟨_, _, PySem.W.mg_of X G a_slipsOf, k_slipsOf, b_slipsOf, ok_slipsOf F_slipsOf T C_off C_slipIn⟩
  have M_begins : MCallee P w K mg base C 1 "begins" ["self"] (spM0 C .begins) := ⟨_, _, ⟨a_mbegins, i_mbegins, k_mbegins⟩, b_mbegins, ok_begins F_mbegins T⟩
  have M_course : MCallee P w K mg base C 2 "course" ["self", "east", "north"] (spCourse C) := ⟨_, _, ⟨a_mcourse, i_mcourse, k_mcourse⟩, b_mcourse, ok_course F_mcourse T C_isC⟩
  have M_change : MCallee P w K mg base C 2 "change" ["self", "number", "east", "north"] (spChange C) := ⟨_, _, ⟨a_mchange, i_mchange, k_mchange⟩, b_mchange, ok_change F_mchange T C_isC⟩
  have M_close : MCallee P w K mg base C 2 "close" ["self"] (spM0 C .close) := ⟨_, _, ⟨a_mclose, i_mclose, k_mclose⟩, b_mclose, ok_close F_mclose T C_off⟩
  have M_slips : MCallee P w K mg base C 10 "slips" ["self"] (spM0 C .slips) := ⟨_, _, ⟨a_mslips, i_mslips, k_mslips⟩, b_mslips, ok_slips F_mslips T C_slipsOf⟩
  have M_spread : MCallee P w K mg base C 4 "spread" ["self"] (spM0 C .spread) := ⟨_, _, ⟨a_mspread, i_mspread, k_mspread⟩, b_mspread, ok_spread F_mspread T C_length C_sprO⟩
  have M_area : MCallee P w K mg base C 3 "area" ["self"] (spM0 C .area) := ⟨_, _, ⟨a_marea, i_marea, k_marea⟩, b_marea, ok_area F_marea T C_closes C_twice⟩
  have C_answered : Callee P w K mg base 11 "answered" ["book", "call", "given"] (spAnswered C) := ⟨_, _, PySem.W.mg_of X G a_answered, k_answered, b_answered, ok_answered F_answered T M_begins M_course M_change M_close M_slips M_spread M_area⟩
  exact ok_answers F_answers T ⟨mk, a_minit, i_minit, kcl⟩ (ok_init F_minit T) b_minit C_answered
end Fs
open PySem PySem.W PyProof.Rows
set_option maxRecDepth 100000 in
set_option maxHeartbeats 8000000 in
theorem PySem.Challenge.cw_fieldslips_s01_answers_holds : PySem.Challenge.rw_fieldslips_s01_answers.Holds := by
  w_on; k_headS; (case hw => exact ⟨[.list [.int 0]], by decide +kernel, by decide +kernel⟩)
  k_fillS
  refine L2.walk_specK (r := PySem.Challenge.rw_fieldslips_s01_answers) (k := 12) (CX := L2.CX0) (ps := ["calls"]) (sp := Fs.spAns) (by decide +kernel) rfl rfl ⟨rfl, by decide, by decide⟩ (fun w h Y => PySem.W.kIn_of Y) ?F ?S (fun _ _ _ _ z => z)
  case F =>
    intro w mg fa h Y KX G hmg
    refine' Fs.all_mk KX G hmg ?aC ?a_isC ?l_isC ?c_isC ?k_isC ?a_off ?l_off ?c_off ?k_off ?a_closes ?l_closes ?c_closes ?k_closes ?a_count ?l_count ?c_count ?k_count ?a_length ?l_length ?c_length ?k_length ?a_sprC ?l_sprC ?c_sprC ?k_sprC ?a_sprO ?l_sprO ?c_sprO ?k_sprO ?a_twice ?l_twice ?c_twice ?k_twice ?a_digits ?l_digits ?c_digits ?k_digits ?a_written ?l_written ?c_written ?k_written ?a_places ?l_places ?c_places ?k_places ?a_same ?l_same ?c_same ?k_same ?a_sign ?l_sign ?c_sign ?k_sign ?a_many ?l_many ?c_many ?k_many ?a_digit ?l_digit ?c_digit ?k_digit ?a_exch ?l_exch ?c_exch ?k_exch ?a_order ?l_order ?c_order ?k_order ?a_num ?l_num ?c_num ?k_num ?a_whole ?l_whole ?c_whole ?k_whole ?a_one ?l_one ?c_one ?k_one ?a_kc ?l_kc ?c_kc ?k_kc ?a_meant ?l_meant ?c_meant ?k_meant ?a_slipIn ?l_slipIn ?c_slipIn ?k_slipIn ?a_slipsOf ?l_slipsOf ?c_slipsOf ?k_slipsOf ?a_answered ?l_answered ?c_answered ?k_answered ?a_answers ?l_answers ?c_answers ?k_answers ?a_minit ?i_minit ?l_minit ?c_minit ?k_minit ?a_mbegins ?i_mbegins ?l_mbegins ?c_mbegins ?k_mbegins ?a_mcourse ?i_mcourse ?l_mcourse ?c_mcourse ?k_mcourse ?a_mchange ?i_mchange ?l_mchange ?c_mchange ?k_mchange ?a_mclose ?i_mclose ?l_mclose ?c_mclose ?k_mclose ?a_mslips ?i_mslips ?l_mslips ?c_mslips ?k_mslips ?a_mspread ?i_mspread ?l_mspread ?c_mspread ?k_mspread ?a_marea ?i_marea ?l_marea ?c_marea ?k_marea ?pg ?hd ?po ?sa ?mk ?kcl ?nC ?z_abs ?z_len ?z_range ?z_enumerate ?z_int ?v_MOST ?v_NO_SLIP ?v_OTHER_SIGN ?v_OTHER_DIGIT ?v_OTHER_ORDER ?v_EXCHANGED ?v_BOTH_SIGNS ?v_MOST_COURSES ?v_BEYOND ?v_NO_COURSE ?v_FULL ?v_NOT_SO ?v_BEGINS ?v_COURSE ?v_CHANGE ?v_CLOSE ?v_SLIPS ?v_SPREAD ?v_SIZES ?l_SIZES
    (case aC => k_is)
    (case a_isC => k_is)
    (case l_isC => k_is)
    (case c_isC => k_is)
    (case k_isC => k_is)
    (case a_off => k_is)
    (case l_off => k_is)
    (case c_off => k_is)
    (case k_off => k_is)
    (case a_closes => k_is)
    (case l_closes => k_is)
    (case c_closes => k_is)
    (case k_closes => k_is)
    (case a_count => k_is)
    (case l_count => k_is)
    (case c_count => k_is)
    (case k_count => k_is)
    (case a_length => k_is)
    (case l_length => k_is)
    (case c_length => k_is)
    (case k_length => k_is)
    (case a_sprC => k_is)
    (case l_sprC => k_is)
    (case c_sprC => k_is)
    (case k_sprC => k_is)
    (case a_sprO => k_is)
    (case l_sprO => k_is)
    (case c_sprO => k_is)
    (case k_sprO => k_is)
    (case a_twice => k_is)
    (case l_twice => k_is)
    (case c_twice => k_is)
    (case k_twice => k_is)
    (case a_digits => k_is)
    (case l_digits => k_is)
    (case c_digits => k_is)
    (case k_digits => k_is)
    (case a_written => k_is)
    (case l_written => k_is)
    (case c_written => k_is)
    (case k_written => k_is)
    (case a_places => k_is)
    (case l_places => k_is)
    (case c_places => k_is)
    (case k_places => k_is)
    (case a_same => k_is)
    (case l_same => k_is)
    (case c_same => k_is)
    (case k_same => k_is)
    (case a_sign => k_is)
    (case l_sign => k_is)
    (case c_sign => k_is)
    (case k_sign => k_is)
    (case a_many => k_is)
    (case l_many => k_is)
    (case c_many => k_is)
    (case k_many => k_is)
    (case a_digit => k_is)
    (case l_digit => k_is)
    (case c_digit => k_is)
    (case k_digit => k_is)
    (case a_exch => k_is)
    (case l_exch => k_is)
    (case c_exch => k_is)
    (case k_exch => k_is)
    (case a_order => k_is)
    (case l_order => k_is)
    (case c_order => k_is)
    (case k_order => k_is)
    (case a_num => k_is)
    (case l_num => k_is)
    (case c_num => k_is)
    (case k_num => k_is)
    (case a_whole => k_is)
    (case l_whole => k_is)
    (case c_whole => k_is)
    (case k_whole => k_is)
    (case a_one => k_is)
    (case l_one => k_is)
    (case c_one => k_is)
    (case k_one => k_is)
    (case a_kc => k_is)
    (case l_kc => k_is)
    (case c_kc => k_is)
    (case k_kc => k_is)
    (case a_meant => k_is)
    (case l_meant => k_is)
    (case c_meant => k_is)
    (case k_meant => k_is)
    (case a_slipIn => k_is)
    (case l_slipIn => k_is)
    (case c_slipIn => k_is)
    (case k_slipIn => k_is)
    (case a_slipsOf => k_is)
    (case l_slipsOf => k_is)
    (case c_slipsOf => k_is)
    (case k_slipsOf => k_is)
    (case a_answered => k_is)
    (case l_answered => k_is)
    (case c_answered => k_is)
    (case k_answered => k_is)
    (case a_answers => k_is)
    (case l_answers => k_is)
    (case c_answers => k_is)
    (case k_answers => k_is)
    (case a_minit => k_is)
    (case i_minit => k_is)
    (case l_minit => k_is)
    (case c_minit => k_is)
    (case k_minit => k_is)
    (case a_mbegins => k_is)
    (case i_mbegins => k_is)
    (case l_mbegins => k_is)
    (case c_mbegins => k_is)
    (case k_mbegins => k_is)
    (case a_mcourse => k_is)
    (case i_mcourse => k_is)
    (case l_mcourse => k_is)
    (case c_mcourse => k_is)
    (case k_mcourse => k_is)
    (case a_mchange => k_is)
    (case i_mchange => k_is)
    (case l_mchange => k_is)
    (case c_mchange => k_is)
    (case k_mchange => k_is)
    (case a_mclose => k_is)
    (case i_mclose => k_is)
    (case l_mclose => k_is)
    (case c_mclose => k_is)
    (case k_mclose => k_is)
    (case a_mslips => k_is)
    (case i_mslips => k_is)
    (case l_mslips => k_is)
    (case c_mslips => k_is)
    (case k_mslips => k_is)
    (case a_mspread => k_is)
    (case i_mspread => k_is)
    (case l_mspread => k_is)
    (case c_mspread => k_is)
    (case k_mspread => k_is)
    (case a_marea => k_is)
    (case i_marea => k_is)
    (case l_marea => k_is)
    (case c_marea => k_is)
    (case k_marea => k_is)
    (case pg => k_is)
    (case hd => k_is)
    (case po => k_is)
    (case sa => k_is)
    (case mk => k_is)
    (case kcl => k_is)
    (case nC => k_is)
    (case z_abs => k_is)
    (case z_len => k_is)
    (case z_range => k_is)
    (case z_enumerate => k_is)
    (case z_int => k_is)
    (case v_MOST => k_is)
    (case v_NO_SLIP => k_is)
    (case v_OTHER_SIGN => k_is)
    (case v_OTHER_DIGIT => k_is)
    (case v_OTHER_ORDER => k_is)
    (case v_EXCHANGED => k_is)
    (case v_BOTH_SIGNS => k_is)
    (case v_MOST_COURSES => k_is)
    (case v_BEYOND => k_is)
    (case v_NO_COURSE => k_is)
    (case v_FULL => k_is)
    (case v_NOT_SO => k_is)
    (case v_BEGINS => k_is)
    (case v_COURSE => k_is)
    (case v_CHANGE => k_is)
    (case v_CLOSE => k_is)
    (case v_SLIPS => k_is)
    (case v_SPREAD => k_is)
    (case v_SIZES => k_is)
    (case l_SIZES => k_is)
  case S =>
    intro K H xs a hO hwi hask hx
    cases hx with
    | cons h1 h2 =>
      cases h2
      cases h1 with
      | lst hs ha =>
        have e := L2.ints_dw a.1 _ ha
        subst e
        have q : ((Codec.inLen 0 2000 a.1 && a.1.all (Codec.inInt (-2147483648) 4294967295)) && true) = true := hwi
        rw [Bool.and_eq_true, Bool.and_eq_true] at q
        exact ⟨_, a.1, rfl, hs, hask, (Codec.inNat_iff.mp q.1.1).2, fun H' p hp => .lst (L2.SqL.of hp) (L2.dw_ints _)⟩
#print axioms PySem.Challenge.cw_fieldslips_s01_answers_holds
