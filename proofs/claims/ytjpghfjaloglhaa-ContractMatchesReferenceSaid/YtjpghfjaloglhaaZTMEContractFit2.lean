import Derived.Test.YtjpghfjaloglhaaZTMQuotM
import Derived.Test.YtjpghfjaloglhaaZTMPContractx0
import Derived.Test.YtjpghfjaloglhaaZTMPContractx3
import Derived.Test.YtjpghfjaloglhaaZTMPContractx4
import Derived.Test.YtjpghfjaloglhaaZTMPContractx5
/-
What fitting and the comparing closure of quot.Fit compute, in plain terms.
Conditions: coordinates, a D from 1 to 16, at most 4000 values.
-/
namespace Go.Proofs.Ytjpghfjaloglhaa.PContract
open Go.RowKit Go.Proofs.YtjpghfjaloglhaaW.PrintWords
theorem wrap_in {x : Int} (h1 : -9223372036854775808 ≤ x) (h2 : x ≤ 9223372036854775807) : wrap64 x = x := by unfold wrap64; omega
theorem mx_max (a b : Int) : mx a b = max a b := by unfold mx; omega
theorem mn_min (a b : Int) : mn a b = min a b := by unfold mn; omega
theorem mul_le {a b A B : Int} (h1 : -A ≤ a) (h2 : a ≤ A) (h3 : -B ≤ b) (h4 : b ≤ B) : -(A * B) ≤ a * b ∧ a * b ≤ A * B := by
 have hA : 0 ≤ A := by omega
 have hB : 0 ≤ B := by omega
 rcases Int.le_total 0 a with ha | ha
 ·have h5 : a * b ≤ a * B := Int.mul_le_mul_of_nonneg_left h4 ha
  have h6 : a * B ≤ A * B := Int.mul_le_mul_of_nonneg_right h2 hB
  have h7 : a * (-B) ≤ a * b := Int.mul_le_mul_of_nonneg_left h3 ha
  rw [Int.mul_neg] at h7
  omega
 ·have h5 : (-a) * b ≤ (-a) * B := Int.mul_le_mul_of_nonneg_left h4 (by omega)
  have h6 : (-a) * B ≤ A * B := Int.mul_le_mul_of_nonneg_right (by omega) hB
  have h7 : (-a) * (-B) ≤ (-a) * b := Int.mul_le_mul_of_nonneg_left h3 (by omega)
  rw [Int.mul_neg] at h7
  rw [Int.neg_mul] at h5 h6 h7
  rw [Int.neg_mul] at h5 h7
  omega
theorem rd_drop {l : List Int} {i : Nat} (h : i < l.length) : l.drop i = rd l i :: l.drop (i + 1) := by
 unfold rd
 rw [List.drop_eq_getElem_cons h]
 simp [h]
theorem rd_mem {l : List Int} {i : Nat} (h : i < l.length) : rd l i ∈ l := by
 unfold rd
 simp [List.getD_eq_getElem?_getD, h]
def fitRes (a d : Int) (p : Int × Int) : Int × Int × Int × Bool := if p.1 ≤ p.2 then (a, p.1, d, true) else (0, 0, 0, false)
theorem fitting_l0 (l : List Int) (a d : Int) (ha : Q.Coord a) (hd : 1 ≤ d ∧ d ≤ 16) (hl : l.length ≤ 4000) (hco : ∀ x ∈ l, Q.Coord x) :
  ∀ (m k i : Nat) (lo hi : Int), i + m = l.length → m < k → -100000000000000 ≤ lo ∧ lo ≤ 100000000000000 ∧ -100000000000000 ≤ hi ∧ hi ≤ 100000000000000 → lo ≤ hi →
  quot_fitting.l0 k lo hi l (l.length : Int) (i : Int) a 0 d =
   some (fitRes a d (Q.lohi a d i (lo, hi) (l.drop i)))
 | 0, k, i, lo, hi, hm, hk, hb, hle => by
  obtain ⟨k, rfl⟩ : ∃ m, k = m + 1 := ⟨k - 1, by omega⟩
  have e : l.drop i = [] := List.drop_eq_nil_of_le (by omega)
  rw [e]
  simp only [Q.lohi]
  unfold quot_fitting.l0
  rw [if_neg (by omega)]
  simp [fitRes, hle]
 | m + 1, k, i, lo, hi, hm, hk, hb, hle => by
  obtain ⟨k, rfl⟩ : ∃ m, k = m + 1 := ⟨k - 1, by omega⟩
  have hi1 : i < l.length := by omega
  rw [rd_drop hi1]
  have hv := hco _ (rd_mem hi1)
  simp only [Q.lohi]
  unfold quot_fitting.l0
  rw [if_pos (by omega), if_pos (by omega), if_pos (by omega)]
  generalize rd l (i : Int) = v at *
  obtain ⟨v1, v2⟩ := hv
  obtain ⟨a1, a2⟩ := ha
  have p1 := mul_le (a := d) (b := v) (A := 16) (B := 1000000000) (by omega) (by omega) (by omega) (by omega)
  have p2 := mul_le (a := a) (b := (i : Int)) (A := 1000000000) (B := 4000) (by omega) (by omega) (by omega) (by omega)
  rw [wrap_in (x := d * v) (by omega) (by omega), wrap_in (x := a * (i : Int)) (by omega) (by omega), wrap_in (x := d * v - a * (i : Int)) (by omega) (by omega),
   wrap_in (x := d * v - a * (i : Int) + d) (by omega) (by omega), wrap_in (x := d * v - a * (i : Int) + d - 1) (by omega) (by omega), wrap_in (x := (i : Int) + 1) (by omega) (by omega), mx_max, mn_min]
  by_cases c : max lo (d * v - a * (i : Int)) > min hi (d * v - a * (i : Int) + d - 1)
  ·rw [if_pos c]
   have hmo := Q.lohi_mono a d (l.drop (i + 1)) ((i : Int) + 1) (max lo (d * v - a * (i : Int)), min hi (d * v - a * (i : Int) + d - 1))
   unfold fitRes
   rw [if_neg (by simp only at hmo; omega)]
  ·rw [if_neg c]
   have e1 : (i : Int) + 1 = ((i + 1 : Nat) : Int) := by omega
   rw [e1]
   exact fitting_l0 l a d ⟨a1, a2⟩ hd hl hco m k (i + 1) _ _ (by omega) (by omega) (by omega) (by omega)
theorem fitting_f (l : List Int) (a d : Int) (ha : Q.Coord a) (hd : 1 ≤ d ∧ d ≤ 16) (hl : l.length ≤ 4000) (hco : ∀ x ∈ l, Q.Coord x) :
  quot_fitting.f 5000 a 0 d l = some (fitRes a d (Q.bs l a d)) := by
 have h := fitting_l0 l a d ha hd hl hco l.length 5000 0 (-1000000000) 1000000000 (by omega) (by omega) (by omega) (by omega)
 unfold quot_fitting.f
 simpa [Q.bs] using h
theorem compare_f (a b : Int) : cmp_Compare_int.f a b = some (if a < b then -1 else if a > b then 1 else 0) := by
 unfold cmp_Compare_int.f cmp_isNaN_int.f
 by_cases h1 : a < b
 ·simp [h1]
 ·by_cases h2 : a > b
  ·simp [h1, h2]
  ·simp [h1, h2]
theorem before_f (a b d a' b' d' : Int) (ha : Q.Coord a) (ha' : Q.Coord a') : quot_Fit_1.f 5 a b d a' b' d' = some (decide (Q.better a a')) := by
 obtain ⟨h1, h2⟩ := ha
 obtain ⟨h3, h4⟩ := ha'
 unfold quot_Fit_1.f
 rw [wrap_in (x := -a) (by omega) (by omega), wrap_in (x := -a') (by omega) (by omega), mx_max, mx_max, compare_f, compare_f]
 simp only [Option.bind_some]
 unfold cmp_Or_int.f
 have e0 : ∀ x y : Int, rd [x, y] 0 = x := fun x y => rfl
 have e1 : ∀ x y : Int, rd [x, y] 1 = y := fun x y => rfl
 have w0 : wrap64 (0 + 1) = 1 := wrap_in (by omega) (by omega)
 have w1 : wrap64 (1 + 1) = 2 := wrap_in (by omega) (by omega)
 have hb : (decide (Q.better a a')) = decide (max a (-a) < max a' (-a') ∨ max a (-a) = max a' (-a') ∧ a < a') := rfl
 rw [hb]
 clear hb
 generalize max a (-a) = x
 generalize max a' (-a') = y
 simp only [cmp_Or_int.l0, List.length_cons, List.length_nil, e0, e1, w0, w1]
 by_cases c1 : x < y
 ·simp [c1]
 ·by_cases c2 : x > y
  ·have : x ≠ y := by omega
   simp [c1, c2, this]
  ·obtain rfl : x = y := by omega
   by_cases c3 : a < a'
   ·simp [c3]
   ·by_cases c4 : a > a'
    ·simp [c3, c4]
    ·simp [c3, c4]
end Go.Proofs.Ytjpghfjaloglhaa.PContract

