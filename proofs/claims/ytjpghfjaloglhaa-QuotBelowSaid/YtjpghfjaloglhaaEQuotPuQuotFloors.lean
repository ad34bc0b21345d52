/-
QuotFloors is true: the values of a quotient are floors, and rise by A / D, rounded down or up.
Conditions: none.
-/
import Derived.Test.YtjpghfjaloglhaaEQuotQuotG
import Derived.Test.YtjpghfjaloglhaaEQuotHead01
import Derived.Test.YtjpghfjaloglhaaPQuotx0
import Derived.Test.YtjpghfjaloglhaaPQuotx8
namespace Go.Proofs.Ytjpghfjaloglhaa.PQuot
open Go.RowKit Go.Proofs.YtjpghfjaloglhaaW.PrintWords

theorem div_add (x a d : Int) (hd : 0 < d) : (x + a) / d = x / d + a / d ∨ ((x + a) / d = x / d + a / d + 1 ∧ a % d ≠ 0) := by
  have h1 := Int.mul_ediv_add_emod x d
  have h2 := Int.emod_nonneg x (show d ≠ 0 by omega)
  have h3 := Int.emod_lt_of_pos x hd
  have g1 := Int.mul_ediv_add_emod a d
  have g2 := Int.emod_nonneg a (show d ≠ 0 by omega)
  have g3 := Int.emod_lt_of_pos a hd
  have hs : x + a = (x % d + a % d) + d * (x / d + a / d) := by rw [Int.mul_add]; omega
  rw [hs, Int.add_mul_ediv_left _ _ (by omega)]
  by_cases c : x % d + a % d < d
  · left
    rw [Int.ediv_eq_zero_of_lt (by omega) c]
    omega
  · right
    have e : (x % d + a % d) / d = 1 := by
      apply Int.le_antisymm
      · have : (x % d + a % d) / d < 2 := by
          rw [Int.ediv_lt_iff_lt_mul hd]
          omega
        omega
      · rw [Int.le_ediv_iff_mul_le hd]
        omega
    exact ⟨by omega, by omega⟩
theorem tmod_ne {a d : Int} (h : a % d ≠ 0) : Int.tmod a d ≠ 0 := fun e => h (Int.emod_eq_zero_of_dvd (Int.dvd_of_tmod_eq_zero e))

theorem val_bounds {a b d n : Int} (h : VB a b d = true) (hn : 0 ≤ n ∧ n ≤ 4001) : d * val a b d n ≤ a * n + b ∧ a * n + b < d * val a b d n + d ∧ -4002000000000 ≤ val a b d n ∧ val a b d n ≤ 4002000000000 ∧ (1 ≤ d ∧ d ≤ 16) := by
  obtain ⟨h1, h2, h3⟩ := VB_iff.1 h
  simp only at h1
  obtain ⟨_, p1, p2⟩ := numer h2 h3 hn
  simp only at p1 p2
  have h4 := Int.mul_ediv_add_emod (a * n + b) d
  have h5 := Int.emod_nonneg (a * n + b) (show d ≠ 0 by omega)
  have h6 := Int.emod_lt_of_pos (a * n + b) (show 0 < d by omega)
  unfold val
  refine ⟨by omega, by omega, ?_, ?_, h1⟩
  · rw [Int.le_ediv_iff_mul_le (by omega)]
    omega
  · have : (a * n + b) / d < 4002000000001 := by
      rw [Int.ediv_lt_iff_lt_mul (by omega)]
      omega
    omega

theorem floors_j2 (k : Nat) {a b d n : Int} (h : VB a b d = true) (hn : 0 ≤ n ∧ n ≤ 4000) : formelaw01_QuotFloors.j2 (k + 1) n true (val a b d n) a b d = some true := by
  rw [formelaw01_QuotFloors.j2]
  by_cases c : n = 4000
  · rw [if_pos c]
  · rw [if_neg c, wrap_in (x := n + 1) (by omega) (by omega), at_f]
    obtain ⟨_, _, v1, v2, hd⟩ := val_bounds h (n := n) (by omega)
    obtain ⟨_, _, w1, w2, _⟩ := val_bounds h (n := n + 1) (by omega)
    have ha := (VB_iff.1 h).2.1
    obtain ⟨a1, a2⟩ := ha
    simp only at a1 a2
    have hp : PB (n + 1) = true := by unfold PB; simp; omega
    rw [rfloor_f' (by omega) (by omega)]
    simp only [h, hp, and_self, if_true, Option.bind_some]
    have e : val a b d (n + 1) = (a * n + b + a) / d := by
      unfold val
      rw [Int.mul_add, Int.mul_one]
      congr 1
      omega
    have hA : -1000000000 ≤ a / d ∧ a / d ≤ 1000000000 := by
      refine ⟨?_, ?_⟩
      · rw [Int.le_ediv_iff_mul_le (by omega)]
        omega
      · have : a / d < 1000000001 := by
          rw [Int.ediv_lt_iff_lt_mul (by omega)]
          omega
        omega
    rw [wrap_in (x := val a b d (n + 1) - val a b d n) (by omega) (by omega), wrap_in (x := a / d + 1) (by omega) (by omega)]
    have hv : val a b d n = (a * n + b) / d := rfl
    rcases div_add (a * n + b) a d (by omega) with g | ⟨g, g2⟩
    · rw [if_pos (by omega)]
    · rw [if_neg (by omega), if_pos (by omega), if_neg (by omega)]
      have := tmod_ne g2
      simp [this]

theorem QuotFloors_true (a b d n : Int) (_ : (Lit.int .i64 a).wf = true) (_ : (Lit.int .i64 b).wf = true) (_ : (Lit.int .i64 d).wf = true) (_ : (Lit.int .i64 n).wf = true) : ∃ k, formelaw01_QuotFloors.f k a b d n = some true := by
  refine ⟨5, ?_⟩
  unfold formelaw01_QuotFloors.f formelaw01_head.f
  rw [rvalid_f, rplace_f]
  simp only [Option.bind_some]
  cases h : VB a b d with
  | false => simp [formelaw01_QuotFloors.j0]
  | true =>
    cases hp : PB n with
    | false => simp [formelaw01_QuotFloors.j0]
    | true =>
      have hn : 0 ≤ n ∧ n ≤ 4000 := by unfold PB at hp; simpa using hp
      obtain ⟨g1, g2, v1, v2, hd⟩ := val_bounds h (n := n) (by omega)
      simp only [Bool.not_true, formelaw01_QuotFloors.j0, Bool.false_eq_true, if_false, if_true]
      rw [at_f]
      simp only [h, hp, and_self, if_true, Option.bind_some]
      rw [if_neg (by omega), decide_eq_false (by omega)]
      simp only [formelaw01_QuotFloors.j1, Bool.false_eq_true, if_false, if_true]
      obtain ⟨h1, h2, h3⟩ := VB_iff.1 h
      obtain ⟨e, p1, p2⟩ := numer h2 h3 (n := n) (by omega)
      simp only at e p1 p2
      rw [e, wrap_in (x := d * val a b d n) (by omega) (by omega), wrap_in (x := d * val a b d n + d) (by omega) (by omega), if_pos g1, decide_eq_true g2]
      exact floors_j2 2 h hn

end Go.Proofs.Ytjpghfjaloglhaa.PQuot
