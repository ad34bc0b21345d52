/-
The helpers of the laws on curves: Same, SameInts, Few, head.
Conditions: those that each lemma names.
-/
import Derived.Test.YtjpghfjaloglhaaECurveCurveF
namespace Go.Proofs.Ytjpghfjaloglhaa.PCurve
open Go.RowKit Go.Proofs.YtjpghfjaloglhaaW.PrintWords

theorem same_l0 (l m : List SP) (he : l.length = m.length) (hl : l.length ≤ 9223372036854775806) : ∀ (f k i : Nat), l.length - i ≤ f → f < k → i ≤ l.length →
    formeref02_Same.l0 k l m (i : Int) = some (decide (l.drop i = m.drop i))
  | f, k, i, hf, hk, hi => by
    obtain ⟨k, rfl⟩ : ∃ n, k = n + 1 := ⟨k - 1, by omega⟩
    rw [formeref02_Same.l0]
    by_cases c : i < l.length
    · obtain ⟨f, rfl⟩ : ∃ n, f = n + 1 := ⟨f - 1, by omega⟩
      rw [if_pos (by omega), if_pos (by omega), if_pos (by omega), rdP_drop c, rdP_drop (show i < m.length by omega)]
      rw [wrap_in (x := (i : Int) + 1) (by omega) (by omega)]
      have ih := same_l0 l m he hl f k (i + 1) (by omega) (by omega) (by omega)
      rw [show ((i : Int) + 1) = ((i + 1 : Nat) : Int) by omega, ih]
      generalize rd_T61 l (i : Int) = p
      generalize rd_T61 m (i : Int) = q
      obtain ⟨p0, p1, ⟨a0, a1, a2⟩⟩ := p
      obtain ⟨q0, q1, ⟨b0, b1, b2⟩⟩ := q
      by_cases e : (⟨p0, p1, ⟨a0, a1, a2⟩⟩ : SP) = ⟨q0, q1, ⟨b0, b1, b2⟩⟩
      · injection e with e1 e2 e3
        injection e3 with e3 e4 e5
        subst e1 e2 e3 e4 e5
        simp
      · have e' : ¬ (p0 = q0 ∧ p1 = q1 ∧ a0 = b0 ∧ a1 = b1 ∧ a2 = b2) := by
          rintro ⟨rfl, rfl, rfl, rfl, rfl⟩
          exact e rfl
        rw [if_pos]
        · rw [decide_eq_false]
          intro h
          injection h with h _
          exact e h
        · simp only [Bool.or_eq_true, Bool.not_eq_true', beq_eq_false_iff_ne, ne_eq]
          omega
    · rw [if_neg (by omega), List.drop_eq_nil_of_le (by omega), List.drop_eq_nil_of_le (by omega)]
      rfl
theorem same_f {k : Nat} {l m : List SP} (hl : l.length ≤ 9223372036854775806) (hk : l.length < k) : formeref02_Same.f k l m = some (decide (l = m)) := by
  unfold formeref02_Same.f
  by_cases c : l.length = m.length
  · rw [if_pos (by omega)]
    have := same_l0 l m c hl l.length k 0 (by omega) (by omega) (by omega)
    simpa using this
  · rw [if_neg (by omega), decide_eq_false (fun e => c (by rw [e]))]

theorem sameInts_l0 (l m : List Int) (he : l.length = m.length) (hl : l.length ≤ 9223372036854775806) : ∀ (f k i : Nat), l.length - i ≤ f → f < k → i ≤ l.length →
    formeref02_SameInts.l0 k l m (i : Int) = some (decide (l.drop i = m.drop i))
  | f, k, i, hf, hk, hi => by
    obtain ⟨k, rfl⟩ : ∃ n, k = n + 1 := ⟨k - 1, by omega⟩
    rw [formeref02_SameInts.l0]
    by_cases c : i < l.length
    · obtain ⟨f, rfl⟩ : ∃ n, f = n + 1 := ⟨f - 1, by omega⟩
      rw [if_pos (by omega), if_pos (by omega), if_pos (by omega), rd_drop c, rd_drop (show i < m.length by omega)]
      rw [wrap_in (x := (i : Int) + 1) (by omega) (by omega)]
      have ih := sameInts_l0 l m he hl f k (i + 1) (by omega) (by omega) (by omega)
      rw [show ((i : Int) + 1) = ((i + 1 : Nat) : Int) by omega, ih]
      by_cases e : rd l (i : Int) = rd m (i : Int)
      · simp [e]
      · simp [e]
    · rw [if_neg (by omega), List.drop_eq_nil_of_le (by omega), List.drop_eq_nil_of_le (by omega)]
      rfl
theorem sameInts_f {k : Nat} {l m : List Int} (hl : l.length ≤ 9223372036854775806) (hk : l.length < k) : formeref02_SameInts.f k l m = some (decide (l = m)) := by
  unfold formeref02_SameInts.f
  by_cases c : l.length = m.length
  · rw [if_pos (by omega)]
    have := sameInts_l0 l m c hl l.length k 0 (by omega) (by omega) (by omega)
    simpa using this
  · rw [if_neg (by omega), decide_eq_false (fun e => c (by rw [e]))]

theorem few_l0 (l : List SP) : ∀ (m k i : Nat) (x : Int), 50 ≤ i + m → 2 * m + 2 ≤ k → ∃ b, formeref02_Few.l0 k l x (i : Int) = some b
  | m, k, i, x, hm, hk => by
    obtain ⟨k, rfl⟩ : ∃ n, k = n + 2 := ⟨k - 2, by omega⟩
    rw [formeref02_Few.l0]
    have hend : ∀ x : Int, ∃ b, formeref02_Few.j1 (k + 1) l x (i : Int) false = some b := fun x => by
      rw [formeref02_Few.j1, if_neg (by simp)]
      by_cases c : (l.length : Int) < 50
      · rw [if_pos c]; exact ⟨_, rfl⟩
      · rw [if_neg c]; exact ⟨_, rfl⟩
    by_cases c : (i : Int) < (l.length : Int)
    · rw [if_pos c]
      by_cases c2 : (i : Int) < 50
      · obtain ⟨m, rfl⟩ : ∃ n, m = n + 1 := ⟨m - 1, by omega⟩
        have hn : ∀ x : Int, ∃ b, formeref02_Few.l0 k l x (wrap64 ((i : Int) + 1)) = some b := fun x => by
          rw [wrap_in (x := (i : Int) + 1) (by omega) (by omega)]
          exact few_l0 l m k (i + 1) x (by omega) (by omega)
        rw [decide_eq_true c2, formeref02_Few.j1, if_pos rfl, if_pos (by omega), if_pos c]
        repeat' split
        all_goals exact hn _
      · rw [decide_eq_false c2]
        exact hend x
    · rw [if_neg c]
      exact hend x
theorem few_f {k : Nat} (hk : 110 ≤ k) (l : List SP) : ∃ b, formeref02_Few.f k l = some b := few_l0 l 50 k 0 0 (by omega) (by omega)

theorem head02 {k : Nat} (hk : 10 ≤ k) : formelaw02_head.f k = some true := by
  obtain ⟨k, rfl⟩ : ∃ n, k = n + 1 := ⟨k - 1, by omega⟩
  have E1 : curve_Make.f 200 [0, 0, 1, 1, 2] = some ([⟨200, 205, ⟨1, 0, 2⟩⟩], 0) := by kernel_rfl
  have E2 : curve_Make.f 7 [0, 5, 0] = some ([⟨7, 9, ⟨5, 0, 1⟩⟩, ⟨9, 10, ⟨0, 0, 1⟩⟩], 0) := by kernel_rfl
  have E3 : curve_At.f [⟨200, 205, ⟨1, 0, 2⟩⟩] 203 = some (1, 0) := by kernel_rfl
  have E4 : curve_At.f [⟨7, 9, ⟨5, 0, 1⟩⟩, ⟨9, 10, ⟨0, 0, 1⟩⟩] 8 = some (5, 0) := by kernel_rfl
  have E5 : curve_At.f [⟨7, 9, ⟨5, 0, 1⟩⟩, ⟨9, 10, ⟨0, 0, 1⟩⟩] 10 = some (0, 1) := by kernel_rfl
  have E6 : curve_Make.f 7 [] = some ([], 1) := by kernel_rfl
  have E7 : curve_Sum.f [⟨200, 205, ⟨1, 0, 2⟩⟩] [⟨7, 9, ⟨5, 0, 1⟩⟩, ⟨9, 10, ⟨0, 0, 1⟩⟩] = some ([], 1) := by kernel_rfl
  have E8 : curve_Valid.f [⟨200, 205, ⟨1, 0, 2⟩⟩] = some true := by kernel_rfl
  have E9 : curve_Valid.f [] = some false := by kernel_rfl
  have S1 : formeref02_Same.f k [⟨200, 205, ⟨1, 0, 2⟩⟩] [⟨200, 205, ⟨1, 0, 2⟩⟩] = some true := by rw [same_f (by simp) (by simp; omega)]; simp
  have S2 : formeref02_Same.f k [⟨7, 9, ⟨5, 0, 1⟩⟩, ⟨9, 10, ⟨0, 0, 1⟩⟩] [⟨7, 9, ⟨5, 0, 1⟩⟩, ⟨9, 10, ⟨0, 0, 1⟩⟩] = some true := by rw [same_f (by simp) (by simp; omega)]; simp
  unfold formelaw02_head.f
  rw [E1, E2]
  simp only [Option.bind_some]
  rw [E3, E4, E5, E6, E7]
  simp only [Option.bind_some]
  simp only [if_true]
  rw [formelaw02_head.j0, if_pos (by rfl), S1]
  simp only [Option.bind_some, if_true]
  rw [S2]
  simp only [Option.bind_some, if_true]
  rw [E8, E9]
  rfl

end Go.Proofs.Ytjpghfjaloglhaa.PCurve
