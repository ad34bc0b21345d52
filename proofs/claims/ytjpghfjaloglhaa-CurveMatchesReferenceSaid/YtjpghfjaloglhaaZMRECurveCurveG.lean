import Derived.Test.YtjpghfjaloglhaaZMRECurveCurveF
import Derived.Test.YtjpghfjaloglhaaZMRPCurvex0
import Derived.Test.YtjpghfjaloglhaaZMRPCurvex8
import Derived.Test.YtjpghfjaloglhaaZMRPCurvex7
/-
The helpers of the laws on curves: Same, head.
Conditions: those that each lemma names.
-/
namespace Go.Proofs.Ytjpghfjaloglhaa.PCurve
open Go.RowKit Go.Proofs.YtjpghfjaloglhaaW.PrintWords
theorem same_l0 (l m : List SP) (he : l.length = m.length) (hl : l.length ≤ 9223372036854775806) : ∀ (f k i : Nat), l.length - i ≤ f → f < k → i ≤ l.length →
    formeref02_Same.l0 k l m (i : Int) = some (decide (l.drop i = m.drop i))
  | f, k, i, hf, hk, hi => by
    obtain ⟨k, rfl⟩ : ∃ n, k = n + 1 := ⟨k - 1, by omega⟩
    rw [formeref02_Same.l0]
    by_cases c : i < l.length
    · obtain ⟨f, rfl⟩ : ∃ n, f = n + 1 := ⟨f - 1, by omega⟩
      rw [if_pos (by omega), if_pos (by omega), if_pos (by omega), rdP_drop c, rdP_drop (show i < m.length by omega)]
      rw [wrap_in (x := (i : Int) + 1) (by omega) (by omega)]
      have ih := same_l0 l m he hl f k (i + 1) (by omega) (by omega) (by omega)
      rw [show ((i : Int) + 1) = ((i + 1 : Nat) : Int) by omega, ih]
      generalize rd_T61 l (i : Int) = p
      generalize rd_T61 m (i : Int) = q
      obtain ⟨p0, p1, ⟨a0, a1, a2⟩⟩ := p
      obtain ⟨q0, q1, ⟨b0, b1, b2⟩⟩ := q
      by_cases e : (⟨p0, p1, ⟨a0, a1, a2⟩⟩ : SP) = ⟨q0, q1, ⟨b0, b1, b2⟩⟩
      · injection e with e1 e2 e3
        injection e3 with e3 e4 e5
        subst e1 e2 e3 e4 e5
        simp
      · have e' : ¬ (p0 = q0 ∧ p1 = q1 ∧ a0 = b0 ∧ a1 = b1 ∧ a2 = b2) := by
          rintro ⟨rfl, rfl, rfl, rfl, rfl⟩
          exact e rfl
        rw [if_pos]
        · rw [decide_eq_false]
          intro h
          injection h with h _
          exact e h
        · simp only [Bool.or_eq_true, Bool.not_eq_true', beq_eq_false_iff_ne, ne_eq]
          omega
    · rw [if_neg (by omega), List.drop_eq_nil_of_le (by omega), List.drop_eq_nil_of_le (by omega)]
      rfl
theorem same_f {k : Nat} {l m : List SP} (hl : l.length ≤ 9223372036854775806) (hk : l.length < k) : formeref02_Same.f k l m = some (decide (l = m)) := by
  unfold formeref02_Same.f
  by_cases c : l.length = m.length
  · rw [if_pos (by omega)]
    have := same_l0 l m c hl l.length k 0 (by omega) (by omega) (by omega)
    simpa using this
  · rw [if_neg (by omega), decide_eq_false (fun e => c (by rw [e]))]
theorem head02 {k : Nat} (hk : 10 ≤ k) : formelaw02_head.f k = some true := by
  obtain ⟨k, rfl⟩ : ∃ n, k = n + 1 := ⟨k - 1, by omega⟩
  have E1 : curve_Make.f 200 [0, 0, 1, 1, 2] = some ([⟨200, 205, ⟨1, 0, 2⟩⟩], 0) := by kernel_rfl
  have E2 : curve_Make.f 7 [0, 5, 0] = some ([⟨7, 9, ⟨5, 0, 1⟩⟩, ⟨9, 10, ⟨0, 0, 1⟩⟩], 0) := by kernel_rfl
  have E3 : curve_At.f [⟨200, 205, ⟨1, 0, 2⟩⟩] 203 = some (1, 0) := by kernel_rfl
  have E4 : curve_At.f [⟨7, 9, ⟨5, 0, 1⟩⟩, ⟨9, 10, ⟨0, 0, 1⟩⟩] 8 = some (5, 0) := by kernel_rfl
  have E5 : curve_At.f [⟨7, 9, ⟨5, 0, 1⟩⟩, ⟨9, 10, ⟨0, 0, 1⟩⟩] 10 = some (0, 1) := by kernel_rfl
  have E6 : curve_Make.f 7 [] = some ([], 1) := by kernel_rfl
  have E7 : curve_Sum.f [⟨200, 205, ⟨1, 0, 2⟩⟩] [⟨7, 9, ⟨5, 0, 1⟩⟩, ⟨9, 10, ⟨0, 0, 1⟩⟩] = some ([], 1) := by kernel_rfl
  have E8 : curve_Valid.f [⟨200, 205, ⟨1, 0, 2⟩⟩] = some true := by kernel_rfl
  have E9 : curve_Valid.f [] = some false := by kernel_rfl
  have S1 : formeref02_Same.f k [⟨200, 205, ⟨1, 0, 2⟩⟩] [⟨200, 205, ⟨1, 0, 2⟩⟩] = some true := by rw [same_f (by simp) (by simp; omega)]; simp
  have S2 : formeref02_Same.f k [⟨7, 9, ⟨5, 0, 1⟩⟩, ⟨9, 10, ⟨0, 0, 1⟩⟩] [⟨7, 9, ⟨5, 0, 1⟩⟩, ⟨9, 10, ⟨0, 0, 1⟩⟩] = some true := by rw [same_f (by simp) (by simp; omega)]; simp
  unfold formelaw02_head.f
  rw [E1, E2]
  simp only [Option.bind_some]
  rw [E3, E4, E5, E6, E7]
  simp only [Option.bind_some]
  simp only [if_true]
  rw [formelaw02_head.j0, if_pos (by rfl), S1]
  simp only [Option.bind_some, if_true]
  rw [S2]
  simp only [Option.bind_some, if_true]
  rw [E8, E9]
  rfl
end Go.Proofs.Ytjpghfjaloglhaa.PCurve

