/-
CurveValues is true: what Make returns is valid, has the values it was made of, and At finds each of them.
Conditions: none.
-/
import Derived.Test.YtjpghfjaloglhaaECurveCurveG
import Derived.Test.YtjpghfjaloglhaaPCurvex0
import Derived.Test.YtjpghfjaloglhaaPCurvex9
namespace Go.Proofs.Ytjpghfjaloglhaa.PCurve
open Go.RowKit Go.Proofs.YtjpghfjaloglhaaW.PrintWords

theorem valuesL (a : Int) (l : List Int) (h : Good a l) : ∀ (m k i : Nat), i + m = l.length → m < k → formelaw02_CurveValues.l0 k a l true (parts a l) (i : Int) = some true
  | m, k, i, hm, hk => by
    obtain ⟨k, rfl⟩ : ∃ n, k = n + 1 := ⟨k - 1, by omega⟩
    have h1 := h.one
    have h2 := h.few
    have h3 := h.zero
    have h4 := h.far
    rw [formelaw02_CurveValues.l0]
    by_cases c : i < l.length
    · obtain ⟨m, rfl⟩ : ∃ n, m = n + 1 := ⟨m - 1, by omega⟩
      rw [if_pos (by omega), wrap_in (x := a + (i : Int)) (by omega) (by omega)]
      unfold curve_At.f
      rw [at_in h c]
      simp only [Option.bind_some, if_true]
      rw [if_pos (by omega), wrap_in (x := (i : Int) + 1) (by omega) (by omega), if_pos (by rfl)]
      exact valuesL a l h m k (i + 1) (by omega) (by omega)
    · rw [if_neg (by omega), wrap_in (x := a - 1) (by omega) (by omega), wrap_in (x := a + (l.length : Int)) (by omega) (by omega)]
      unfold curve_At.f
      rw [at_out h (n := a - 1) (by omega), at_out h (n := a + (l.length : Int)) (by omega)]
      rfl

theorem CurveValues_true (a0 : Int) (l1 : List Int) (_ : (Lit.int .i64 a0).wf = true) (_ : l1.length * 8 ≤ 140737488351232) (_ : ∀ x ∈ l1, (Lit.int .i64 x).wf = true) : ∃ k, formelaw02_CurveValues.f k a0 l1 = some true := by
  refine ⟨10000, ?_⟩
  unfold formelaw02_CurveValues.f
  rw [head02 (by omega)]
  simp only [Option.bind_some]
  by_cases c1 : (l1.length : Int) > 40
  · rw [if_pos c1]
  · rw [if_neg c1]
    unfold curve_Make.f
    simp only [Option.bind_some]
    by_cases c2 : (makeOut a0 l1).2 = 0
    · have h := make_ok_good c2
      rw [if_pos c2, make_good h]
      unfold curve_Values.f curve_Valid.f
      rw [values_good h, parts_valid h]
      simp only [Option.bind_some, if_true]
      rw [sameInts_f (by omega) (by omega)]
      simp only [Option.bind_some, decide_true, Bool.not_true]
      rw [formelaw02_CurveValues.j0, if_neg (by simp)]
      exact valuesL a0 l1 h l1.length _ 0 (by omega) (by omega)
    · rw [if_neg c2, make_err c2]
      rfl

end Go.Proofs.Ytjpghfjaloglhaa.PCurve
