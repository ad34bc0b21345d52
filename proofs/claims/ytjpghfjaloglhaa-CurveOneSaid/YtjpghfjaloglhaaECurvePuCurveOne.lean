/-
CurveOne is true: a valid list of parts is what Make returns for its values.
Conditions: none.
-/
import Derived.Test.YtjpghfjaloglhaaECurveCurveI
import Derived.Test.YtjpghfjaloglhaaECurvePOpen
import Derived.Test.YtjpghfjaloglhaaPCurvex0
import Derived.Test.YtjpghfjaloglhaaPCurvex10
namespace Go.Proofs.Ytjpghfjaloglhaa.PCurve
set_option linter.unusedSimpArgs false
open Go.RowKit Go.Proofs.YtjpghfjaloglhaaW.PrintWords

theorem CurveOne_true (l0 : List SP) (_ : ∀ p ∈ l0, partWf p) : ∃ k, formelaw02_CurveOne.f k l0 = some true := by
  refine ⟨20000, ?_⟩
  obtain ⟨b, hb⟩ := few_f (k := 20000) (by omega) l0
  unfold formelaw02_CurveOne.f
  rw [head02 (by omega), hb]
  simp only [Option.bind_some]
  have hj : formelaw02_CurveOne.j0 20000 l0 true true = some true := by
    rw [show (20000 : Nat) = 19999 + 1 from rfl, formelaw02_CurveOne.j0, if_pos rfl]
  cases b with
  | false => rw [if_neg (by simp)]; exact hj
  | true =>
    rw [if_pos rfl]
    by_cases c : (l0.length : Int) = 0
    · rw [if_pos c]
      exact hj
    · rw [if_neg c]
      unfold curve_Valid.f
      simp only [Option.bind_some]
      cases hv : validB l0 with
      | false => exact hj
      | true =>
        obtain ⟨hg, he⟩ := valid_parts hv
        have hlen := (joined_facts (valid_joined hv)).2.2
        rw [show (20000 : Nat) = 19999 + 1 from rfl, formelaw02_CurveOne.j0, if_neg (by simp)]
        unfold curve_Values.f valuesOut curve_Make.f
        rw [hv, if_pos rfl]
        simp only [Option.bind_some]
        rw [if_pos (by omega), make_good hg, ← he]
        simp only [Option.bind_some, if_true]
        rw [same_f (by omega) (by omega)]
        simp

end Go.Proofs.Ytjpghfjaloglhaa.PCurve
