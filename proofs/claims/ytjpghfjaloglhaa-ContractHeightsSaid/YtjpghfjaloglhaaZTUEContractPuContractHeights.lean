import Derived.Test.YtjpghfjaloglhaaZTUEContractC38L
import Derived.Test.YtjpghfjaloglhaaZTUEContractCOpen
import Derived.Test.YtjpghfjaloglhaaZTUPContractx0
import Derived.Test.YtjpghfjaloglhaaZTUPContractx18
/-
ContractHeights is true: the height of the box is the promised one, whatever is answered.
Conditions: none.
-/
namespace Go.Proofs.Ytjpghfjaloglhaa.PContract
set_option linter.unusedSimpArgs false
open Go.RowKit Go.Proofs.YtjpghfjaloglhaaW.PrintWords
theorem ContractHeights_true (a0_0 a0_1 : Int) (l0_2 : List SP) (a1_0 a1_1 a1_2 a1_3 : Int) (a1_4 : Bool) (a2_0 a2_1 a2_2 a2_3 : Int) : ∃ k, formelaw38_ContractHeights.f k a0_0 a0_1 l0_2 a1_0 a1_1 a1_2 a1_3 a1_4 a2_0 a2_1 a2_2 a2_3 = some true := by
  refine ⟨200, ?_⟩
  obtain ⟨b, hb⟩ := few38 (k := 200) (by omega) a0_0 a0_1 l0_2
  unfold formelaw38_ContractHeights.f
  rw [head38, hb]
  simp only [Option.bind_some]
  cases b with
  | false => rw [if_neg (by simp)]
  | true =>
    rw [if_pos rfl]
    rcases judge_cases a0_0 a0_1 l0_2 a1_0 a1_1 a1_2 a1_3 a1_4 a2_0 a2_1 a2_2 a2_3 with e | ⟨h1, h2, h3, h4, h5, e⟩
    · rw [e]
      rfl
    · rw [e]
      simp only [Option.bind_some]
      obtain ⟨g1, g2, g3, g4⟩ := ans_ok h3
      rw [if_pos trivial]
      rcases promised_cases a0_0 a0_1 l0_2 a2_1 with ⟨k, _⟩ | ⟨_, _, e2⟩
      · exact absurd k (by simp [h1, g2])
      · rw [e2]
        simp only [Option.bind_some, if_true]
        have hp := prom_ok h1 a2_1
        by_cases c : a2_2 = 1
        · rw [if_pos c]
          simp
        · rw [if_neg c]
          have hz : a2_3 = 0 := (g4.resolve_left c).2
          have hp1 := hp.1
          rw [decide_eq_false (by omega)]
          rfl
end Go.Proofs.Ytjpghfjaloglhaa.PContract

