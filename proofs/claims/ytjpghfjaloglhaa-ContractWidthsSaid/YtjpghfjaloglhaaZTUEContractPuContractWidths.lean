import Derived.Test.YtjpghfjaloglhaaZTUEContractC38L
import Derived.Test.YtjpghfjaloglhaaZTUEContractCOpen
import Derived.Test.YtjpghfjaloglhaaZTUPContractx0
import Derived.Test.YtjpghfjaloglhaaZTUPContractx22
/-
ContractWidths is true: the promised height is a value of the function, at the width or at the nearer end.
Conditions: none.
-/
namespace Go.Proofs.Ytjpghfjaloglhaa.PContract
set_option linter.unusedSimpArgs false
open Go.RowKit Go.Proofs.YtjpghfjaloglhaaW.PrintWords
theorem ContractWidths_true (a0_0 a0_1 : Int) (l0_2 : List SP) (a1 : Int) (_ : (Lit.int .i64 a1).wf = true) : ∃ k, formelaw38_ContractWidths.f k a0_0 a0_1 l0_2 a1 = some true := by
  refine ⟨200, ?_⟩
  obtain ⟨b, hb⟩ := few38 (k := 200) (by omega) a0_0 a0_1 l0_2
  unfold formelaw38_ContractWidths.f
  rw [head38, hb]
  simp only [Option.bind_some]
  cases b with
  | false => rw [if_neg (by simp)]
  | true =>
    rw [if_pos rfl]
    rcases promised_cases a0_0 a0_1 l0_2 a1 with ⟨_, e⟩ | ⟨h1, h2, e⟩
    · rw [e]
      rfl
    · rw [e]
      simp only [Option.bind_some]
      rw [if_pos trivial]
      have hv := cvalid_valid h1
      obtain ⟨g, _⟩ := valid_parts hv
      have g1 := g.one
      have g2 := g.few
      have g3 := g.zero
      have g4 := g.far
      have hl := valid_first hv
      have hw1 := h2.1
      have hw2 := h2.2
      unfold curve_Values.f valuesOut
      rw [hv, if_pos rfl]
      simp only [Option.bind_some]
      rw [if_pos trivial, if_neg (by omega), if_neg (by omega), if_pos (by omega)]
      rw [wrap_in (x := a1 - (rd_T61 l0_2 0).f0) (by omega) (by omega), wrap_in (x := ((valsOf l0_2).length : Int) - 1) (by omega) (by omega), mx_max, mn_min]
      simp only [if_true]
      rw [if_pos (by omega), if_pos (by omega)]
      have hp : promI l0_2 a1 = rd (valsOf l0_2) (min (max (a1 - (rd_T61 l0_2 0).f0) 0) (((valsOf l0_2).length : Int) - 1)) := rfl
      rw [if_pos hp]
      have h0 := (prom_ok h1 a1).1
      rw [decide_eq_true (by omega)]
end Go.Proofs.Ytjpghfjaloglhaa.PContract

