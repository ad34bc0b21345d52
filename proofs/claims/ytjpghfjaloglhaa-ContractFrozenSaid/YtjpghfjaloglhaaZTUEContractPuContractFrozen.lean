import Derived.Test.YtjpghfjaloglhaaZTUEContractC38L
import Derived.Test.YtjpghfjaloglhaaZTUEContractCOpen
import Derived.Test.YtjpghfjaloglhaaZTUPContractx0
import Derived.Test.YtjpghfjaloglhaaZTUPContractx21
/-
ContractFrozen is true: an account that is frozen stays so, and one that is not is frozen by another difference alone.
Conditions: none.
-/
namespace Go.Proofs.Ytjpghfjaloglhaa.PContract
set_option linter.unusedSimpArgs false
open Go.RowKit Go.Proofs.YtjpghfjaloglhaaW.PrintWords
theorem ContractFrozen_true (a0_0 a0_1 : Int) (l0_2 : List SP) (a1_0 a1_1 a1_2 a1_3 : Int) (a1_4 : Bool) (a2_0 a2_1 a2_2 a2_3 : Int) : ∃ k, formelaw38_ContractFrozen.f k a0_0 a0_1 l0_2 a1_0 a1_1 a1_2 a1_3 a1_4 a2_0 a2_1 a2_2 a2_3 = some true := by
  refine ⟨200, ?_⟩
  obtain ⟨b, hb⟩ := few38 (k := 200) (by omega) a0_0 a0_1 l0_2
  unfold formelaw38_ContractFrozen.f
  rw [head38, hb]
  simp only [Option.bind_some]
  cases b with
  | false => rw [if_neg (by simp)]
  | true =>
    rw [if_pos rfl]
    rcases judge_cases a0_0 a0_1 l0_2 a1_0 a1_1 a1_2 a1_3 a1_4 a2_0 a2_1 a2_2 a2_3 with e | ⟨h1, h2, h3, h4, h5, e⟩
    · rw [e]
      rfl
    · rw [e]
      simp only [Option.bind_some]
      rw [if_pos trivial]
      cases a1_4 with
      | true =>
        rw [if_pos rfl]
        unfold enterA
        simp [h4]
      | false =>
        rw [if_neg (by simp)]
        obtain ⟨g1, g2, g3, g4⟩ := ans_ok h3
        have hok : (Acc.mk a1_1 a1_2 a1_3 false).Ok := by
          unfold accB at h2
          simp only [Bool.and_eq_true, decide_eq_true_eq] at h2
          exact h2.2
        obtain ⟨⟨o1, o2⟩, ⟨o3, o4⟩, o5, o6⟩ := hok
        simp only at o1 o2 o3 o4 o5 o6
        have hp := prom_ok h1 a2_1
        have m1 := moreI_ok o1 o2
        have m2 := moreI_ok o3 o4
        have hp1 := hp.1
        have hp2 := hp.2
        have g31 := g3.1
        have g32 := g3.2
        rw [wrap_in (x := a2_3 - promI l0_2 a2_1) (by omega) (by omega)]
        have fin : ∀ (ch cg : Int) (fr : Bool), a1_1 ≤ ch → a1_2 ≤ cg → fr = decide (a0_1 < cg) → (if ch ≥ a1_1 then (if cg ≥ a1_2 then some (fr == decide (cg > a0_1)) else some false) else some false) = some true := fun ch cg fr k1 k2 k3 => by
          rw [if_pos (by omega), if_pos (by omega), k3]
          simp
        have main : ∀ (ch cg la : Int) (fr : Bool), enterA ⟨a1_1, a1_2, a1_3, false⟩ a2_2 a2_3 (promI l0_2 a2_1) a0_1 = ⟨ch, cg, la, fr⟩ → a1_1 ≤ ch ∧ a1_2 ≤ cg ∧ fr = decide (a0_1 < cg) ∧ (fr = true → a1_2 ≤ a0_1 → a2_2 = 1 ∧ a2_3 - promI l0_2 a2_1 ≠ a1_3) := fun ch cg la fr he => by
          unfold enterA at he
          rw [if_neg (by simp)] at he
          simp only at he
          by_cases c1 : a2_2 = 1
          · rw [if_pos c1] at he
            by_cases c2 : a2_3 - promI l0_2 a2_1 = a1_3
            · rw [if_pos c2] at he
              by_cases c3 : a2_3 - promI l0_2 a2_1 = 0
              · rw [if_pos c3] at he
                injection he with e1 e2 e3 e4
                subst e1 e2 e3 e4
                exact ⟨by omega, by omega, rfl, fun k1 k2 => absurd (of_decide_eq_true k1) (by omega)⟩
              · rw [if_neg c3] at he
                injection he with e1 e2 e3 e4
                subst e1 e2 e3 e4
                exact ⟨by omega, by omega, rfl, fun k1 k2 => absurd (of_decide_eq_true k1) (by omega)⟩
            · rw [if_neg c2] at he
              by_cases c3 : a2_3 - promI l0_2 a2_1 = 0
              · rw [if_pos c3] at he
                injection he with e1 e2 e3 e4
                subst e1 e2 e3 e4
                exact ⟨by omega, by omega, rfl, fun _ _ => ⟨c1, c2⟩⟩
              · rw [if_neg c3] at he
                injection he with e1 e2 e3 e4
                subst e1 e2 e3 e4
                exact ⟨by omega, by omega, rfl, fun _ _ => ⟨c1, c2⟩⟩
          · rw [if_neg c1] at he
            by_cases c2 : a2_2 = 2
            · rw [if_pos c2] at he
              injection he with e1 e2 e3 e4
              subst e1 e2 e3 e4
              exact ⟨by omega, by omega, rfl, fun k1 k2 => absurd (of_decide_eq_true k1) (by omega)⟩
            · rw [if_neg c2] at he
              injection he with e1 e2 e3 e4
              subst e1 e2 e3 e4
              exact ⟨by omega, by omega, rfl, fun k1 k2 => absurd (of_decide_eq_true k1) (by omega)⟩
        obtain ⟨b, hb⟩ : ∃ b, enterA ⟨a1_1, a1_2, a1_3, false⟩ a2_2 a2_3 (promI l0_2 a2_1) a0_1 = b := ⟨_, rfl⟩
        obtain ⟨ch, cg, la, fr⟩ := b
        obtain ⟨k1, k2, k3, k4⟩ := main ch cg la fr hb
        rw [hb]
        simp only [if_true]
        cases fr with
        | false =>
          rw [if_neg (by simp)]
          exact fin ch cg false k1 k2 k3
        | true =>
          rw [if_pos rfl]
          by_cases c1 : a1_2 ≤ a0_1
          · obtain ⟨j1, j2⟩ := k4 rfl c1
            rw [if_pos c1, if_pos j1, if_neg j2]
            exact fin ch cg true k1 k2 k3
          · rw [if_neg c1]
            exact fin ch cg true k1 k2 k3
end Go.Proofs.Ytjpghfjaloglhaa.PContract

