/-
QuotBelow is true: Below finds the least place at which the one quotient is less than the other.
Conditions: none.
-/
import Derived.Test.YtjpghfjaloglhaaEQuotPuQuotFloors
import Derived.Test.YtjpghfjaloglhaaPQuotx0
import Derived.Test.YtjpghfjaloglhaaPQuotx13
namespace Go.Proofs.Ytjpghfjaloglhaa.PQuot
open Go.RowKit Go.Proofs.YtjpghfjaloglhaaW.PrintWords

theorem u16_wf {x : Int} (h : (Lit.int .u16 x).wf = true) : 0 ≤ x ∧ x ≤ 65535 := by
  have e1 : IntKind.u16.min = 0 := rfl
  have e2 : IntKind.u16.max = 65535 := rfl
  simp only [Lit.wf, Bool.and_eq_true, decide_eq_true_eq, e1, e2] at h
  exact h

theorem belowOut_spec (a b d a' b' d' : Int) : ∀ (m : Nat) (n : Int), 
    (∃ i : Int, n ≤ i ∧ i < n + m ∧ belowOut a b d a' b' d' m n = (i, true, 0) ∧ val a b d i < val a' b' d' i ∧ ∀ j, n ≤ j → j < i → val a' b' d' j ≤ val a b d j) ∨
    (belowOut a b d a' b' d' m n = (0, false, 0) ∧ ∀ j, n ≤ j → j < n + m → val a' b' d' j ≤ val a b d j)
  | 0, n => .inr ⟨rfl, fun j h1 h2 => by omega⟩
  | m + 1, n => by
    unfold belowOut
    by_cases c : val a b d n < val a' b' d' n
    · rw [if_pos c]
      exact .inl ⟨n, by omega, by omega, rfl, c, fun j h1 h2 => by omega⟩
    · rw [if_neg c]
      rcases belowOut_spec a b d a' b' d' m (n + 1) with ⟨i, h1, h2, h3, h4, h5⟩ | ⟨h1, h2⟩
      · refine .inl ⟨i, by omega, by omega, h3, h4, fun j g1 g2 => ?_⟩
        by_cases e : j = n
        · subst e
          omega
        · exact h5 j (by omega) g2
      · refine .inr ⟨h1, fun j g1 g2 => ?_⟩
        by_cases e : j = n
        · subst e
          omega
        · exact h2 j (by omega) (by omega)

theorem below_j2 (k : Nat) {a b d a' b' d' at_ e : Int} (h : VB a b d = true) (h' : VB a' b' d' = true) (hat : 0 ≤ at_ ∧ at_ ≤ 65535) (he : -1 ≤ e ∧ e ≤ 4000) (hall : ∀ j, 0 ≤ j → j ≤ e → val a' b' d' j ≤ val a b d j) :
    formelaw01_QuotBelow.j2 (k + 1) at_ true e a b d a' b' d' = some true := by
  rw [formelaw01_QuotBelow.j2]
  by_cases c : e < 0
  · rw [if_pos c]
  · rw [if_neg c, wrap_in (x := e + 1) (by omega) (by omega), wrap_in (x := at_) (by omega) (by omega), if_neg (by omega)]
    have hm : 0 ≤ Int.tmod at_ (e + 1) ∧ Int.tmod at_ (e + 1) < e + 1 := by
      rw [Int.tmod_eq_emod_of_nonneg hat.1]
      exact ⟨Int.emod_nonneg _ (by omega), Int.emod_lt_of_pos _ (by omega)⟩
    simp only [if_true]
    rw [rvalue_f h (by omega), rvalue_f h' (by omega)]
    simp only [Option.bind_some]
    rw [decide_eq_true (show _ ≥ _ from hall _ hm.1 (by omega))]

theorem QuotBelow_true (a b d a' b' d' last at_ : Int) (_ : (Lit.int .i64 a).wf = true) (_ : (Lit.int .i64 b).wf = true) (_ : (Lit.int .i64 d).wf = true) (_ : (Lit.int .i64 a').wf = true) (_ : (Lit.int .i64 b').wf = true) (_ : (Lit.int .i64 d').wf = true)
    (w1 : (Lit.int .u16 last).wf = true) (w2 : (Lit.int .u16 at_).wf = true) : ∃ k, formelaw01_QuotBelow.f k a b d a' b' d' last at_ = some true := by
  have hl := u16_wf w1
  have hat := u16_wf w2
  refine ⟨10003, ?_⟩
  unfold formelaw01_QuotBelow.f formelaw01_head.f
  rw [rvalid_f, rvalid_f]
  simp only [Option.bind_some]
  cases h : VB a b d with
  | false => simp [formelaw01_QuotBelow.j0]
  | true =>
    cases h' : VB a' b' d' with
    | false => simp [formelaw01_QuotBelow.j0]
    | true =>
      simp only [if_true, Bool.not_true]
      rw [formelaw01_QuotBelow.j0]
      simp only [Bool.false_eq_true, if_false]
      rw [wrap_in (x := last) (by omega) (by omega), below_f (by omega)]
      have hm : 0 ≤ Int.tmod last 4001 ∧ Int.tmod last 4001 < 4001 := by
        rw [Int.tmod_eq_emod_of_nonneg hl.1]
        exact ⟨Int.emod_nonneg _ (by omega), Int.emod_lt_of_pos _ (by omega)⟩
      generalize Int.tmod last 4001 = e at *
      have hp : PB e = true := by unfold PB; simp; omega
      simp only [Option.bind_some, belowAll, h, h', hp, and_self, if_true]
      rcases belowOut_spec a b d a' b' d' (e + 1).toNat 0 with ⟨i, h1, h2, h3, h4, h5⟩ | ⟨h1, h2⟩
      · rw [h3]
        simp only [if_true]
        rw [if_neg (by omega), if_neg (by omega), formelaw01_QuotBelow.j1]
        simp only [Bool.false_eq_true, if_false, if_true]
        rw [rvalue_f h (by omega), rvalue_f h' (by omega), wrap_in (x := i - 1) (by omega) (by omega)]
        simp only [Option.bind_some]
        rw [decide_eq_true h4]
        exact below_j2 10000 h h' hat (by omega) fun j g1 g2 => h5 j g1 (by omega)
      · rw [h1]
        simp only [if_true]
        rw [if_neg (by omega), if_neg (by omega), formelaw01_QuotBelow.j1]
        simp only [Bool.false_eq_true, if_false, bne_self_eq_false]
        exact below_j2 10000 h h' hat (by omega) fun j g1 g2 => h2 j g1 (by omega)

end Go.Proofs.Ytjpghfjaloglhaa.PQuot
