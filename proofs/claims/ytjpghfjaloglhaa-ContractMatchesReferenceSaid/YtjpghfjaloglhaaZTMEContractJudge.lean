import Derived.Test.YtjpghfjaloglhaaZTMEContractJudgeW
import Derived.Test.YtjpghfjaloglhaaZTMEContractCPlain
/-
contract.Judge returns the account after an answer, the height of the box and whether it is cut: at every contract, account and answer.
Conditions: none.
-/
namespace Go.Proofs.Ytjpghfjaloglhaa.PContract
open Go.RowKit Go.Proofs.YtjpghfjaloglhaaW.PrintWords
set_option linter.unusedVariables false
set_option linter.unusedSimpArgs false
theorem contract_Judge.calls (a0_0 a0_1 : Int) (A0_2 : Option Addr) (c0_2 : Nat) (l0_2 : List SP) (a1_0 a1_1 a1_2 a1_3 : Int) (a1_4 : Bool) (a2_0 a2_1 a2_2 a2_3 : Int) (r1 r2 r3 r4 : Int) (r5 : Bool) (r6 : Int) (r7 : Bool) (r8 : Int) (w : World) (hr0_2 : Kd.C k61 w A0_2 l0_2.length l0_2) (hc0_2 : l0_2.length ≤ c0_2) (h : contract_Judge.f a0_0 a0_1 l0_2 a1_0 a1_1 a1_2 a1_3 a1_4 a2_0 a2_1 a2_2 a2_3 = some (r1, r2, r3, r4, r5, r6, r7, r8)) :
  Calls Try.prog 63 #[.agg #[.int .i64 a0_0, .int .i64 a0_1, .slice A0_2 l0_2.length c0_2], .agg #[.int .i64 a1_0, .int .i64 a1_1, .int .i64 a1_2, .int .i64 a1_3, .bool a1_4], .agg #[.int .i64 a2_0, .int .i64 a2_1, .int .i64 a2_2, .int .i64 a2_3]] w fun e w' => e = .returned (.tuple #[.agg #[.int .i64 r1, .int .i64 r2, .int .i64 r3, .int .i64 r4, .bool r5], .int .i64 r6, .bool r7, .int .i64 r8]) ∧ Below w.heap.size w w' := by
 show Calls Try.prog 63 _ w (JudgePost w r1 ⟨r2, r3, r4, r5⟩ r6 r7 r8)
 unfold contract_Judge.f judgeOut at h
 have hacc := rightAccount_f a1_0 ⟨a1_1, a1_2, a1_3, a1_4⟩
 have hans := rightAnswer_f a2_0 a2_1 a2_2 a2_3
 have hv : contract_Valid.f a0_0 a0_1 l0_2 = some (cvalidB a0_0 a0_1 l0_2) := rfl
 simp only at hacc h
 have none_ : ∀ {P : Prop} [Decidable P], ¬ P → (match (if P then (a0_0, enterA ⟨a1_1, a1_2, a1_3, a1_4⟩ a2_2 a2_3 (promI l0_2 a2_1) a0_1, promI l0_2 a2_1, decide (promI l0_2 a2_1 < a2_3), (0 : Int)) else ((0 : Int), (⟨0, 0, 0, false⟩ : Acc), (0 : Int), false, (1 : Int))) with
   | (bn, b, h, cut, er) => some (bn, b.ch, b.cg, b.la, b.fr, h, cut, er)) = some (r1, r2, r3, r4, r5, r6, r7, r8) → (0 = r1 ∧ 0 = r2 ∧ 0 = r3 ∧ 0 = r4 ∧ false = r5 ∧ 0 = r6 ∧ false = r7 ∧ 1 = r8) := fun hP h => by
  rw [if_neg hP] at h
  simpa using h
 cases c1 : cvalidB a0_0 a0_1 l0_2 with
 | false =>
  obtain ⟨rfl, rfl, rfl, rfl, rfl, rfl, rfl, rfl⟩ := none_ (fun k => by rw [c1] at k; cases k.1) h
  rw [c1] at hv
  exact judge_valid _ _ _ _ _ _ _ _ _ _ _ _ _ _ w hr0_2 hc0_2 hv
 | true =>
  rw [c1] at hv
  cases c2 : accB a1_0 ⟨a1_1, a1_2, a1_3, a1_4⟩ with
  | false =>
   obtain ⟨rfl, rfl, rfl, rfl, rfl, rfl, rfl, rfl⟩ := none_ (fun k => by rw [c2] at k; cases k.2.1) h
   rw [c2] at hacc
   exact judge_account _ _ _ _ _ _ _ _ _ _ _ _ _ _ w hr0_2 hc0_2 hv hacc
  | true =>
   rw [c2] at hacc
   cases c3 : ansB a2_0 a2_1 a2_2 a2_3 with
   | false =>
    obtain ⟨rfl, rfl, rfl, rfl, rfl, rfl, rfl, rfl⟩ := none_ (fun k => by rw [c3] at k; cases k.2.2.1) h
    rw [c3] at hans
    exact judge_answer _ _ _ _ _ _ _ _ _ _ _ _ _ _ w hr0_2 hc0_2 hv hacc hans
   | true =>
    rw [c3] at hans
    by_cases c4 : a1_0 = a0_0
    ·by_cases c5 : a2_0 = a0_0
     ·subst c4 c5
      rw [if_pos ⟨c1, c2, c3, rfl, rfl⟩] at h
      obtain ⟨b, hb⟩ : ∃ b, enterA ⟨a1_1, a1_2, a1_3, a1_4⟩ a2_2 a2_3 (promI l0_2 a2_1) a0_1 = b := ⟨_, rfl⟩
      rw [hb] at h
      obtain ⟨bch, bcg, bla, bfr⟩ := b
      simp only [Option.some.injEq, Prod.mk.injEq] at h
      obtain ⟨rfl, rfl, rfl, rfl, rfl, rfl, rfl, rfl⟩ := h
      have hok : (Acc.mk a1_1 a1_2 a1_3 a1_4).Ok := by
       unfold accB at c2
       simp only [Bool.and_eq_true, decide_eq_true_eq] at c2
       exact c2.2
      unfold ansB at c3
      simp only [Bool.and_eq_true, decide_eq_true_eq] at c3
      have hxo : HOk a2_3 := by
       have c6 := c3.2
       by_cases k1 : a2_2 = 1
       ·rw [if_pos k1] at c6
        exact of_decide_eq_true c6
       ·rw [if_neg k1] at c6
        by_cases k2 : a2_2 = 2 ∨ a2_2 = 3
        ·rw [if_pos k2] at c6
         rw [of_decide_eq_true c6]
         exact ⟨by omega, by omega⟩
        ·rw [if_neg k2] at c6
         cases c6
      exact judge_go _ _ _ _ _ _ _ _ _ _ _ _ w hr0_2 hc0_2 hv hacc hans _ (promised_f (cvalid_valid c1) _) hok hxo (prom_ok c1 _) _ _ _ _ hb
     ·obtain ⟨rfl, rfl, rfl, rfl, rfl, rfl, rfl, rfl⟩ := none_ (fun k => c5 k.2.2.2.2) h
      exact judge_of _ _ _ _ _ _ _ _ _ _ _ _ _ _ w hr0_2 hc0_2 hv hacc hans c4 c5
    ·obtain ⟨rfl, rfl, rfl, rfl, rfl, rfl, rfl, rfl⟩ := none_ (fun k => c4 k.2.2.2.1) h
     exact judge_node _ _ _ _ _ _ _ _ _ _ _ _ _ _ w hr0_2 hc0_2 hv hacc hans c4
end Go.Proofs.Ytjpghfjaloglhaa.PContract

