import Derived.Test.YtjpghfjaloglhaaZTMEContractCourseW
/-
contract.Course returns the account after answers and the heights of the box: at every contract and list of answers.
Conditions: none.
-/
namespace Go.Proofs.Ytjpghfjaloglhaa.PContract
open Go.RowKit Go.Proofs.YtjpghfjaloglhaaW.PrintWords
set_option linter.unusedVariables false
set_option linter.unusedSimpArgs false
theorem contract_Course.calls (a0_0 a0_1 : Int) (A0_2 : Option Addr) (c0_2 : Nat) (l0_2 : List SP) (A1 : Option Addr) (c1 : Nat) (l1 : List SA) (r1 r2 r3 r4 : Int) (r5 : Bool) (r6 : List Int) (r7 : Int) (w : World) (hr0_2 : Kd.C k61 w A0_2 l0_2.length l0_2) (hc0_2 : l0_2.length ≤ c0_2) (hr1 : Kd.C k78 w A1 l1.length l1) (hc1 : l1.length ≤ c1) (h : contract_Course.f a0_0 a0_1 l0_2 l1 = some (r1, r2, r3, r4, r5, r6, r7)) :
  Calls Try.prog 65 #[.agg #[.int .i64 a0_0, .int .i64 a0_1, .slice A0_2 l0_2.length c0_2], .slice A1 l1.length c1] w fun e w' => ∃ v5_ : Value, e = .returned (.tuple #[.agg #[.int .i64 r1, .int .i64 r2, .int .i64 r3, .int .i64 r4, .bool r5], v5_, .int .i64 r7]) ∧ Kd.R (Kd.int .i64) 3 w' w.heap.size (fun _ => True) v5_ r6 ∧ Below w.heap.size w w' := by
 show Calls Try.prog 65 _ w (CoursePost w r1 ⟨r2, r3, r4, r5⟩ r6 r7)
 unfold contract_Course.f courseOut at h
 have hv : contract_Valid.f a0_0 a0_1 l0_2 = some (cvalidB a0_0 a0_1 l0_2) := rfl
 cases c1 : cvalidB a0_0 a0_1 l0_2 with
 | false =>
  rw [if_pos c1] at h
  rw [c1] at hv
  obtain ⟨rfl, rfl, rfl, rfl, rfl, rfl, rfl⟩ : 0 = r1 ∧ 0 = r2 ∧ 0 = r3 ∧ 0 = r4 ∧ false = r5 ∧ [] = r6 ∧ 1 = r7 := by simpa using h
  exact course_valid _ _ _ _ _ _ _ _ w hr0_2 hc0_2 hr1 hc1 hv
 | true =>
  rw [if_neg (by rw [c1]; simp)] at h
  rw [c1] at hv
  by_cases c2 : l1.length > 500
  ·rw [if_pos c2] at h
   obtain ⟨rfl, rfl, rfl, rfl, rfl, rfl, rfl⟩ : 0 = r1 ∧ 0 = r2 ∧ 0 = r3 ∧ 0 = r4 ∧ false = r5 ∧ [] = r6 ∧ 2 = r7 := by simpa using h
   exact course_long _ _ _ _ _ _ _ _ w hr0_2 hc0_2 hr1 hc1 hv c2
  ·rw [if_neg c2] at h
   cases c3 : l1.any (strangeB a0_0) with
   | true =>
    rw [if_pos c3] at h
    obtain ⟨rfl, rfl, rfl, rfl, rfl, rfl, rfl⟩ : 0 = r1 ∧ 0 = r2 ∧ 0 = r3 ∧ 0 = r4 ∧ false = r5 ∧ [] = r6 ∧ 1 = r7 := by simpa using h
    exact course_strange _ _ _ _ _ _ _ _ w hr0_2 hc0_2 hr1 hc1 hv c2 c3
   | false =>
    rw [if_neg (by rw [c3]; simp)] at h
    obtain ⟨b, hb⟩ : ∃ b, runA a0_1 l0_2 ⟨0, 0, 0, false⟩ l1 = b := ⟨_, rfl⟩
    rw [hb] at h
    obtain ⟨bch, bcg, bla, bfr⟩ := b
    simp only [Option.some.injEq, Prod.mk.injEq] at h
    obtain ⟨rfl, rfl, rfl, rfl, rfl, rfl, rfl⟩ := h
    exact course_go _ _ _ _ _ _ _ _ w hr0_2 hc0_2 hr1 hc1 hv c2 c3 c1 _ _ _ _ hb
end Go.Proofs.Ytjpghfjaloglhaa.PContract

