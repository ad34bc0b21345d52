import Derived.Test.YtjpghfjaloglhaaZMRECurveRefE
import Derived.Test.YtjpghfjaloglhaaZMRECurveCurveI
import Derived.Test.YtjpghfjaloglhaaZMRECurvePOpen
import Derived.Test.YtjpghfjaloglhaaZMRPCurvex0
import Derived.Test.YtjpghfjaloglhaaZMRPCurvex21
/-
CurveMatchesReference is true: all functions return what the reference returns.
Conditions: none.
-/
namespace Go.Proofs.Ytjpghfjaloglhaa.PCurve
set_option linter.unusedSimpArgs false
open Go.RowKit Go.Proofs.YtjpghfjaloglhaaW.PrintWords
theorem few_len {k : Nat} {l : List SP} (h : formeref02_Few.f k l = some true) : l.length < 50 := by
  have key : ∀ (k : Nat), (∀ (x : Int) (i : Int), formeref02_Few.l0 k l x i = some true → l.length < 50) ∧ (∀ (x : Int) (i : Int) (b : Bool), formeref02_Few.j1 k l x i b = some true → l.length < 50) := fun k => by
    induction k with
    | zero => exact ⟨(fun x i h => by simp [formeref02_Few.l0] at h), (fun x i b h => by simp [formeref02_Few.j1] at h)⟩
    | succ k ih =>
      refine ⟨fun x i h => ?_, fun x i b h => ?_⟩
      · rw [formeref02_Few.l0] at h
        split at h
        · exact ih.2 _ _ _ h
        · exact ih.2 _ _ _ h
      · rw [formeref02_Few.j1] at h
        by_cases c : (l.length : Int) < 50
        · omega
        · rw [if_neg c] at h
          repeat' split at h
          all_goals first | exact ih.1 _ _ h | cases h
  exact (key k).1 0 0 h
theorem make_len (a : Int) (l : List Int) : (makeOut a l).1.length ≤ 4000 := by
  by_cases c : (makeOut a l).2 = 0
  · have hg := make_ok_good c
    rw [make_good hg]
    have := (joined_facts (parts_joined hg)).2.2
    rw [(parts_spec hg.co hg.zero hg.far).2] at this
    show (parts a l).length ≤ 4000
    omega
  · rw [make_err c]
    simp
theorem values_len (l : List SP) : (valuesOut l).1.length ≤ 4000 := by
  unfold valuesOut
  cases h : validB l with
  | false => simp
  | true => exact (joined_facts (valid_joined h)).2.2.1
theorem sum_len (a b : List SP) : (joinSum a b).1.length ≤ 4000 := by
  unfold joinSum
  split
  · split
    · simp
    · exact make_len _ _
  · simp
theorem max_len (a b : List SP) : (joinMax a b).1.length ≤ 4000 := by
  unfold joinMax
  split
  · split
    · simp
    · exact make_len _ _
  · simp
theorem matches_j {k : Nat} (hk : 400000 ≤ k) {a b : List SP} (ha : a.length < 50) (hb : b.length < 50) (from_ : Int) (l : List Int) (n : Int) : formelaw02_CurveMatchesReference.j0 k a b from_ l n true false = some true := by
  obtain ⟨k, rfl⟩ : ∃ t, k = t + 4 := ⟨k - 4, by omega⟩
  have m1 := make_len from_ l
  have m2 := values_len a
  have m3 := sum_len a b
  have m4 := max_len a b
  rw [formelaw02_CurveMatchesReference.j0, if_neg (by simp)]
  unfold curve_Make.f curve_Valid.f
  simp only [Option.bind_some, if_true]
  rw [rmake_f (by omega)]
  simp only [Option.bind_some]
  rw [rvalid_c (by omega) ha]
  simp only [Option.bind_some, beq_self_eq_true, if_true]
  rw [same_f (by omega) (by omega)]
  simp only [Option.bind_some, decide_true, if_true]
  rw [formelaw02_CurveMatchesReference.j1]
  unfold curve_At.f
  simp only [Option.bind_some]
  rw [rat_f (by omega) ha]
  simp only [Option.bind_some, if_true, beq_self_eq_true]
  rw [formelaw02_CurveMatchesReference.j2]
  unfold curve_Values.f
  simp only [Option.bind_some]
  rw [rvals_f (by omega) ha]
  simp only [Option.bind_some, if_true, beq_self_eq_true]
  rw [sameInts_f (by omega) (by omega)]
  simp only [Option.bind_some, decide_true, if_true]
  rw [formelaw02_CurveMatchesReference.j3]
  unfold curve_Sum.f curve_Max.f
  simp only [Option.bind_some, if_true]
  rw [rsum_f (by omega) ha hb]
  simp only [Option.bind_some]
  rw [same_f (by omega) (by omega)]
  simp only [Option.bind_some, decide_true, if_true]
  rw [rmax_f (by omega) ha hb]
  simp only [Option.bind_some, if_true]
  rw [same_f (by omega) (by omega)]
  simp only [Option.bind_some, decide_true, if_true, beq_self_eq_true]
theorem CurveMatchesReference_true (l0 l1 : List SP) (a2 : Int) (l3 : List Int) (a4 : Int) (_ : ∀ p ∈ l0, partWf p) (_ : ∀ p ∈ l1, partWf p) (_ : (Lit.int .i64 a2).wf = true) (_ : l3.length * 8 ≤ 140737488351232) (_ : ∀ x ∈ l3, (Lit.int .i64 x).wf = true) (_ : (Lit.int .i64 a4).wf = true) : ∃ k, formelaw02_CurveMatchesReference.f k l0 l1 a2 l3 a4 = some true := by
  refine ⟨500000, ?_⟩
  generalize hK : (500000 : Nat) = K
  have hj : formelaw02_CurveMatchesReference.j0 K l0 l1 a2 l3 a4 true true = some true := by
    obtain ⟨k, rfl⟩ : ∃ t, K = t + 1 := ⟨K - 1, by omega⟩
    rw [formelaw02_CurveMatchesReference.j0, if_pos rfl]
  unfold formelaw02_CurveMatchesReference.f
  obtain ⟨b0, h0⟩ := few_f (k := K) (by omega) l0
  obtain ⟨b1, h1⟩ := few_f (k := K) (by omega) l1
  rw [head02 (by omega), h0]
  simp only [Option.bind_some]
  cases b0 with
  | false => rw [if_neg (by simp)]; exact hj
  | true =>
    rw [if_pos rfl, h1]
    simp only [Option.bind_some]
    cases b1 with
    | false => rw [if_neg (by simp)]; exact hj
    | true =>
      rw [if_pos rfl]
      have g0 := few_len h0
      have g1 := few_len h1
      by_cases c : (l3.length : Int) > 40
      · rw [if_pos c]
        by_cases c2 : (l3.length : Int) ≤ 4000
        · rw [decide_eq_true c2]
          exact hj
        · rw [decide_eq_false c2]
          exact matches_j (by omega) g0 g1 _ _ _
      · rw [if_neg c]
        exact matches_j (by omega) g0 g1 _ _ _
end Go.Proofs.Ytjpghfjaloglhaa.PCurve

