import Derived.Test.YtjpghfjaloglhaaZTMEContractCurveF
import Derived.Test.YtjpghfjaloglhaaZTMPContractx0
import Derived.Test.YtjpghfjaloglhaaZTMPContractx7
import Derived.Test.YtjpghfjaloglhaaZTMPContractx9
/-
The helpers of the laws: SameInts, Few.
Conditions: those that each lemma names.
-/
namespace Go.Proofs.Ytjpghfjaloglhaa.PContract
open Go.RowKit Go.Proofs.YtjpghfjaloglhaaW.PrintWords
theorem sameInts_l0 (l m : List Int) (he : l.length = m.length) (hl : l.length ≤ 9223372036854775806) : ∀ (f k i : Nat), l.length - i ≤ f → f < k → i ≤ l.length →
  formeref02_SameInts.l0 k l m (i : Int) = some (decide (l.drop i = m.drop i))
 | f, k, i, hf, hk, hi => by
  obtain ⟨k, rfl⟩ : ∃ n, k = n + 1 := ⟨k - 1, by omega⟩
  rw [formeref02_SameInts.l0]
  by_cases c : i < l.length
  ·obtain ⟨f, rfl⟩ : ∃ n, f = n + 1 := ⟨f - 1, by omega⟩
   rw [if_pos (by omega), if_pos (by omega), if_pos (by omega), rd_drop c, rd_drop (show i < m.length by omega)]
   rw [wrap_in (x := (i : Int) + 1) (by omega) (by omega)]
   have ih := sameInts_l0 l m he hl f k (i + 1) (by omega) (by omega) (by omega)
   rw [show ((i : Int) + 1) = ((i + 1 : Nat) : Int) by omega, ih]
   by_cases e : rd l (i : Int) = rd m (i : Int)
   ·simp [e]
   ·simp [e]
  ·rw [if_neg (by omega), List.drop_eq_nil_of_le (by omega), List.drop_eq_nil_of_le (by omega)]
   rfl
theorem sameInts_f {k : Nat} {l m : List Int} (hl : l.length ≤ 9223372036854775806) (hk : l.length < k) : formeref02_SameInts.f k l m = some (decide (l = m)) := by
 unfold formeref02_SameInts.f
 by_cases c : l.length = m.length
 ·rw [if_pos (by omega)]
  have := sameInts_l0 l m c hl l.length k 0 (by omega) (by omega) (by omega)
  simpa using this
 ·rw [if_neg (by omega), decide_eq_false (fun e => c (by rw [e]))]
theorem few_l0 (l : List SP) : ∀ (m k i : Nat) (x : Int), 50 ≤ i + m → 2 * m + 2 ≤ k → ∃ b, formeref02_Few.l0 k l x (i : Int) = some b
 | m, k, i, x, hm, hk => by
  obtain ⟨k, rfl⟩ : ∃ n, k = n + 2 := ⟨k - 2, by omega⟩
  rw [formeref02_Few.l0]
  have hend : ∀ x : Int, ∃ b, formeref02_Few.j1 (k + 1) l x (i : Int) false = some b := fun x => by
   rw [formeref02_Few.j1, if_neg (by simp)]
   by_cases c : (l.length : Int) < 50
   ·rw [if_pos c]; exact ⟨_, rfl⟩
   ·rw [if_neg c]; exact ⟨_, rfl⟩
  by_cases c : (i : Int) < (l.length : Int)
  ·rw [if_pos c]
   by_cases c2 : (i : Int) < 50
   ·obtain ⟨m, rfl⟩ : ∃ n, m = n + 1 := ⟨m - 1, by omega⟩
    have hn : ∀ x : Int, ∃ b, formeref02_Few.l0 k l x (wrap64 ((i : Int) + 1)) = some b := fun x => by
     rw [wrap_in (x := (i : Int) + 1) (by omega) (by omega)]
     exact few_l0 l m k (i + 1) x (by omega) (by omega)
    rw [decide_eq_true c2, formeref02_Few.j1, if_pos rfl, if_pos (by omega), if_pos c]
    repeat' split
    all_goals exact hn _
   ·rw [decide_eq_false c2]
    exact hend x
  ·rw [if_neg c]
   exact hend x
theorem few_f {k : Nat} (hk : 110 ≤ k) (l : List SP) : ∃ b, formeref02_Few.f k l = some b := few_l0 l 50 k 0 0 (by omega) (by omega)
theorem few_len {k : Nat} {l : List SP} (h : formeref02_Few.f k l = some true) : l.length < 50 := by
 have key : ∀ (k : Nat), (∀ (x : Int) (i : Int), formeref02_Few.l0 k l x i = some true → l.length < 50) ∧ (∀ (x : Int) (i : Int) (b : Bool), formeref02_Few.j1 k l x i b = some true → l.length < 50) := fun k => by
  induction k with
  | zero => exact ⟨(fun x i h => by simp [formeref02_Few.l0] at h), (fun x i b h => by simp [formeref02_Few.j1] at h)⟩
  | succ k ih =>
   refine ⟨fun x i h => ?_, fun x i b h => ?_⟩
   ·rw [formeref02_Few.l0] at h
    split at h
    ·exact ih.2 _ _ _ h
    ·exact ih.2 _ _ _ h
   ·rw [formeref02_Few.j1] at h
    by_cases c : (l.length : Int) < 50
    ·omega
    ·rw [if_neg c] at h
     repeat' split at h
     all_goals first | exact ih.1 _ _ h | cases h
 exact (key k).1 0 0 h
end Go.Proofs.Ytjpghfjaloglhaa.PContract

