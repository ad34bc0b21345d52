import Derived.Test.YtjpghfjaloglhaaZTUEContractHead38
import Derived.Test.YtjpghfjaloglhaaZTUPContractx0
import Derived.Test.YtjpghfjaloglhaaZTUPContractx9
/-
The helpers of the laws on contracts: head, Few.
Conditions: those that each lemma names.
-/
namespace Go.Proofs.Ytjpghfjaloglhaa.PContract
open Go.RowKit Go.Proofs.YtjpghfjaloglhaaW.PrintWords
theorem few38 {k : Nat} (hk : 110 ≤ k) (n m : Int) (l : List SP) : ∃ b, formeref38_Few.f k n m l = some b := by
  obtain ⟨b, hb⟩ := few_f hk l
  refine ⟨b, ?_⟩
  unfold formeref38_Few.f
  rw [hb]
  rfl
theorem head38 : formelaw38_head.f = some true := rfl
end Go.Proofs.Ytjpghfjaloglhaa.PContract

