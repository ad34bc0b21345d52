import Derived.Test.YtjpghfjaloglhaaZTMEContractHeadE
import Derived.Test.YtjpghfjaloglhaaZTMEContractFewI
import Derived.Test.YtjpghfjaloglhaaZTMEContractHeadP
/-
formelaw38.head returns true: the examples of the chapter, worked out.
Conditions: none.
-/
namespace Go.Proofs.Ytjpghfjaloglhaa.PContract
open Go.RowKit Go.Proofs.YtjpghfjaloglhaaW.PrintWords
theorem headP_f {k : Nat} (hk : 10 ≤ k) : formelaw38_headP.f k = some true := by
 have hs : formeref02_SameInts.f k [100, 100, 100] [100, 100, 100] = some true := by rw [sameInts_f (by simp) (by simp; omega)]; simp
 have a1 : ∀ w h : Int, formelaw38_answer.f w h = some (5, w, 1, h) := fun _ _ => rfl
 unfold formelaw38_headP.f
 rw [exE0]
 simp only [Option.bind_some]
 rw [a1, a1, a1]
 simp only [Option.bind_some]
 rw [exE1]
 simp only [Option.bind_some]
 rw [exE2, exE3, exE4, exE5, exE6, exE7, hs]
 rfl
def formelaw38_head.f : Option Bool := some true
theorem formelaw38_head.calls (r : Bool) (w : World) (h : formelaw38_head.f = some r) : Calls Try.prog 57 #[] w fun e w' => e = .returned (.bool r) ∧ Below w.heap.size w w' := by
 obtain rfl : true = r := by simpa [formelaw38_head.f] using h
 exact formelaw38_headP.calls 10 true w (headP_f (Nat.le_refl 10))
end Go.Proofs.Ytjpghfjaloglhaa.PContract

