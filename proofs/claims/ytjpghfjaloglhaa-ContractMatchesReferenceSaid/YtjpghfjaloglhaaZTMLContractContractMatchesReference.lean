import Derived.Test.YtjpghfjaloglhaaRows
import Derived.Test.YtjpghfjaloglhaaZTMPContractx18
import Derived.Test.YtjpghfjaloglhaaZTMEContractPuContractMatchesReference
import Derived.WalkKit
import Derived.ProofKit
import Derived.OpenShut
import Derived.ShutString
import Derived.ChangeOld
import Derived.Below
import Derived.SizedLaws
import Derived.Lib.SmallJoins
import Derived.ChangeSame
import Derived.JoinedOf
import Derived.JoinedAt
import Derived.RowKit3
import Derived.Carry
import Derived.ChangeSlices
/-
ContractMatchesReference: for every input the law returns true, and each argument reads afterwards as it read before.
Conditions: none.
-/
namespace Go.Proofs.Ytjpghfjaloglhaa.contractMatchesReference
open Go.ChangeShapes Go.WideShapes Go.ChangeAt Go.RowKit Go.Joins Go.Proofs.YtjpghfjaloglhaaW.PrintWords
set_option linter.unusedVariables false
set_option maxHeartbeats 4000000 in
theorem over : Rows.contractMatchesReferenceRow.holds Try.pinned (OpenSpec.ofChange Rows.contractMatchesReferenceSpec) :=
  OpenClaim.holds_of_wide 16 Try.f16 rfl rfl rfl rfl rfl rfl rfl ⟨rfl, rfl, rfl, rfl, rfl⟩ rfl rfl rfl rfl rfl (by as_aux_lemma => kernel_rfl) Try.func16 (by as_aux_lemma => kernel_rfl)
    (of_decide_eq_true (by as_aux_lemma => kernel_rfl)) (by unfold Func.isWrapper; first | (rw [if_pos (by decide +kernel)]; kernel_rfl) | (rw [if_neg (by decide +kernel)]; exact ⟨rfl, rfl⟩))
    (fun os started H enc _ => lifted os started H enc)
theorem proved : Rows.ContractMatchesReferenceSaid := over
#print axioms proved
end Go.Proofs.Ytjpghfjaloglhaa.contractMatchesReference
namespace Go.Proofs.Ytjpghfjaloglhaa
theorem contractMatchesReference_holds : Rows.ContractMatchesReferenceSaid := contractMatchesReference.proved
end Go.Proofs.Ytjpghfjaloglhaa

