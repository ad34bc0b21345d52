/-
QuotMatchesReference is true: all functions of quot return what the reference returns.
Conditions: none.
-/
import Derived.Test.YtjpghfjaloglhaaEQuotQuotG
import Derived.Test.YtjpghfjaloglhaaEQuotHead01
import Derived.Test.YtjpghfjaloglhaaPQuotx0
import Derived.Test.YtjpghfjaloglhaaPQuotx7
namespace Go.Proofs.Ytjpghfjaloglhaa.PQuot
open Go.RowKit Go.Proofs.YtjpghfjaloglhaaW.PrintWords

theorem qmr_j1 {k : Nat} (hk : 20000 ≤ k) (n : Int) (l : List Int) (hl : l.length ≤ 100000) (a b d a' b' d' : Int) : formelaw01_QuotMatchesReference.j1 (k + 1) n l true a b d a' b' d' = some true := by
  rw [formelaw01_QuotMatchesReference.j1]
  rw [rfit_f (by omega) l hl, below_f (by omega), rbelow_f (by omega)]
  simp [quot_Fit.f]
theorem qmr_j0 {k : Nat} (hk : 20000 ≤ k) (n by_ : Int) (l : List Int) (hl : l.length ≤ 100000) (a b d a' b' d' : Int) : formelaw01_QuotMatchesReference.j0 (k + 2) n by_ l true a b d a' b' d' = some true := by
  rw [formelaw01_QuotMatchesReference.j0]
  rw [add_f, radd_f]
  simp only [Option.bind_some, if_true, beq_self_eq_true, Bool.and_self]
  exact qmr_j1 hk n l hl a b d a' b' d'
theorem QuotMatchesReference_true (a b d a' b' d' n by_ : Int) (l : List Int) (_ : (Lit.int .i64 a).wf = true) (_ : (Lit.int .i64 b).wf = true) (_ : (Lit.int .i64 d).wf = true) (_ : (Lit.int .i64 a').wf = true) (_ : (Lit.int .i64 b').wf = true) (_ : (Lit.int .i64 d').wf = true)
    (_ : (Lit.int .i64 n).wf = true) (_ : (Lit.int .i64 by_).wf = true) (_ : l.length * 8 ≤ 140737488351232) (_ : ∀ x ∈ l, (Lit.int .i64 x).wf = true) : ∃ k, formelaw01_QuotMatchesReference.f k a b d a' b' d' n by_ l = some true := by
  refine ⟨20002, ?_⟩
  unfold formelaw01_QuotMatchesReference.f formelaw01_head.f
  rw [mn_min, at_f, rat_f, valid_f, rvalid_f]
  simp only [Option.bind_some]
  rw [if_pos (by omega), if_pos (by omega)]
  simp only [if_true, beq_self_eq_true]
  exact qmr_j0 (k := 20000) (by omega) n by_ _ (by simp; omega) a b d a' b' d'

end Go.Proofs.Ytjpghfjaloglhaa.PQuot
