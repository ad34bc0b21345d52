/-
QuotBeginnings is true: what fits the values of a quotient comes not behind it, and what fits a beginning of them comes not behind what fits all.
Conditions: none.
-/
import Derived.Test.YtjpghfjaloglhaaEQuotBeg
import Derived.Test.YtjpghfjaloglhaaEQuotBegM
namespace Go.Proofs.Ytjpghfjaloglhaa.PQuot
open Go.RowKit Go.Proofs.YtjpghfjaloglhaaW.PrintWords

theorem formelaw01_QuotBeginnings.calls (a b d n less : Int) (r : Bool) (w : World) (h : formelaw01_QuotBeginnings.f a b d n less = some r) :
    Calls Try.prog 6 #[.agg #[.int .i64 a, .int .i64 b, .int .i64 d], .int .u16 n, .int .u16 less] w fun e w' => e = .returned (.bool r) ∧ Below w.heap.size w w' := by
  unfold formelaw01_QuotBeginnings.f at h
  by_cases c : (0 ≤ n ∧ n ≤ 65535) ∧ 0 ≤ less ∧ less ≤ 65535
  · rw [if_pos c] at h
    obtain rfl := Option.some.inj h
    obtain ⟨hn, hless⟩ := c
    cases hv : VB a b d with
    | false => exact beg_invalid a b d n less w (by rw [rvalid_f, hv])
    | true =>
      have hm1 : 0 ≤ n % 300 ∧ n % 300 < 300 := ⟨Int.emod_nonneg _ (by omega), Int.emod_lt_of_pos _ (by omega)⟩
      obtain ⟨m, hm⟩ : ∃ m : Nat, 1 + n % 300 = (m : Int) := ⟨(1 + n % 300).toNat, by omega⟩
      have hlen := vals_len a b d m
      have hl2 : 0 ≤ less % ((vals a b d m).length : Int) ∧ less % ((vals a b d m).length : Int) < ((vals a b d m).length : Int) := ⟨Int.emod_nonneg _ (by omega), Int.emod_lt_of_pos _ (by omega)⟩
      have hmade := made_f (a := a) (b := b) (d := d) hv (n := m) (by omega)
      cases hc : coords (vals a b d m) with
      | false =>
        rw [hc] at hmade
        exact beg_none a b d n less w hn (by rw [rvalid_f, hv]) (by rw [hm]; simpa using hmade)
      | true =>
        rw [hc] at hmade
        obtain ⟨k, hk⟩ : ∃ k : Nat, 1 + less % ((vals a b d m).length : Int) = (k : Int) := ⟨(1 + less % ((vals a b d m).length : Int)).toNat, by omega⟩
        obtain ⟨p, q, f1, f2, g1, g2, g3, g4, g5⟩ := beginnings hv (m := m) (k := k) (by omega) (by omega) hc
        exact beg_some a b d n less w hn hless (vals a b d m) (by omega) (by omega) k (by omega) (by omega) hk (by rw [rvalid_f, hv]) (by rw [hm]; simpa using hmade) p.A p.B p.D q.A q.B q.D f1 f2 g1 g2 g3 g4 g5
  · rw [if_neg c] at h
    cases h

theorem QuotBeginnings_true (a b d n less : Int) (_ : (Lit.int .i64 a).wf = true) (_ : (Lit.int .i64 b).wf = true) (_ : (Lit.int .i64 d).wf = true) (wn : (Lit.int .u16 n).wf = true) (wl : (Lit.int .u16 less).wf = true) : formelaw01_QuotBeginnings.f a b d n less = some true := by
  have e1 : ∀ x : Int, (Lit.int .u16 x).wf = true → 0 ≤ x ∧ x ≤ 65535 := fun x h => by
    have e1 : IntKind.u16.min = 0 := rfl
    have e2 : IntKind.u16.max = 65535 := rfl
    simp only [Lit.wf, Bool.and_eq_true, decide_eq_true_eq, e1, e2] at h
    exact h
  exact if_pos ⟨e1 n wn, e1 less wl⟩

end Go.Proofs.Ytjpghfjaloglhaa.PQuot
