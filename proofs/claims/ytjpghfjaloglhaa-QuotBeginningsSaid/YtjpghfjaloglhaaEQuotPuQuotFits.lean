/-
QuotFits is true: what Fit returns fits, none that fits comes before it, and if it returns none, none fits.
Conditions: none.
-/
import Derived.Test.YtjpghfjaloglhaaEQuotQuotH
import Derived.Test.YtjpghfjaloglhaaEQuotHead01
import Derived.Test.YtjpghfjaloglhaaPQuotx0
import Derived.Test.YtjpghfjaloglhaaPQuotx11
namespace Go.Proofs.Ytjpghfjaloglhaa.PQuot
open Go.RowKit Go.Proofs.YtjpghfjaloglhaaW.PrintWords

theorem u8_wf {x : Int} (h : (Lit.int .u8 x).wf = true) : 0 ≤ x ∧ x ≤ 255 := by
  have e1 : IntKind.u8.min = 0 := rfl
  have e2 : IntKind.u8.max = 255 := rfl
  simp only [Lit.wf, Bool.and_eq_true, decide_eq_true_eq, e1, e2] at h
  exact h
theorem valuesB_facts {l : List Int} (h : valuesB l = true) : fitOut l = foundOut (Q.fitL l) ∧ (∀ x ∈ l, Q.Coord x) ∧ 1 ≤ l.length ∧ l.length ≤ 4000 := by
  unfold valuesB at h
  rw [Bool.and_eq_true, decide_eq_true_eq] at h
  obtain ⟨h1, h2, h3⟩ := h
  refine ⟨?_, coord_all h1, h2, h3⟩
  unfold fitOut
  rw [if_neg (by omega), if_neg (by rw [h1]; simp), if_neg (by omega)]
  rfl
theorem cut_f {k : Nat} (hk : 1000 ≤ k) (l : List Int) : formelaw01_cut.f k l = some (l.take 300, valuesB (l.take 300)) := by
  unfold formelaw01_cut.f
  rw [mn_min, if_pos (by omega), if_pos (by omega)]
  have e : l.take (min (l.length : Int) 300).toNat = l.take 300 := by
    by_cases c : l.length ≤ 300
    · rw [show (min (l.length : Int) 300).toNat = l.length by omega, List.take_of_length_le (Nat.le_refl _), List.take_of_length_le c]
    · rw [show (min (l.length : Int) 300).toNat = 300 by omega]
  rw [e]
  simp only [Option.bind_some]
  rw [rvalues_f _ (by simp; omega) (by simp; omega)]
  rfl

theorem fits_j0 {k : Nat} (hk : 5000 ≤ k) {l : List Int} (hl : l.length ≤ 4000) (h1 : 1 ≤ l.length) (a b d : Int) (hd : 0 ≤ d ∧ d ≤ 255) (o : Option Q.Quo) (ho : Q.fitL l = o) :
    formelaw01_QuotFits.j0 (k + 1) a b d true l (foundOut o).2.2.2.1 false (foundOut o).1 (foundOut o).2.1 (foundOut o).2.2.1 = some true := by
  rw [formelaw01_QuotFits.j0]
  simp only [Bool.false_eq_true, if_false, if_true]
  have hm : 0 ≤ Int.tmod d 16 ∧ Int.tmod d 16 < 16 := by
    rw [Int.tmod_eq_emod_of_nonneg hd.1]
    exact ⟨Int.emod_nonneg _ (by omega), Int.emod_lt_of_pos _ (by omega)⟩
  rw [wrap_in (x := d) (by omega) (by omega), wrap_in (x := 1 + Int.tmod d 16) (by omega) (by omega)]
  generalize 1 + Int.tmod d 16 = d' at *
  rw [rvalid_f]
  simp only [Option.bind_some]
  cases hv : VB a b d' with
  | false => simp
  | true =>
    rw [rfits_f l hv hl (by omega)]
    simp only [if_true, Option.bind_some]
    have hok := VB_iff.1 hv
    by_cases hf : (Q.Quo.mk a b d').Fits l
    · rw [decide_eq_true hf]
      cases o with
      | none => exact absurd hf (Q.fitL_none h1 ho _ hok)
      | some q =>
        have hfst := Q.fitL_first h1 ho
        simp only [foundOut, if_true]
        rw [rbefore_f hok.2.1 hfst.ok.2.1]
        simp only [Option.bind_some]
        rw [decide_eq_false (hfst.least _ hok hf)]
        rfl
    · rw [decide_eq_false hf]
      simp

theorem QuotFits_true (l : List Int) (a b d : Int) (_ : l.length * 8 ≤ 140737488351232) (_ : ∀ x ∈ l, (Lit.int .i64 x).wf = true) (_ : (Lit.int .i64 a).wf = true) (_ : (Lit.int .i64 b).wf = true) (wd : (Lit.int .u8 d).wf = true) : ∃ k, formelaw01_QuotFits.f k l a b d = some true := by
  have hd := u8_wf wd
  refine ⟨10001, ?_⟩
  unfold formelaw01_QuotFits.f formelaw01_head.f
  rw [cut_f (by omega)]
  simp only [Option.bind_some]
  cases hv : valuesB (l.take 300) with
  | false => simp
  | true =>
    obtain ⟨hf, hco, h1, hl⟩ := valuesB_facts hv
    simp only [if_true, quot_Fit.f, Option.bind_some]
    rw [hf]
    have key := fun o ho => fits_j0 (k := 10000) (by omega) hl h1 a b d hd o ho
    cases ho : Q.fitL (l.take 300) with
    | none =>
      have := key none ho
      simpa [foundOut] using this
    | some q =>
      have hfst := Q.fitL_first h1 ho
      have this := key (some q) ho
      simp only [foundOut, if_true]
      have hvb : VB q.A q.B q.D = true := VB_iff.2 hfst.ok
      rw [rvalid_f, hvb]
      simp only [Option.bind_some, if_true]
      rw [rfits_f _ hvb hl (by omega), decide_eq_true (show (Q.Quo.mk q.A q.B q.D).Fits _ from hfst.fits)]
      simpa [foundOut] using this

end Go.Proofs.Ytjpghfjaloglhaa.PQuot
