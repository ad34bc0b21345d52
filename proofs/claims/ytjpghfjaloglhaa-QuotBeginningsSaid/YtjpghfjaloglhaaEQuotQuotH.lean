/-
The reference's Fits and Before, in plain terms.
Conditions: those that each lemma names.
-/
import Derived.Test.YtjpghfjaloglhaaEQuotQuotG
import Derived.Test.YtjpghfjaloglhaaPQuotx0
import Derived.Test.YtjpghfjaloglhaaPQuotx9
import Derived.Test.YtjpghfjaloglhaaPQuotx10
namespace Go.Proofs.Ytjpghfjaloglhaa.PQuot
open Go.RowKit Go.Proofs.YtjpghfjaloglhaaW.PrintWords

instance decFitsAt (A B D : Int) : ∀ (i : Int) (l : List Int), Decidable (Q.FitsAt A B D i l)
  | _, [] => isTrue trivial
  | i, _ :: l => have := decFitsAt A B D (i + 1) l; inferInstanceAs (Decidable ((_ ∧ _) ∧ _))
instance decFits (q : Q.Quo) (l : List Int) : Decidable (q.Fits l) := decFitsAt q.A q.B q.D 0 l
instance decBefore (q r : Q.Quo) : Decidable (q.Before r) := inferInstanceAs (Decidable (_ ∨ _))

/-- What Fits and Before say. -/
theorem rfits_l0 (l : List Int) {a b d : Int} (h : VB a b d = true) (hl : l.length ≤ 4000) : ∀ (m k i : Nat), i + m = l.length → m < k →
    formeref01_Fits.l0 k l (i : Int) a b d = some (decide (Q.FitsAt a b d (i : Int) (l.drop i)))
  | 0, k, i, hm, hk => by
    obtain ⟨k, rfl⟩ : ∃ m, k = m + 1 := ⟨k - 1, by omega⟩
    have e : l.drop i = [] := List.drop_eq_nil_of_le (by omega)
    rw [e]
    unfold formeref01_Fits.l0
    rw [if_neg (by omega), decide_eq_true (show Q.FitsAt a b d (i : Int) [] from trivial)]
  | m + 1, k, i, hm, hk => by
    obtain ⟨k, rfl⟩ : ∃ m, k = m + 1 := ⟨k - 1, by omega⟩
    have hi1 : i < l.length := by omega
    unfold formeref01_Fits.l0
    rw [if_pos (by omega), rvalue_f h (by omega)]
    simp only [Option.bind_some]
    rw [if_pos (by omega), wrap_in (x := (i : Int) + 1) (by omega) (by omega), rd_drop hi1]
    have e1 : (i : Int) + 1 = ((i + 1 : Nat) : Int) := by omega
    rw [e1, rfits_l0 l h hl m k (i + 1) (by omega) (by omega)]
    have hd := (VB_iff.1 h).1
    simp only at hd
    have hv : val a b d (i : Int) = rd l (i : Int) ↔ d * rd l (i : Int) ≤ a * (i : Int) + b ∧ a * (i : Int) + b < d * rd l (i : Int) + d := by
      unfold val
      generalize rd l (i : Int) = v
      generalize a * (i : Int) + b = x
      have h3 := Int.mul_ediv_add_emod x d
      have h4 := Int.emod_nonneg x (show d ≠ 0 by omega)
      have h5 := Int.emod_lt_of_pos x (show 0 < d by omega)
      constructor
      · rintro rfl
        omega
      · rintro ⟨g1, g2⟩
        apply Int.le_antisymm
        · have : x / d < v + 1 := by
            rw [Int.ediv_lt_iff_lt_mul (by omega), Int.add_mul, Int.mul_comm v d]
            omega
          omega
        · rw [Int.le_ediv_iff_mul_le (by omega), Int.mul_comm v d]
          omega
    by_cases c : val a b d (i : Int) = rd l (i : Int)
    · rw [if_pos c]
      congr 1
      rw [decide_eq_decide]
      simp only [Q.FitsAt]
      rw [e1]
      exact ⟨fun h => ⟨hv.1 c, h⟩, fun h => h.2⟩
    · rw [if_neg c]
      congr 1
      symm
      rw [decide_eq_false_iff_not]
      simp only [Q.FitsAt]
      exact fun h => c (hv.2 h.1)
theorem rfits_f {k : Nat} (l : List Int) {a b d : Int} (h : VB a b d = true) (hl : l.length ≤ 4000) (hk : l.length < k) : formeref01_Fits.f k a b d l = some (decide ((Q.Quo.mk a b d).Fits l)) := by
  have h2 := rfits_l0 l h hl l.length k 0 (by omega) (by omega)
  unfold formeref01_Fits.f
  exact h2

theorem rbefore_f {a b d a' b' d' : Int} (ha : Q.Coord a) (ha' : Q.Coord a') : formeref01_Before.f a b d a' b' d' = some (decide ((Q.Quo.mk a b d).Before ⟨a', b', d'⟩)) := by
  obtain ⟨h1, h2⟩ := ha
  obtain ⟨h3, h4⟩ := ha'
  unfold formeref01_Before.f
  rw [rabs_f (a := a) (by omega), rabs_f (a := a') (by omega)]
  simp only [Option.bind_some]
  have e : ∀ p q : Prop, ∀ [Decidable p] [Decidable q], (p ↔ q) → some (decide p) = some (decide q) := fun p q _ _ h => by rw [decide_eq_decide.2 h]
  have e1 : ∀ q : Prop, ∀ [Decidable q], q → some true = some (decide q) := fun q _ h => by rw [decide_eq_true h]
  have e0 : ∀ q : Prop, ∀ [Decidable q], ¬ q → some false = some (decide q) := fun q _ h => by rw [decide_eq_false h]
  by_cases c1 : d = d'
  · rw [if_pos c1]
    by_cases c2 : Q.iabs a = Q.iabs a'
    · rw [if_pos c2]
      by_cases c3 : a < a'
      · rw [if_pos c3]
        exact e1 _ (by unfold Q.Quo.Before; simp only; omega)
      · rw [if_neg c3]
        by_cases c4 : a = a'
        · rw [if_pos c4]
          exact e _ _ (by unfold Q.Quo.Before; simp only; omega)
        · rw [if_neg c4]
          exact e0 _ (by unfold Q.Quo.Before; simp only; omega)
    · rw [if_neg c2]
      exact e _ _ (by unfold Q.Quo.Before; simp only; omega)
  · rw [if_neg c1]
    exact e _ _ (by unfold Q.Quo.Before; simp only; omega)

end Go.Proofs.Ytjpghfjaloglhaa.PQuot
