/-
CurveBegins is true: the parts of the first values are the first parts of all, but for the last.
Conditions: none.
-/
import Derived.Test.YtjpghfjaloglhaaECurveCurveG
import Derived.Test.YtjpghfjaloglhaaPCurvex0
import Derived.Test.YtjpghfjaloglhaaPCurvex13
namespace Go.Proofs.Ytjpghfjaloglhaa.PCurve
open Go.RowKit Go.Proofs.YtjpghfjaloglhaaW.PrintWords

/-- The longest beginning that a quotient fits, of a beginning: the lesser of both. -/
theorem longN_take {l : List Int} (hco : ∀ x ∈ l, Q.Coord x) {j : Nat} (hj : 1 ≤ j) (hjl : j ≤ l.length) : longN (l.take j) = min (longN l) j := by
  have hl := longN_long (l := l) (by omega) hco
  have hlt : (l.take j).length = j := by rw [List.length_take]; omega
  have ht := longN_long (l := l.take j) (by omega) (takes_coord hco j)
  have g1 := hl.one
  have g2 := hl.le
  refine ht.unique ⟨by omega, by omega, ?_, fun h => ?_⟩
  · rw [List.take_take, Nat.min_eq_left (Nat.min_le_right _ _)]
    exact fit_less (by omega) (Nat.min_le_left _ _) g2 hl.fits
  · rw [hlt] at h
    have e : min (longN l) j = longN l := by omega
    rw [e, List.take_take, Nat.min_eq_left (by omega)]
    exact hl.most (by omega)

/-- What the parts of a beginning are: the first parts of all, and a last one that begins where one of those begins. -/
def begins (m l : List SP) : Prop := 1 ≤ m.length ∧ m.length ≤ l.length ∧ m.take (m.length - 1) = l.take (m.length - 1) ∧ (rd_T61 m ((m.length - 1 : Nat) : Int)).f0 = (rd_T61 l ((m.length - 1 : Nat) : Int)).f0 ∧ (rd_T61 m ((m.length - 1 : Nat) : Int)).f1 ≤ (rd_T61 l ((m.length - 1 : Nat) : Int)).f1

theorem partsF_more : ∀ (f g : Nat) (a : Int) (l : List Int), l.length ≤ f → l.length ≤ g → (∀ x ∈ l, Q.Coord x) → partsF f a l = partsF g a l
  | f, g, a, [], _, _, _ => by rw [partsF_nil f a [] rfl, partsF_nil g a [] rfl]
  | 0, g, a, v :: l, h, _, _ => by simp at h
  | f + 1, 0, a, v :: l, _, h, _ => by simp at h
  | f + 1, g + 1, a, v :: l, h1, h2, hco => by
    have hl1 : 1 ≤ (v :: l).length := by simp
    have hl := (longN_long hl1 hco).one
    rw [partsF_cons hl1, partsF_cons hl1]
    generalize hw : v :: l = w at *
    rw [partsF_more f g _ (w.drop (longN w)) (by rw [List.length_drop]; omega) (by rw [List.length_drop]; omega) (drops_coord hco _)]

theorem partsF_begins : ∀ (f : Nat) (a : Int) (l : List Int) (j : Nat), l.length ≤ f → (∀ x ∈ l, Q.Coord x) → 1 ≤ j → j ≤ l.length → begins (partsF f a (l.take j)) (partsF f a l)
  | 0, a, l, j, h, _, h1, h2 => by omega
  | f + 1, a, l, j, h, hco, h1, h2 => by
    have hlt : (l.take j).length = j := by rw [List.length_take]; omega
    have hl := longN_long (l := l) (by omega) hco
    have g1 := hl.one
    have g2 := hl.le
    rw [partsF_cons (l := l) (by omega), partsF_cons (l := l.take j) (by omega), longN_take hco h1 h2]
    by_cases c : longN l < j
    · rw [Nat.min_eq_left (by omega), List.take_take, Nat.min_eq_left (by omega), List.drop_take]
      have ih := partsF_begins f (a + (longN l : Int)) (l.drop (longN l)) (j - longN l) (by rw [List.length_drop]; omega) (drops_coord hco _) (by omega) (by rw [List.length_drop]; omega)
      generalize partsF f (a + (longN l : Int)) ((l.drop (longN l)).take (j - longN l)) = m at *
      generalize partsF f (a + (longN l : Int)) (l.drop (longN l)) = r at *
      obtain ⟨i1, i2, i3, i4, i5⟩ := ih
      obtain ⟨t, ht⟩ : ∃ t, m.length = t + 1 := ⟨m.length - 1, by omega⟩
      rw [ht, show t + 1 - 1 = t by omega] at i3 i4 i5
      refine ⟨by simp, by simp; omega, ?_, ?_, ?_⟩
      · rw [List.length_cons, ht, show t + 1 + 1 - 1 = t + 1 by omega, List.take_succ_cons, List.take_succ_cons, i3]
      · rw [List.length_cons, ht, show t + 1 + 1 - 1 = t + 1 by omega]
        exact i4
      · rw [List.length_cons, ht, show t + 1 + 1 - 1 = t + 1 by omega]
        exact i5
    · rw [Nat.min_eq_right (by omega)]
      have hnil : partsF f (a + (j : Int)) ((l.take j).drop j) = [] := partsF_nil _ _ _ (by rw [List.length_drop, hlt]; omega)
      rw [hnil]
      exact ⟨by simp, by simp, by simp, rfl, by show a + (j : Int) ≤ a + (longN l : Int); omega⟩

theorem parts_begins {a : Int} {l : List Int} (hco : ∀ x ∈ l, Q.Coord x) {j : Nat} (h1 : 1 ≤ j) (h2 : j ≤ l.length) : begins (parts a (l.take j)) (parts a l) := by
  unfold parts
  rw [partsF_more (l.take j).length l.length a (l.take j) (Nat.le_refl _) (by rw [List.length_take]; omega) (takes_coord hco j)]
  exact partsF_begins l.length a l j (Nat.le_refl _) hco h1 h2

theorem make_err1 {a : Int} {l : List Int} (hl : l.length ≤ 4000) (h : (makeOut a l).2 ≠ 0) : (makeOut a l).2 = 1 := by
  unfold makeOut at *
  rw [if_neg (by omega)] at *
  by_cases c2 : l.length = 0 ∨ a < 0 ∨ a > 4001 - (l.length : Int) ∨ coordsB l = false
  · rw [if_pos c2]
  · rw [if_neg c2] at h
    exact absurd rfl h

theorem CurveBegins_true (a0 : Int) (l1 : List Int) (a2 : Int) (_ : (Lit.int .i64 a0).wf = true) (_ : l1.length * 8 ≤ 140737488351232) (_ : ∀ x ∈ l1, (Lit.int .i64 x).wf = true) (w2 : (Lit.int .u8 a2).wf = true) : ∃ k, formelaw02_CurveBegins.f k a0 l1 a2 = some true := by
  refine ⟨20000, ?_⟩
  have h2 : 0 ≤ a2 ∧ a2 ≤ 255 := by
    have e1 : IntKind.u8.min = 0 := rfl
    have e2 : IntKind.u8.max = 255 := rfl
    simp only [Lit.wf, Bool.and_eq_true, decide_eq_true_eq, e1, e2] at w2
    exact w2
  unfold formelaw02_CurveBegins.f
  rw [head02 (by omega)]
  simp only [Option.bind_some]
  by_cases c1 : (l1.length : Int) > 40
  · rw [if_pos c1, formelaw02_CurveBegins.j0, if_pos rfl]
  · rw [if_neg c1, formelaw02_CurveBegins.j0]
    by_cases c2 : (l1.length : Int) = 0
    · rw [if_pos (by simpa using c2)]
    · rw [if_neg (by simpa using c2), wrap_in (x := a2) (by omega) (by omega), Int.tmod_eq_emod_of_nonneg h2.1]
      have g1 : 0 ≤ a2 % (l1.length : Int) ∧ a2 % (l1.length : Int) < (l1.length : Int) := ⟨Int.emod_nonneg _ (by omega), Int.emod_lt_of_pos _ (by omega)⟩
      generalize a2 % (l1.length : Int) = t at *
      obtain ⟨j, hj⟩ : ∃ j : Nat, 1 + t = (j : Int) := ⟨(1 + t).toNat, by omega⟩
      rw [wrap_in (x := 1 + t) (by omega) (by omega), hj]
      unfold curve_Make.f
      simp only [Option.bind_some]
      rw [if_neg c2, if_pos (by omega), if_pos (by omega), Int.toNat_natCast]
      have hlt : (l1.take j).length = j := by rw [List.length_take]; omega
      by_cases c3 : (makeOut a0 l1).2 = 0
      · have hg := make_ok_good c3
        have b1 := hg.one
        have b2 := hg.few
        have b3 := hg.zero
        have b4 := hg.far
        have hg2 : Good a0 (l1.take j) := ⟨by omega, by omega, by omega, by omega, takes_coord hg.co j⟩
        rw [if_pos c3, make_good hg, make_good hg2, if_pos rfl]
        obtain ⟨i1, i2, i3, i4, i5⟩ := parts_begins (a := a0) hg.co (j := j) (by omega) (by omega)
        have hlen := (joined_facts (parts_joined hg)).2.2.2.2.2.1
        rw [(parts_spec hg.co hg.zero hg.far).2] at hlen
        generalize parts a0 (l1.take j) = m at *
        generalize parts a0 l1 = l at *
        obtain ⟨n, hn⟩ : ∃ n, m.length = n + 1 := ⟨m.length - 1, by omega⟩
        rw [hn, show n + 1 - 1 = n by omega] at i3 i4 i5
        simp only [hn]
        rw [wrap_in (x := ((n + 1 : Nat) : Int) - 1) (by omega) (by omega), show ((n + 1 : Nat) : Int) - 1 = (n : Int) by omega]
        rw [if_neg (by omega), if_neg (by omega), if_pos trivial, if_pos (by omega), if_pos (by omega), if_pos (by omega), Int.toNat_natCast, i3, same_f (by rw [List.length_take]; omega) (by rw [List.length_take]; omega)]
        simp only [Option.bind_some, decide_true, if_true]
        rw [if_pos (by omega), if_pos (by omega), if_pos i4.symm, decide_eq_true (show _ ≥ _ from i5)]
      · rw [if_neg c3, if_pos trivial]
        by_cases c4 : (makeOut a0 (l1.take j)).2 = 0
        · rw [if_pos c4]
        · rw [if_neg c4, make_err1 (by omega) c3, make_err1 (by omega) c4]
          rfl

end Go.Proofs.Ytjpghfjaloglhaa.PCurve
