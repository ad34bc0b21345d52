/-
CurveLong is true: the quotient of each part is the first that fits its values, and none fits these and the next one.
Conditions: none.
-/
import Derived.Test.YtjpghfjaloglhaaECurveCurveG
import Derived.Test.YtjpghfjaloglhaaPCurvex0
import Derived.Test.YtjpghfjaloglhaaPCurvex11
namespace Go.Proofs.Ytjpghfjaloglhaa.PCurve
set_option linter.unusedSimpArgs false
open Go.RowKit Go.Proofs.YtjpghfjaloglhaaW.PrintWords

theorem longL (a : Int) (l : List Int) (h : Good a l) (P : List SP) : ∀ (f k i s : Nat), l.length - s ≤ f → 3 * f + 3 ≤ k → s ≤ l.length → i ≤ s → P.drop i = partsF f (a + (s : Int)) (l.drop s) →
    formelaw02_CurveLong.l0 k a l true P (a + (s : Int)) (i : Int) = some true
  | f, k, i, s, hf, hk, hs, his, hP => by
    obtain ⟨k, rfl⟩ : ∃ n, k = n + 3 := ⟨k - 3, by omega⟩
    have b1 := h.one
    have b2 := h.few
    have b3 := h.zero
    have b4 := h.far
    rw [formelaw02_CurveLong.l0, wrap_in (x := a + (l.length : Int)) (by omega) (by omega)]
    by_cases c : i < P.length
    · have hne : P.drop i ≠ [] := fun e => by rw [List.drop_eq_nil_iff] at e; omega
      have hr : 1 ≤ (l.drop s).length := by
        false_or_by_contra
        rename_i hn
        exact hne (by rw [hP, partsF_nil _ _ _ (by omega)])
      have hr2 : (l.drop s).length = l.length - s := List.length_drop
      obtain ⟨f, rfl⟩ : ∃ n, f = n + 1 := ⟨f - 1, by omega⟩
      have hco := drops_coord h.co s
      obtain ⟨q, e, hq, hqf⟩ := longN_fits hr hco
      have hl := longN_long hr hco
      have g1 := hl.one
      have g2 := hl.le
      have hmost := hl.most
      rw [partsF_cons hr, e, rdP_drop c] at hP
      injection hP with hp hrest
      simp only [Option.getD_some] at hp
      generalize hn : longN (l.drop s) = n at *
      have hseg : (l.take (s + n)).drop s = (l.drop s).take n := by rw [List.drop_take]; congr 1; omega
      have hseg2 : (l.take (s + n + 1)).drop s = (l.drop s).take (n + 1) := by rw [List.drop_take]; congr 1; omega
      rw [hp]
      simp only [toS]
      rw [if_pos (by omega), if_pos (by omega), if_pos trivial, if_neg (by omega), decide_eq_false (by omega)]
      rw [formelaw02_CurveLong.j1, if_neg (by simp), if_pos (by omega), if_pos (by omega), hp]
      simp only [toS]
      rw [wrap_in (x := a + (s : Int) - a) (by omega) (by omega), wrap_in (x := a + (s : Int) + (n : Int) - a) (by omega) (by omega)]
      rw [show a + (s : Int) - a = (s : Int) by omega, show a + (s : Int) + (n : Int) - a = ((s + n : Nat) : Int) by omega]
      rw [if_pos (by omega), if_pos (by omega), if_pos (by omega), Int.toNat_natCast, Int.toNat_natCast, hseg]
      rw [fit_out (by rw [List.length_take]; omega) (by rw [List.length_take]; omega) (takes_coord hco n), e]
      simp only [Option.bind_some, foQ, if_true]
      rw [show (!(q.A == q.A) || (!(q.B == q.B) || !(q.D == q.D))) = false by simp]
      rw [formelaw02_CurveLong.j2, if_neg (by simp), wrap_in (x := a + (l.length : Int)) (by omega) (by omega), wrap_in (x := (i : Int) + 1) (by omega) (by omega)]
      have hnext : formelaw02_CurveLong.l0 k a l true P (a + (s : Int) + (n : Int)) ((i : Int) + 1) = some true := by
        have := longL a l h P f k (i + 1) (s + n) (by omega) (by omega) (by omega) (by omega) (by rw [hrest, List.drop_drop]; congr 1; omega)
        rw [show a + ((s + n : Nat) : Int) = a + (s : Int) + (n : Int) by omega] at this
        exact this
      by_cases c2 : a + (s : Int) + (n : Int) = a + (l.length : Int)
      · rw [if_pos c2]
        exact hnext
      · rw [if_neg c2, if_pos (by omega), if_pos (by omega), hp]
        simp only [toS]
        rw [wrap_in (x := a + (s : Int) - a) (by omega) (by omega), wrap_in (x := a + (s : Int) + (n : Int) - a) (by omega) (by omega), show a + (s : Int) - a = (s : Int) by omega, show a + (s : Int) + (n : Int) - a = ((s + n : Nat) : Int) by omega]
        rw [wrap_in (x := ((s + n : Nat) : Int) + 1) (by omega) (by omega), show ((s + n : Nat) : Int) + 1 = ((s + n + 1 : Nat) : Int) by omega]
        rw [if_pos (by omega), if_pos (by omega), if_pos (by omega), Int.toNat_natCast, Int.toNat_natCast, hseg2]
        rw [fit_out (by rw [List.length_take]; omega) (by rw [List.length_take]; omega) (takes_coord hco (n + 1)), hmost (by omega)]
        simp only [Option.bind_some, foQ, if_true]
        rw [if_neg (by simp)]
        exact hnext
    · rw [if_neg (by omega), if_pos rfl]
      have hnil : partsF f (a + (s : Int)) (l.drop s) = [] := by rw [← hP]; exact List.drop_eq_nil_of_le (by omega)
      have hz : (l.drop s).length = 0 := by
        false_or_by_contra
        rename_i hn
        have hr2 : (l.drop s).length = l.length - s := List.length_drop
        obtain ⟨f, rfl⟩ : ∃ n, f = n + 1 := ⟨f - 1, by omega⟩
        rw [partsF_cons (by omega)] at hnil
        cases hnil
      rw [List.length_drop] at hz
      have : s = l.length := by omega
      subst this
      simp

theorem CurveLong_true (a0 : Int) (l1 : List Int) (_ : (Lit.int .i64 a0).wf = true) (_ : l1.length * 8 ≤ 140737488351232) (_ : ∀ x ∈ l1, (Lit.int .i64 x).wf = true) : ∃ k, formelaw02_CurveLong.f k a0 l1 = some true := by
  refine ⟨20000, ?_⟩
  unfold formelaw02_CurveLong.f
  rw [head02 (by omega)]
  simp only [Option.bind_some]
  by_cases c1 : (l1.length : Int) > 40
  · rw [if_pos c1]
  · rw [if_neg c1]
    unfold curve_Make.f
    simp only [Option.bind_some]
    by_cases c2 : (makeOut a0 l1).2 = 0
    · have h := make_ok_good c2
      rw [if_pos c2, make_good h]
      have := longL a0 l1 h (parts a0 l1) l1.length 20000 0 0 (by omega) (by omega) (by omega) (by omega) (by unfold parts; simp)
      simpa using this
    · rw [if_neg c2, make_err c2]
      rfl

end Go.Proofs.Ytjpghfjaloglhaa.PCurve
