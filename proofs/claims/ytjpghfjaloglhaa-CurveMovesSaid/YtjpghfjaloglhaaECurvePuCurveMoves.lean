/-
CurveMoves is true: the same values from another number on have the same parts, moved.
Conditions: none.
-/
import Derived.Test.YtjpghfjaloglhaaECurveCurveG
import Derived.Test.YtjpghfjaloglhaaPCurvex0
import Derived.Test.YtjpghfjaloglhaaPCurvex12
namespace Go.Proofs.Ytjpghfjaloglhaa.PCurve
open Go.RowKit Go.Proofs.YtjpghfjaloglhaaW.PrintWords

def moveP (d : Int) (p : SP) : SP := ⟨p.f0 + d, p.f1 + d, p.f2⟩
theorem partsF_moved (d : Int) : ∀ (f : Nat) (a : Int) (l : List Int), partsF f (a + d) l = (partsF f a l).map (moveP d)
  | 0, a, l => rfl
  | f + 1, a, l => by
    rw [partsF, partsF]
    by_cases c : l.length = 0
    · rw [if_pos c, if_pos c]
      rfl
    · rw [if_neg c, if_neg c, List.map_cons, ← partsF_moved d f]
      unfold moveP
      rw [show a + d + (longN l : Int) = a + (longN l : Int) + d by omega]

theorem movesL (d : Int) (hd : 0 ≤ d ∧ d ≤ 1900) (ps qs : List SP) (hl : ps.length ≤ 5000) (hb : ∀ p ∈ ps, -100000 ≤ p.f0 ∧ p.f0 ≤ 100000 ∧ -100000 ≤ p.f1 ∧ p.f1 ≤ 100000) (hq : qs.length ≤ 5000) (K : Nat) (hK : 6000 ≤ K) : ∀ (m k i : Nat) (acc : List SP), i + m = ps.length → m + K < k → acc = (ps.take i).map (moveP d) →
    formelaw02_CurveMoves.l0 k true d ps qs acc (i : Int) = some (decide (qs = ps.map (moveP d)))
  | m, k, i, acc, hm, hk, ha => by
    obtain ⟨k, rfl⟩ : ∃ n, k = n + 1 := ⟨k - 1, by omega⟩
    rw [formelaw02_CurveMoves.l0]
    by_cases c : i < ps.length
    · obtain ⟨m, rfl⟩ : ∃ n, m = n + 1 := ⟨m - 1, by omega⟩
      have hlen : acc.length = i := by rw [ha, List.length_map, List.length_take]; omega
      have hi : rd_T61 ps (i : Int) = ps[i] := by unfold rd_T61; simp [c]
      obtain ⟨b1, b2, b3, b4⟩ := hb _ (List.getElem_mem c)
      rw [if_pos (by omega), if_pos (by omega), if_pos (by omega), hi, wrap_in (x := ps[i].f0 + d) (by omega) (by omega), wrap_in (x := ps[i].f1 + d) (by omega) (by omega), wrap_in (x := (i : Int) + 1) (by omega) (by omega)]
      refine movesL d hd ps qs hl hb hq K hK m k (i + 1) _ (by omega) (by omega) ?_
      rw [List.take_succ_eq_append_getElem c, List.map_append, ha]
      rfl
    · rw [if_neg (by omega), if_pos rfl, ha, List.take_of_length_le (by omega), same_f (by omega) (by omega)]
      rfl

theorem CurveMoves_true (a0 a1 : Int) (l2 : List Int) (w0 : (Lit.int .u16 a0).wf = true) (w1 : (Lit.int .u16 a1).wf = true) (_ : l2.length * 8 ≤ 140737488351232) (_ : ∀ x ∈ l2, (Lit.int .i64 x).wf = true) : ∃ k, formelaw02_CurveMoves.f k a0 a1 l2 = some true := by
  refine ⟨20000, ?_⟩
  have e1 : ∀ x : Int, (Lit.int .u16 x).wf = true → 0 ≤ x ∧ x ≤ 65535 := fun x h => by
    have e1 : IntKind.u16.min = 0 := rfl
    have e2 : IntKind.u16.max = 65535 := rfl
    simp only [Lit.wf, Bool.and_eq_true, decide_eq_true_eq, e1, e2] at h
    exact h
  have h0 := e1 a0 w0
  have h1 := e1 a1 w1
  unfold formelaw02_CurveMoves.f
  rw [head02 (by omega)]
  simp only [Option.bind_some]
  by_cases c1 : (l2.length : Int) > 40
  · rw [if_pos c1, formelaw02_CurveMoves.j0, if_pos rfl]
  · rw [if_neg c1, formelaw02_CurveMoves.j0]
    by_cases c2 : (l2.length : Int) = 0
    · rw [if_pos (by simpa using c2)]
    · rw [if_neg (by simpa using c2), wrap_in (x := a0) (by omega) (by omega), wrap_in (x := a1) (by omega) (by omega), Int.tmod_eq_emod_of_nonneg h0.1, Int.tmod_eq_emod_of_nonneg h1.1]
      have g1 : 0 ≤ a0 % 2000 ∧ a0 % 2000 < 2000 := ⟨Int.emod_nonneg _ (by omega), Int.emod_lt_of_pos _ (by omega)⟩
      have g2 : 0 ≤ a1 % 1900 ∧ a1 % 1900 < 1900 := ⟨Int.emod_nonneg _ (by omega), Int.emod_lt_of_pos _ (by omega)⟩
      generalize a0 % 2000 = F at *
      generalize a1 % 1900 = D at *
      rw [wrap_in (x := F + D) (by omega) (by omega)]
      unfold curve_Make.f
      simp only [Option.bind_some]
      cases hco : coordsB l2 with
      | false =>
        have hm : ∀ a, makeOut a l2 = ([], 1) := fun a => by
          unfold makeOut
          rw [if_neg (by omega), if_pos (.inr (.inr (.inr hco)))]
        rw [hm, hm, if_neg (by simp), formelaw02_CurveMoves.j1, if_pos rfl, if_pos rfl]
        rfl
      | true =>
        have hg : Good F l2 := ⟨by omega, by omega, by omega, by omega, coordsB_iff.1 hco⟩
        have hg2 : Good (F + D) l2 := ⟨by omega, by omega, by omega, by omega, coordsB_iff.1 hco⟩
        rw [make_good hg, make_good hg2, if_pos rfl, formelaw02_CurveMoves.j1, if_neg (by simp)]
        have hj := joined_facts (parts_joined hg)
        have hj2 := joined_facts (parts_joined hg2)
        have hs := (parts_spec hg.co hg.zero hg.far).2
        have hs2 := (parts_spec hg2.co hg2.zero hg2.far).2
        rw [hs] at hj
        rw [hs2] at hj2
        have hb : ∀ p ∈ parts F l2, -100000 ≤ p.f0 ∧ p.f0 ≤ 100000 ∧ -100000 ≤ p.f1 ∧ p.f1 ≤ 100000 := fun p hp => by
          have := hj.2.1 p hp
          unfold okPart at this
          simp only [Bool.and_eq_true, decide_eq_true_eq] at this
          omega
        have := movesL D (by omega) (parts F l2) (parts (F + D) l2) (by omega) hb (by omega) 6000 (by omega) (parts F l2).length 19998 0 [] (by omega) (by omega) rfl
        rw [decide_eq_true (show parts (F + D) l2 = (parts F l2).map (moveP D) from partsF_moved D _ F l2)] at this
        exact this

end Go.Proofs.Ytjpghfjaloglhaa.PCurve
