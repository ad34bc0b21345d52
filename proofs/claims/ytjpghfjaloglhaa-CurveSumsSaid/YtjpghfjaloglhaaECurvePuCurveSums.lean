/-
CurveSums is true: the values of a sum are the sums, those of the greater function the greater ones.
Conditions: none.
-/
import Derived.Test.YtjpghfjaloglhaaECurveCurveG
import Derived.Test.YtjpghfjaloglhaaECurveCurveS
import Derived.Test.YtjpghfjaloglhaaPCurvex0
import Derived.Test.YtjpghfjaloglhaaPCurvex22
namespace Go.Proofs.Ytjpghfjaloglhaa.PCurve
set_option linter.unusedSimpArgs false
open Go.RowKit Go.Proofs.YtjpghfjaloglhaaW.PrintWords

def farOf (z : List Int) (i : Nat) : Bool := (z.take i).any fun v => !decide (Q.Coord v)
theorem farOf_succ {z : List Int} {i : Nat} (h : i < z.length) : farOf z (i + 1) = (farOf z i || !decide (Q.Coord (z.getD i 0))) := by
  unfold farOf
  rw [List.take_succ_eq_append_getElem h, List.any_append, List.getD_eq_getElem?_getD, List.getElem?_eq_getElem h]
  simp
theorem farOf_all {z : List Int} : farOf z z.length = !coordsB z := by
  unfold farOf coordsB
  rw [List.take_length, List.not_all_eq_any_not]

theorem zip_get (op : Int → Int → Int) {x y : List Int} {i : Nat} (hx : i < x.length) (hy : i < y.length) : (List.zipWith op x y).getD i 0 = op (x.getD i 0) (y.getD i 0) := by
  rw [List.getD_eq_getElem?_getD, List.getElem?_eq_getElem (by rw [List.length_zipWith]; omega), List.getElem_zipWith, List.getD_eq_getElem?_getD, List.getD_eq_getElem?_getD, List.getElem?_eq_getElem hx, List.getElem?_eq_getElem hy]
  rfl
theorem take_get {x : List Int} {n i : Nat} (h : i < n) : (x.take n).getD i 0 = x.getD i 0 := by
  simp [List.getD_eq_getElem?_getD, List.getElem?_take, h]

structure SumsAt (a : Int) (l1 l2 : List Int) (n : Nat) (z S' : List Int) (S M : List SP) (e : Int) : Prop where
  n1 : n ≤ l1.length
  n2 : n ≤ l2.length
  gx : Good a (l1.take n)
  gy : Good a (l2.take n)
  hz : z = List.zipWith opSum (l1.take n) (l2.take n)
  gm : Good a (List.zipWith opMax (l1.take n) (l2.take n))
  hM : M = parts a (List.zipWith opMax (l1.take n) (l2.take n))
  hS : e = 0 ∧ coordsB z = true ∧ S = parts a z ∧ Good a z ∨ e = 3 ∧ coordsB z = false

theorem sumsL {a : Int} {l1 l2 : List Int} {n : Nat} {z S' : List Int} {S M : List SP} {e : Int} (h : SumsAt a l1 l2 n z S' S M e) : ∀ (m k i : Nat), i + m = n → 2 * m + 2 ≤ k →
    formelaw02_CurveSums.l0 k a l1 l2 true (n : Int) S e M (farOf z i) (i : Int) = some true
  | m, k, i, hm, hk => by
    obtain ⟨k, rfl⟩ : ∃ t, k = t + 2 := ⟨k - 2, by omega⟩
    have hn1 := h.n1
    have hn2 := h.n2
    have lx : (l1.take n).length = n := by rw [List.length_take]; omega
    have ly : (l2.take n).length = n := by rw [List.length_take]; omega
    have hzl : z.length = n := by rw [h.hz, List.length_zipWith, lx, ly]; omega
    have b2 := h.gx.few
    have b3 := h.gx.zero
    have b4 := h.gx.far
    rw [lx] at b2 b4
    rw [formelaw02_CurveSums.l0]
    by_cases c : i < n
    · obtain ⟨m, rfl⟩ : ∃ t, m = t + 1 := ⟨m - 1, by omega⟩
      have hzi : z.getD i 0 = rd l1 (i : Int) + rd l2 (i : Int) := by
        rw [h.hz, zip_get _ (by omega) (by omega), take_get c, take_get c]
        rfl
      have hmi : (List.zipWith opMax (l1.take n) (l2.take n)).getD i 0 = max (rd l1 (i : Int)) (rd l2 (i : Int)) := by
        rw [zip_get _ (by omega) (by omega), take_get c, take_get c]
        rfl
      have c1 : Q.Coord (rd l1 (i : Int)) := by
        have := h.gx.co ((l1.take n).getD i 0) (by rw [List.getD_eq_getElem?_getD, List.getElem?_eq_getElem (by omega), Option.getD_some]; exact List.getElem_mem _)
        rw [take_get c] at this
        exact this
      have c2 : Q.Coord (rd l2 (i : Int)) := by
        have := h.gy.co ((l2.take n).getD i 0) (by rw [List.getD_eq_getElem?_getD, List.getElem?_eq_getElem (by omega), Option.getD_some]; exact List.getElem_mem _)
        rw [take_get c] at this
        exact this
      have hfs := farOf_succ (z := z) (i := i) (by omega)
      rw [hzi] at hfs
      have hj : formelaw02_CurveSums.j4 (k + 1) a l1 l2 true (n : Int) S e M (farOf z (i + 1)) (i : Int) = some true := by
        rw [formelaw02_CurveSums.j4, wrap_in (x := a + (i : Int)) (by omega) (by omega)]
        unfold curve_At.f
        have hlm : (List.zipWith opMax (l1.take n) (l2.take n)).length = n := by rw [List.length_zipWith, lx, ly]; omega
        rw [h.hM, at_in h.gm (i := i) (by omega), hmi]
        simp only [Option.bind_some, if_true]
        have hnext : ∀ M', M' = M → formelaw02_CurveSums.l0 k a l1 l2 true (n : Int) S e M' (farOf z (i + 1)) (wrap64 ((i : Int) + 1)) = some true := fun M' hM' => by
          subst hM'
          rw [wrap_in (x := (i : Int) + 1) (by omega) (by omega)]
          exact sumsL h m k (i + 1) (by omega) (by omega)
        unfold Q.Coord at c1 c2
        rw [if_pos (by omega), if_pos (by omega), if_pos (by omega), mx_max, if_pos rfl, wrap_in (x := rd l1 (i : Int) + rd l2 (i : Int)) (by omega) (by omega)]
        rcases h.hS with ⟨rfl, -, hS, hg⟩ | ⟨rfl, -⟩
        · rw [hS, at_in hg (i := i) (by omega), hzi, if_pos rfl, if_pos rfl, if_pos rfl, ← hS]
          exact hnext _ h.hM.symm
        · rw [if_neg (by omega)]
          exact hnext _ h.hM.symm
      rw [if_pos (by omega)]
      unfold Q.Coord at c1 c2
      by_cases cf : farOf z i = true
      · rw [if_pos cf]
        rw [cf, Bool.true_or] at hfs
        rw [hfs] at hj
        exact hj
      · rw [if_neg cf, if_pos (by omega), if_pos (by omega), if_pos (by omega), wrap_in (x := rd l1 (i : Int) + rd l2 (i : Int)) (by omega) (by omega)]
        have cf2 : farOf z i = false := by simpa using cf
        rw [cf2, Bool.false_or] at hfs
        by_cases cg : rd l1 (i : Int) + rd l2 (i : Int) > 1000000000
        · rw [if_pos cg]
          rw [decide_eq_false (show ¬ Q.Coord _ by unfold Q.Coord; omega)] at hfs
          rw [hfs] at hj
          exact hj
        · rw [if_neg cg]
          have : farOf z (i + 1) = decide (rd l1 (i : Int) + rd l2 (i : Int) < -1000000000) := by
            rw [hfs]
            by_cases cl : rd l1 (i : Int) + rd l2 (i : Int) < -1000000000
            · rw [decide_eq_true cl, decide_eq_false (show ¬ Q.Coord _ by unfold Q.Coord; omega)]
              rfl
            · rw [decide_eq_false cl, decide_eq_true (show Q.Coord _ by unfold Q.Coord; omega)]
              rfl
          rw [this] at hj
          exact hj
    · obtain rfl : i = n := by omega
      rw [if_neg (by omega), if_pos rfl]
      have hfa : farOf z i = !coordsB z := by rw [← hzl]; exact farOf_all
      rcases h.hS with ⟨rfl, hc, -⟩ | ⟨rfl, hc⟩
      · rw [hfa, hc]
        rfl
      · rw [hfa, hc]
        rfl

theorem zip_comm_sum (x y : List Int) : List.zipWith opSum x y = List.zipWith opSum y x := List.zipWith_comm_of_comm (by intro x y; unfold opSum; omega)
theorem zip_comm_max (x y : List Int) : List.zipWith opMax x y = List.zipWith opMax y x := List.zipWith_comm_of_comm (by intro x y; unfold opMax; omega)

theorem CurveSums_true (a0 : Int) (l1 l2 : List Int) (_ : (Lit.int .i64 a0).wf = true) (_ : l1.length * 8 ≤ 140737488351232) (_ : ∀ x ∈ l1, (Lit.int .i64 x).wf = true) (_ : l2.length * 8 ≤ 140737488351232) (_ : ∀ x ∈ l2, (Lit.int .i64 x).wf = true) : ∃ k, formelaw02_CurveSums.f k a0 l1 l2 = some true := by
  refine ⟨20000, ?_⟩
  unfold formelaw02_CurveSums.f
  rw [head02 (by omega)]
  simp only [Option.bind_some]
  by_cases c1 : (l1.length : Int) > 40
  · rw [if_pos c1, formelaw02_CurveSums.j0, if_pos rfl]
  · rw [if_neg c1, formelaw02_CurveSums.j0]
    by_cases c2 : (l2.length : Int) > 40
    · rw [decide_eq_true c2, if_pos rfl]
    · rw [decide_eq_false c2, if_neg (by simp), mn_min]
      obtain ⟨n, hn⟩ : ∃ n : Nat, min (l1.length : Int) (l2.length : Int) = (n : Int) := ⟨(min (l1.length : Int) (l2.length : Int)).toNat, by omega⟩
      have n1 : n ≤ l1.length := by omega
      have n2 : n ≤ l2.length := by omega
      rw [hn, if_pos (by omega), if_pos (by omega), Int.toNat_natCast]
      unfold curve_Make.f
      simp only [Option.bind_some]
      rw [if_pos (by omega)]
      have lx : (l1.take n).length = n := by rw [List.length_take]; omega
      have ly : (l2.take n).length = n := by rw [List.length_take]; omega
      by_cases c3 : (makeOut a0 (l1.take n)).2 = 0
      · have gx := make_ok_good c3
        rw [if_pos c3, make_good gx]
        by_cases c4 : (makeOut a0 (l2.take n)).2 = 0
        · have gy := make_ok_good c4
          rw [make_good gy]
          simp only [bne_self_eq_false]
          rw [formelaw02_CurveSums.j1, if_neg (by simp)]
          unfold curve_Sum.f curve_Max.f
          obtain ⟨gm, hmx⟩ := max_out gx gy (by omega)
          rw [sum_out gx gy (by omega), sum_out gy gx (by omega), zip_comm_sum (l2.take n), hmx, (max_out gy gx (by omega)).2, zip_comm_max (l2.take n)]
          simp only [Option.bind_some, if_true]
          generalize hz : List.zipWith opSum (l1.take n) (l2.take n) = z
          have hzl : z.length = n := by rw [← hz, List.length_zipWith, lx, ly]; omega
          have g1 := gx.one
          have g2 := gx.few
          have g3 := gx.zero
          have g4 := gx.far
          rw [lx] at g1 g2 g4
          obtain ⟨S, e, hSe, hS, hlen⟩ : ∃ S e, (if coordsB z = true then (parts a0 z, (0 : Int)) else ([], 3)) = (S, e) ∧ (e = 0 ∧ coordsB z = true ∧ S = parts a0 z ∧ Good a0 z ∨ e = 3 ∧ coordsB z = false) ∧ S.length ≤ 4001 := by
            cases hc : coordsB z with
            | true =>
              have hg : Good a0 z := ⟨by omega, by omega, by omega, by omega, coordsB_iff.1 hc⟩
              refine ⟨_, _, if_pos rfl, .inl ⟨rfl, rfl, rfl, hg⟩, ?_⟩
              have := (joined_facts (parts_joined hg)).2.2.2.2.2
              rw [(parts_spec hg.co hg.zero hg.far).2] at this
              omega
            | false => exact ⟨_, _, if_neg (by simp), .inr ⟨rfl, rfl⟩, by simp⟩
          rw [hSe]
          simp only
          have hml := (joined_facts (parts_joined gm)).2.2
          rw [(parts_spec gm.co gm.zero gm.far).2] at hml
          rw [same_f (by omega) (by omega), same_f (by omega) (by omega)]
          simp only [Option.bind_some, decide_true, if_true, Bool.not_true]
          rw [formelaw02_CurveSums.j2, if_neg (by simp)]
          have h : SumsAt a0 l1 l2 n z [] S (parts a0 (List.zipWith opMax (l1.take n) (l2.take n))) e := ⟨n1, n2, gx, gy, hz.symm, gm, rfl, hS⟩
          have := sumsL h n 19997 0 (by omega) (by omega)
          exact this
        · rw [show ((makeOut a0 (l2.take n)).2 != 0) = true from bne_iff_ne.2 c4, formelaw02_CurveSums.j1, if_pos rfl]
      · rw [if_neg c3, formelaw02_CurveSums.j1, if_pos rfl]

end Go.Proofs.Ytjpghfjaloglhaa.PCurve
