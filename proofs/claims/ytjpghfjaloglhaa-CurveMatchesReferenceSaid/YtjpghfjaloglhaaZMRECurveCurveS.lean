import Derived.Test.YtjpghfjaloglhaaZMRECurveCurveF
import Derived.Test.YtjpghfjaloglhaaZMRECurveSum
import Derived.Test.YtjpghfjaloglhaaZMRECurveMax
/-
What Sum and Max return for what Make made.
Conditions: those that each lemma names.
-/
namespace Go.Proofs.Ytjpghfjaloglhaa.PCurve
open Go.RowKit Go.Proofs.YtjpghfjaloglhaaW.PrintWords
theorem sum_out {a : Int} {x y : List Int} (hx : Good a x) (hy : Good a y) (hl : x.length = y.length) : joinSum (parts a x) (parts a y) = if coordsB (List.zipWith opSum x y) = true then (parts a (List.zipWith opSum x y), 0) else ([], 3) := by
  unfold joinSum
  rw [(parts_spec hx.co hx.zero hx.far).2, (parts_spec hy.co hy.zero hy.far).2, (parts_first hx.one).1, (parts_first hy.one).1, if_pos ⟨parts_valid hx, parts_valid hy, rfl, hl⟩]
  have hlen : (List.zipWith opSum x y).length = x.length := by rw [List.length_zipWith]; omega
  have h1 := hx.one
  have h2 := hx.few
  have h3 := hx.zero
  have h4 := hx.far
  cases e : coordsB (List.zipWith opSum x y) with
  | true =>
    rw [make_good ⟨by omega, by omega, h3, by omega, coordsB_iff.1 e⟩, if_neg (by simp), if_pos rfl]
  | false =>
    have : makeOut a (List.zipWith opSum x y) = ([], 1) := by
      unfold makeOut
      rw [if_neg (by omega), if_pos (.inr (.inr (.inr e)))]
    rw [this, if_pos rfl, if_neg (by simp)]
theorem max_out {a : Int} {x y : List Int} (hx : Good a x) (hy : Good a y) (hl : x.length = y.length) : Good a (List.zipWith opMax x y) ∧ joinMax (parts a x) (parts a y) = (parts a (List.zipWith opMax x y), 0) := by
  have hlen : (List.zipWith opMax x y).length = x.length := by rw [List.length_zipWith]; omega
  have hg : Good a (List.zipWith opMax x y) := by
    refine ⟨by rw [hlen]; exact hx.one, by rw [hlen]; exact hx.few, hx.zero, by rw [hlen]; exact hx.far, fun z hz => ?_⟩
    obtain ⟨i, hi, rfl⟩ := List.getElem_of_mem hz
    rw [List.getElem_zipWith]
    have g1 := hx.co _ (List.getElem_mem (show i < x.length by omega))
    have g2 := hy.co _ (List.getElem_mem (show i < y.length by omega))
    unfold opMax Q.Coord at *
    omega
  refine ⟨hg, ?_⟩
  unfold joinMax
  rw [(parts_spec hx.co hx.zero hx.far).2, (parts_spec hy.co hy.zero hy.far).2, (parts_first hx.one).1, (parts_first hy.one).1, if_pos ⟨parts_valid hx, parts_valid hy, rfl, hl⟩, make_good hg]
  rw [if_neg (by simp)]
end Go.Proofs.Ytjpghfjaloglhaa.PCurve

