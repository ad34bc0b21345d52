import Derived.Test.YtjpghfjaloglhaaZTUEContractC38L
import Derived.Test.YtjpghfjaloglhaaZTUEContractCOpen
import Derived.Test.YtjpghfjaloglhaaZTUPContractx0
import Derived.Test.YtjpghfjaloglhaaZTUPContractx23
/-
ContractCourses is true: the account after answers is that of judging one after the other.
Conditions: none.
-/
namespace Go.Proofs.Ytjpghfjaloglhaa.PContract
set_option linter.unusedSimpArgs false
open Go.RowKit Go.Proofs.YtjpghfjaloglhaaW.PrintWords
theorem courses_l0 {n m : Int} {l : List SP} {xs : List SA} (hv : cvalidB n m l = true) (hlen : xs.length ≤ 500) (hs : ∀ x ∈ xs, strangeB n x = false) : ∀ (d k i : Nat) (a : Acc), xs.length - i ≤ d → d < k → i ≤ xs.length → a = runA m l ⟨0, 0, 0, false⟩ (xs.take i) →
    formelaw38_ContractCourses.l0 k xs true (xs.map fun x => promI l x.f1) (i : Int) n m l n (runA m l ⟨0, 0, 0, false⟩ xs).ch (runA m l ⟨0, 0, 0, false⟩ xs).cg (runA m l ⟨0, 0, 0, false⟩ xs).la (runA m l ⟨0, 0, 0, false⟩ xs).fr n a.ch a.cg a.la a.fr = some true
  | d, k, i, a, h1, h2, h3, ha => by
    obtain ⟨k, rfl⟩ : ∃ n, k = n + 1 := ⟨k - 1, by omega⟩
    rw [formelaw38_ContractCourses.l0]
    by_cases c : i < xs.length
    · obtain ⟨d, rfl⟩ : ∃ n, d = n + 1 := ⟨d - 1, by omega⟩
      have hok : a.Ok := by
        rw [ha]
        exact runA_ok hv _ _ zero_ok (fun x hx => hs x (List.mem_of_mem_take hx))
      have hx := hs xs[i] (List.getElem_mem c)
      rw [if_pos (by omega), if_pos (by omega), rdA_get c, judge_ok a xs[i] hv hok hx]
      simp only [Option.bind_some]
      rw [if_pos trivial, if_pos (by rw [List.length_map]; omega), if_pos (by rw [rd_map l c]), wrap_in (x := (i : Int) + 1) (by omega) (by omega)]
      exact courses_l0 hv hlen hs d k (i + 1) _ (by omega) (by omega) (by omega) (by rw [runA_take m l _ xs c, ← ha])
    · obtain rfl : i = xs.length := by omega
      rw [List.take_length] at ha
      subst ha
      rw [if_neg (by omega), if_pos rfl]
      simp
theorem ContractCourses_true (a0_0 a0_1 : Int) (l0_2 : List SP) (l1 : List SA) : ∃ k, formelaw38_ContractCourses.f k a0_0 a0_1 l0_2 l1 = some true := by
  refine ⟨2000, ?_⟩
  obtain ⟨b, hb⟩ := few38 (k := 2000) (by omega) a0_0 a0_1 l0_2
  unfold formelaw38_ContractCourses.f
  rw [head38, hb]
  simp only [Option.bind_some]
  have hj : formelaw38_ContractCourses.j0 2000 l1 true true a0_0 a0_1 l0_2 = some true := by
    rw [show (2000 : Nat) = 1999 + 1 from rfl, formelaw38_ContractCourses.j0, if_pos rfl]
  have hj1 : ∀ (hs : List Int) (er x : Int) (y z v : Int) (fr : Bool), er ≠ 0 → formelaw38_ContractCourses.j1 1999 l1 true hs er true a0_0 a0_1 l0_2 x y z v fr = some true := fun hs er x y z v fr he => by
    rw [show (1999 : Nat) = 1998 + 1 from rfl, formelaw38_ContractCourses.j1, if_pos rfl, if_pos rfl]
    simpa using he
  cases b with
  | false => rw [if_neg (by simp)]; exact hj
  | true =>
    rw [if_pos rfl]
    by_cases c : l1.length > 40
    · rw [decide_eq_true (by omega)]
      exact hj
    · rw [decide_eq_false (by omega), show (2000 : Nat) = 1999 + 1 from rfl, formelaw38_ContractCourses.j0, if_neg (by simp)]
      rcases course_cases a0_0 a0_1 l0_2 l1 with e | e | ⟨hv, hl, hs, e⟩
      · rw [e]
        simp only [Option.bind_some]
        rw [if_neg (by omega)]
        exact hj1 _ _ _ _ _ _ _ (by omega)
      · rw [e]
        simp only [Option.bind_some]
        rw [if_neg (by omega)]
        exact hj1 _ _ _ _ _ _ _ (by omega)
      · rw [e]
        simp only [Option.bind_some]
        rw [if_pos trivial, List.length_map, show (1999 : Nat) = 1998 + 1 from rfl, formelaw38_ContractCourses.j1, if_neg (by simp)]
        exact courses_l0 hv hl hs l1.length 1998 0 ⟨0, 0, 0, false⟩ (by omega) (by omega) (by omega) rfl
end Go.Proofs.Ytjpghfjaloglhaa.PContract

