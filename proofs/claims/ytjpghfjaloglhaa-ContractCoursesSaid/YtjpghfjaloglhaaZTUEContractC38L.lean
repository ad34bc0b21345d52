import Derived.Test.YtjpghfjaloglhaaZTUEContractC38
/-
Judge, Promised and Course, in cases.
Conditions: those that each lemma names.
-/
namespace Go.Proofs.Ytjpghfjaloglhaa.PContract
set_option linter.unusedSimpArgs false
open Go.RowKit Go.Proofs.YtjpghfjaloglhaaW.PrintWords
theorem judge_cases (n m : Int) (l : List SP) (an ch cg la : Int) (fr : Bool) (xn xw xk xh : Int) :
    (contract_Judge.f n m l an ch cg la fr xn xw xk xh = some (0, 0, 0, 0, false, 0, false, 1)) ∨
    (cvalidB n m l = true ∧ accB an ⟨ch, cg, la, fr⟩ = true ∧ ansB xn xw xk xh = true ∧ an = n ∧ xn = n ∧ contract_Judge.f n m l an ch cg la fr xn xw xk xh = some (n, (enterA ⟨ch, cg, la, fr⟩ xk xh (promI l xw) m).ch, (enterA ⟨ch, cg, la, fr⟩ xk xh (promI l xw) m).cg, (enterA ⟨ch, cg, la, fr⟩ xk xh (promI l xw) m).la, (enterA ⟨ch, cg, la, fr⟩ xk xh (promI l xw) m).fr, promI l xw, decide (promI l xw < xh), 0)) := by
  by_cases c : cvalidB n m l = true ∧ accB an ⟨ch, cg, la, fr⟩ = true ∧ ansB xn xw xk xh = true ∧ an = n ∧ xn = n
  · refine .inr ⟨c.1, c.2.1, c.2.2.1, c.2.2.2.1, c.2.2.2.2, ?_⟩
    unfold contract_Judge.f judgeOut
    rw [if_pos c]
  · refine .inl ?_
    unfold contract_Judge.f judgeOut
    rw [if_neg c]
theorem ans_ok {n w k h : Int} (c : ansB n w k h = true) : (1 ≤ n ∧ n ≤ 1000000) ∧ HOk w ∧ HOk h ∧ (k = 1 ∨ (k = 2 ∨ k = 3) ∧ h = 0) := by
  unfold ansB at c
  simp only [Bool.and_eq_true, decide_eq_true_eq] at c
  obtain ⟨⟨c1, c2⟩, c3⟩ := c
  by_cases k1 : k = 1
  · rw [if_pos k1] at c3
    exact ⟨c1, c2, of_decide_eq_true c3, .inl k1⟩
  · rw [if_neg k1] at c3
    by_cases k2 : k = 2 ∨ k = 3
    · rw [if_pos k2] at c3
      have c4 := of_decide_eq_true c3
      exact ⟨c1, c2, by rw [c4]; exact ⟨by omega, by omega⟩, .inr ⟨k2, c4⟩⟩
    · rw [if_neg k2] at c3
      cases c3
theorem promised_cases (n m : Int) (l : List SP) (w : Int) :
    ((¬ cvalidB n m l = true ∨ ¬ HOk w) ∧ contract_Promised.f n m l w = some (0, 1)) ∨ (cvalidB n m l = true ∧ HOk w ∧ contract_Promised.f n m l w = some (promI l w, 0)) := by
  unfold contract_Promised.f contract_Valid.f
  rw [isHeight_f]
  cases c1 : cvalidB n m l with
  | false => exact .inl ⟨.inl (by simp), rfl⟩
  | true =>
    by_cases c2 : HOk w
    · rw [decide_eq_true c2, promised_f (cvalid_valid c1)]
      exact .inr ⟨rfl, c2, rfl⟩
    · rw [decide_eq_false c2]
      exact .inl ⟨.inr c2, rfl⟩
theorem course_cases (n m : Int) (l : List SP) (xs : List SA) :
    (contract_Course.f n m l xs = some (0, 0, 0, 0, false, [], 1)) ∨ (contract_Course.f n m l xs = some (0, 0, 0, 0, false, [], 2)) ∨
    (cvalidB n m l = true ∧ xs.length ≤ 500 ∧ (∀ x ∈ xs, strangeB n x = false) ∧ contract_Course.f n m l xs = some (n, (runA m l ⟨0, 0, 0, false⟩ xs).ch, (runA m l ⟨0, 0, 0, false⟩ xs).cg, (runA m l ⟨0, 0, 0, false⟩ xs).la, (runA m l ⟨0, 0, 0, false⟩ xs).fr, xs.map fun x => promI l x.f1, 0)) := by
  unfold contract_Course.f courseOut
  cases c1 : cvalidB n m l with
  | false =>
    rw [if_pos rfl]
    exact .inl rfl
  | true =>
    rw [if_neg (by simp)]
    by_cases c2 : xs.length > 500
    · rw [if_pos c2]
      exact .inr (.inl rfl)
    · rw [if_neg c2]
      cases c3 : xs.any (strangeB n) with
      | true =>
        rw [if_pos rfl]
        exact .inl rfl
      | false =>
        rw [if_neg (by simp)]
        refine .inr (.inr ⟨rfl, by omega, fun x hx => ?_, rfl⟩)
        have := List.any_eq_false.1 c3 x hx
        simpa using this
theorem rdA_get {xs : List SA} {i : Nat} (h : i < xs.length) : rd_T78 xs (i : Int) = xs[i] := by
  unfold rd_T78
  simp [h]
theorem rd_map {xs : List SA} (l : List SP) {i : Nat} (h : i < xs.length) : rd (xs.map fun x => promI l x.f1) (i : Int) = promI l xs[i].f1 := by
  unfold rd
  simp [List.getD_eq_getElem?_getD, h]
theorem not_strange {n : Int} {x : SA} (h : strangeB n x = false) : ansB x.f0 x.f1 x.f2 x.f3 = true ∧ x.f0 = n := by
  unfold strangeB at h
  simp only [Bool.or_eq_false_iff, Bool.not_eq_false', decide_eq_false_iff_not, ne_eq, Decidable.not_not] at h
  exact h
theorem cvalid_node' {n m : Int} {l : List SP} (h : cvalidB n m l = true) : (1 ≤ n ∧ n ≤ 1000000) ∧ 0 ≤ m ∧ m ≤ 100 := by
  unfold cvalidB at h
  simp only [Bool.and_eq_true, decide_eq_true_eq] at h
  exact ⟨h.1.1.2, h.1.2⟩
theorem runA_take (m : Int) (l : List SP) (a : Acc) (xs : List SA) {k : Nat} (h : k < xs.length) : runA m l a (xs.take (k + 1)) = enterA (runA m l a (xs.take k)) xs[k].f2 xs[k].f3 (promI l xs[k].f1) m := by
  rw [List.take_succ_eq_append_getElem h]
  unfold runA
  rw [List.foldl_append]
  rfl
theorem runA_ok {n m : Int} {l : List SP} (hl : cvalidB n m l = true) : ∀ (xs : List SA) (a : Acc), a.Ok → (∀ x ∈ xs, strangeB n x = false) → (runA m l a xs).Ok
  | [], a, ha, _ => ha
  | x :: xs, a, ha, h => by
    unfold runA
    rw [List.foldl_cons]
    exact runA_ok hl xs _ (enter_ok ha (ans_ok (not_strange (h x (by simp))).1).2.2.1 (prom_ok hl _)) (fun y hy => h y (by simp [hy]))
theorem zero_ok : (⟨0, 0, 0, false⟩ : Acc).Ok := ⟨by decide, by decide, by decide⟩
theorem judge_ok {n m : Int} {l : List SP} (a : Acc) (x : SA) (h1 : cvalidB n m l = true) (h2 : a.Ok) (h3 : strangeB n x = false) :
    contract_Judge.f n m l n a.ch a.cg a.la a.fr x.f0 x.f1 x.f2 x.f3 = some (n, (enterA a x.f2 x.f3 (promI l x.f1) m).ch, (enterA a x.f2 x.f3 (promI l x.f1) m).cg, (enterA a x.f2 x.f3 (promI l x.f1) m).la, (enterA a x.f2 x.f3 (promI l x.f1) m).fr, promI l x.f1, decide (promI l x.f1 < x.f3), 0) := by
  have hn := not_strange h3
  have ha : accB n a = true := by
    unfold accB
    rw [decide_eq_true (cvalid_node' h1).1, decide_eq_true h2]
    rfl
  unfold contract_Judge.f judgeOut
  rw [if_pos ⟨h1, ha, hn.1, rfl, hn.2⟩]
theorem enter_frozen_stays {a : Acc} (h : a.fr = true) (k x p m : Int) : enterA a k x p m = a := by
  unfold enterA
  rw [if_pos h]
theorem runA_frozen (m : Int) (l : List SP) : ∀ (xs : List SA) (a : Acc), a.fr = true → runA m l a xs = a
  | [], _, _ => rfl
  | x :: xs, a, h => by
    unfold runA
    rw [List.foldl_cons, enter_frozen_stays h]
    exact runA_frozen m l xs a h
theorem runA_split (m : Int) (l : List SP) (a : Acc) (xs : List SA) (i : Nat) : runA m l a xs = runA m l (runA m l a (xs.take i)) (xs.drop i) := by
  unfold runA
  rw [← List.foldl_append, List.take_append_drop]
end Go.Proofs.Ytjpghfjaloglhaa.PContract

