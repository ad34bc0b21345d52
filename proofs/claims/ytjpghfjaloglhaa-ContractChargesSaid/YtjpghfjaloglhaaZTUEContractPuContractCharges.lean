import Derived.Test.YtjpghfjaloglhaaZTUEContractC38L
import Derived.Test.YtjpghfjaloglhaaZTUEContractCOpen
import Derived.Test.YtjpghfjaloglhaaZTUPContractx0
import Derived.Test.YtjpghfjaloglhaaZTUPContractx20
/-
ContractCharges is true: each answer that fails or is false is charged once, until the account is frozen.
Conditions: none.
-/
namespace Go.Proofs.Ytjpghfjaloglhaa.PContract
set_option linter.unusedSimpArgs false
open Go.RowKit Go.Proofs.YtjpghfjaloglhaaW.PrintWords
structure Counted (m : Int) (a : Acc) (i : Nat) (c g t : Int) : Prop where
  ch : a.ch = c
  cg : a.cg = g
  la : a.la = t
  fr : a.fr = decide (m < g)
  c0 : 0 ≤ c ∧ c ≤ i
  g0 : 0 ≤ g ∧ g ≤ i
theorem moreI_small {n : Int} (h : n < 1000000000) : moreI n = n + 1 := by
  unfold moreI
  rw [if_neg (by omega)]
theorem charges_l0 {n m : Int} {l : List SP} {xs : List SA} (hv : cvalidB n m l = true) (hlen : xs.length ≤ 40) (hs : ∀ x ∈ xs, strangeB n x = false) : ∀ (d k i : Nat) (c g t : Int), xs.length - i ≤ d → 4 * d + 4 < k → i ≤ xs.length → Counted m (runA m l ⟨0, 0, 0, false⟩ (xs.take i)) i c g t →
    formelaw38_ContractCharges.l0 k xs true (xs.map fun x => promI l x.f1) c g t (i : Int) n m l n (runA m l ⟨0, 0, 0, false⟩ xs).ch (runA m l ⟨0, 0, 0, false⟩ xs).cg (runA m l ⟨0, 0, 0, false⟩ xs).la (runA m l ⟨0, 0, 0, false⟩ xs).fr = some true
  | d, k, i, c, g, t, h1, h2, h3, hC => by
    obtain ⟨k, rfl⟩ : ∃ n, k = n + 4 := ⟨k - 4, by omega⟩
    have hfin : runA m l ⟨0, 0, 0, false⟩ xs = runA m l ⟨0, 0, 0, false⟩ (xs.take i) → formelaw38_ContractCharges.j2 (k + 3) xs true (xs.map fun x => promI l x.f1) c g t (i : Int) false n m l n (runA m l ⟨0, 0, 0, false⟩ xs).ch (runA m l ⟨0, 0, 0, false⟩ xs).cg (runA m l ⟨0, 0, 0, false⟩ xs).la (runA m l ⟨0, 0, 0, false⟩ xs).fr = some true := fun he => by
      rw [formelaw38_ContractCharges.j2, if_neg (by simp), if_pos rfl, he, hC.ch, hC.cg, hC.la, hC.fr]
      simp
    rw [formelaw38_ContractCharges.l0]
    by_cases e : i < xs.length
    · obtain ⟨d, rfl⟩ : ∃ n, d = n + 1 := ⟨d - 1, by omega⟩
      rw [if_pos (by omega)]
      by_cases e1 : g ≤ m
      · have hx := hs xs[i] (List.getElem_mem e)
        obtain ⟨-, -, q3, q4⟩ := ans_ok (not_strange hx).1
        have hp := prom_ok hv xs[i].f1
        have q31 := q3.1
        have q32 := q3.2
        have hp1 := hp.1
        have hp2 := hp.2
        have hc0 := hC.c0
        have hg0 := hC.g0
        have hrun := runA_take m l ⟨0, 0, 0, false⟩ xs e
        have hfr : (runA m l ⟨0, 0, 0, false⟩ (xs.take i)).fr = false := by rw [hC.fr, decide_eq_false (by omega)]
        have next : ∀ (c' g' t' : Int), Counted m (enterA (runA m l ⟨0, 0, 0, false⟩ (xs.take i)) xs[i].f2 xs[i].f3 (promI l xs[i].f1) m) (i + 1) c' g' t' →
            formelaw38_ContractCharges.l0 k xs true (xs.map fun x => promI l x.f1) c' g' t' (wrap64 ((i : Int) + 1)) n m l n (runA m l ⟨0, 0, 0, false⟩ xs).ch (runA m l ⟨0, 0, 0, false⟩ xs).cg (runA m l ⟨0, 0, 0, false⟩ xs).la (runA m l ⟨0, 0, 0, false⟩ xs).fr = some true := fun c' g' t' hC' => by
          rw [wrap_in (x := (i : Int) + 1) (by omega) (by omega)]
          exact charges_l0 hv hlen hs d k (i + 1) c' g' t' (by omega) (by omega) (by omega) (by rw [hrun]; exact hC')
        rw [decide_eq_true e1, formelaw38_ContractCharges.j2, if_pos rfl, if_pos (by omega), if_pos (by omega), rdA_get e]
        have hen : ∀ b, enterA (runA m l ⟨0, 0, 0, false⟩ (xs.take i)) xs[i].f2 xs[i].f3 (promI l xs[i].f1) m = b → enterA ⟨c, g, t, false⟩ xs[i].f2 xs[i].f3 (promI l xs[i].f1) m = b := fun b hb => by
          rw [← hb]
          congr 1
          generalize runA m l ⟨0, 0, 0, false⟩ (xs.take i) = a at *
          obtain ⟨a1, a2, a3, a4⟩ := a
          have k1 := hC.ch
          have k2 := hC.cg
          have k3 := hC.la
          simp only at k1 k2 k3 hfr
          subst k1 k2 k3 hfr
          rfl
        have hen2 : enterA (runA m l ⟨0, 0, 0, false⟩ (xs.take i)) xs[i].f2 xs[i].f3 (promI l xs[i].f1) m = enterA ⟨c, g, t, false⟩ xs[i].f2 xs[i].f3 (promI l xs[i].f1) m := (hen _ rfl).symm
        rw [hen2] at next
        clear hen hen2 hfin hrun hfr hC
        unfold enterA at next
        simp only [Bool.false_eq_true, if_false] at next
        rw [moreI_small (n := c) (by omega), moreI_small (n := g) (by omega)] at next
        by_cases e2 : xs[i].f2 = 1
        · rw [if_pos e2, if_pos (by rw [List.length_map]; omega), rd_map l e, wrap_in (x := xs[i].f3 - promI l xs[i].f1) (by omega) (by omega)]
          rw [formelaw38_ContractCharges.j3, if_pos (by omega), if_pos (by omega), rdA_get e, if_neg (by omega)]
          simp only [if_pos e2] at next
          rw [formelaw38_ContractCharges.j4]
          by_cases e3 : xs[i].f3 - promI l xs[i].f1 = 0
          · rw [if_neg (by simp [e3]), if_pos (by omega), if_pos (by omega), rdA_get e, if_pos e2]
            by_cases e4 : xs[i].f3 - promI l xs[i].f1 = t
            · rw [if_pos e4]
              exact next _ _ _ (by rw [if_pos e4, if_pos e3]; exact ⟨rfl, rfl, rfl, rfl, by omega, by omega⟩)
            · rw [if_neg e4, wrap_in (x := g + 1) (by omega) (by omega)]
              exact next _ _ _ (by rw [if_neg e4, if_pos e3]; exact ⟨rfl, rfl, rfl, rfl, by omega, by omega⟩)
          · rw [if_pos (by simpa using e3), if_pos (by omega), if_pos (by omega), rdA_get e, if_pos e2]
            by_cases e4 : xs[i].f3 - promI l xs[i].f1 = t
            · rw [if_pos e4, wrap_in (x := c + 1) (by omega) (by omega)]
              exact next _ _ _ (by rw [if_pos e4, if_neg e3]; exact ⟨rfl, rfl, rfl, rfl, by omega, by omega⟩)
            · rw [if_neg e4, wrap_in (x := g + 1) (by omega) (by omega), wrap_in (x := c + 1) (by omega) (by omega)]
              exact next _ _ _ (by rw [if_neg e4, if_neg e3]; exact ⟨rfl, rfl, rfl, rfl, by omega, by omega⟩)
        · rw [if_neg e2, formelaw38_ContractCharges.j3, if_pos (by omega), if_pos (by omega), rdA_get e]
          simp only [if_neg e2] at next
          by_cases e3 : xs[i].f2 = 2
          · rw [if_pos e3, formelaw38_ContractCharges.j4, if_pos rfl, if_pos (by omega), if_pos (by omega), rdA_get e, if_neg e2, wrap_in (x := c + 1) (by omega) (by omega)]
            exact next _ _ _ (by rw [if_pos e3]; exact ⟨rfl, rfl, rfl, rfl, by omega, by omega⟩)
          · rw [if_neg e3, formelaw38_ContractCharges.j4, if_neg (by simp), if_pos (by omega), if_pos (by omega), rdA_get e, if_neg e2]
            exact next _ _ _ (by rw [if_neg e3]; exact ⟨rfl, rfl, rfl, rfl, by omega, by omega⟩)
      · rw [decide_eq_false e1]
        refine hfin ?_
        rw [runA_split m l _ xs i]
        exact runA_frozen m l _ _ (by rw [hC.fr, decide_eq_true (by omega)])
    · rw [if_neg (by omega)]
      refine hfin ?_
      rw [List.take_of_length_le (by omega)]
theorem ContractCharges_true (a0_0 a0_1 : Int) (l0_2 : List SP) (l1 : List SA) : ∃ k, formelaw38_ContractCharges.f k a0_0 a0_1 l0_2 l1 = some true := by
  refine ⟨2000, ?_⟩
  obtain ⟨b, hb⟩ := few38 (k := 2000) (by omega) a0_0 a0_1 l0_2
  unfold formelaw38_ContractCharges.f
  rw [head38, hb]
  simp only [Option.bind_some]
  have hj : formelaw38_ContractCharges.j0 2000 l1 true true a0_0 a0_1 l0_2 = some true := by
    rw [show (2000 : Nat) = 1999 + 1 from rfl, formelaw38_ContractCharges.j0, if_pos rfl]
  cases b with
  | false => rw [if_neg (by simp)]; exact hj
  | true =>
    rw [if_pos rfl]
    by_cases c : l1.length > 40
    · rw [decide_eq_true (by omega)]
      exact hj
    · rw [decide_eq_false (by omega), show (2000 : Nat) = 1999 + 1 from rfl, formelaw38_ContractCharges.j0, if_neg (by simp)]
      rcases course_cases a0_0 a0_1 l0_2 l1 with e | e | ⟨hv, hl, hs, e⟩
      · rw [e]
        rfl
      · rw [e]
        rfl
      · rw [e]
        simp only [Option.bind_some]
        rw [if_pos trivial, List.length_map, if_pos rfl]
        have hm := (cvalid_node' hv).2.1
        exact charges_l0 hv (by omega) hs l1.length 1999 0 0 0 0 (by omega) (by omega) (by omega) ⟨rfl, rfl, rfl, (decide_eq_false (by omega)).symm, by omega, by omega⟩
end Go.Proofs.Ytjpghfjaloglhaa.PContract

