import Derived.Test.YtjpghfjaloglhaaZMRECurveRefC
import Derived.Test.YtjpghfjaloglhaaZMRECurveCurveG
import Derived.Test.YtjpghfjaloglhaaZMRPCurvex0
import Derived.Test.YtjpghfjaloglhaaZMRPCurvex16
import Derived.Test.YtjpghfjaloglhaaZMRPCurvex17
/-
The reference's Make, all and Valid on curves, in plain terms.
Conditions: those that each lemma names.
-/
namespace Go.Proofs.Ytjpghfjaloglhaa.PCurve
set_option linter.unusedSimpArgs false
open Go.RowKit Go.Proofs.YtjpghfjaloglhaaW.PrintWords
theorem rmake_l0 {a : Int} {l : List Int} (hl : l.length ≤ 4000) (ha : 0 ≤ a ∧ a ≤ 4001) : ∀ (m k i : Nat), i + m = l.length → 30001 + m ≤ k → (∀ x ∈ l.take i, Q.Coord x) →
    formeref02_Make.l0 k a l (i : Int) = some (if coordsB l = true then (parts a l, 0) else ([], 1))
  | m, k, i, hm, hk, hpre => by
    obtain ⟨k, rfl⟩ : ∃ t, k = t + 1 := ⟨k - 1, by omega⟩
    rw [formeref02_Make.l0]
    by_cases c : i < l.length
    · obtain ⟨m, rfl⟩ : ∃ t, m = t + 1 := ⟨m - 1, by omega⟩
      have hrd : rd l (i : Int) = l[i] := by unfold rd; simp [c]
      rw [if_pos (by omega), if_pos (by omega), rcoord_f, wrap_in (x := (i : Int) + 1) (by omega) (by omega)]
      simp only [Option.bind_some]
      by_cases cc : Q.Coord (rd l (i : Int))
      · rw [decide_eq_true cc, if_pos rfl]
        refine rmake_l0 hl ha m k (i + 1) (by omega) (by omega) fun x hx => ?_
        rw [List.take_succ_eq_append_getElem c] at hx
        rcases List.mem_append.1 hx with hx | hx
        · exact hpre x hx
        · rw [List.mem_singleton.1 hx, ← hrd]
          exact cc
      · rw [decide_eq_false cc, if_neg (by simp), if_neg]
        intro h
        exact cc (coordsB_iff.1 h _ (rd_mem c))
    · have hco : ∀ x ∈ l, Q.Coord x := by rw [List.take_of_length_le (by omega)] at hpre; exact hpre
      rw [if_neg (by omega), rsplit_f (by omega) hl hco ha, if_pos (coordsB_iff.2 hco)]
      rfl
theorem rmake_f {k : Nat} (hk : 40000 ≤ k) (a : Int) (l : List Int) : formeref02_Make.f k a l = some (makeOut a l) := by
  unfold formeref02_Make.f makeOut
  have hj : ∀ b, b = true → formeref02_Make.j0 k a l b = some ([], 1) := fun b hb => by
    obtain ⟨k, rfl⟩ : ∃ t, k = t + 1 := ⟨k - 1, by omega⟩
    rw [formeref02_Make.j0, if_pos hb]
  by_cases c1 : l.length > 4000
  · rw [if_pos (by omega), if_pos c1]
  · rw [if_neg (by omega), if_neg c1]
    by_cases c2 : l.length = 0
    · rw [if_pos (by omega), if_pos (.inl c2)]
      exact hj _ rfl
    · rw [if_neg (by omega)]
      by_cases c3 : a < 0
      · rw [if_pos c3, if_pos (.inr (.inl c3))]
        exact hj _ rfl
      · rw [if_neg c3]
        by_cases c4 : a > 4001
        · rw [if_pos c4, if_pos (.inr (.inr (.inl (by omega))))]
          exact hj _ rfl
        · rw [if_neg c4, wrap_in (x := a + (l.length : Int)) (by omega) (by omega)]
          by_cases c5 : a + (l.length : Int) > 4001
          · rw [decide_eq_true c5, if_pos (.inr (.inr (.inl (by omega))))]
            exact hj _ rfl
          · obtain ⟨k, rfl⟩ : ∃ t, k = t + 1 := ⟨k - 1, by omega⟩
            rw [decide_eq_false c5, formeref02_Make.j0, if_neg (by simp)]
            have := rmake_l0 (a := a) (l := l) (by omega) (by omega) l.length k 0 (by omega) (by omega) (by simp)
            rw [show ((0 : Nat) : Int) = 0 from rfl] at this
            rw [this]
            cases hc : coordsB l with
            | true =>
              rw [if_pos rfl, if_neg]
              rintro (h | h | h | h)
              · omega
              · omega
              · omega
              · cases h
            | false => rw [if_neg (by simp), if_pos (.inr (.inr (.inr rfl)))]
def allFin (acc : List Int) (rest : List SP) (a : Int) : List Int × Bool :=
  match chain a rest with
  | none => ([], false)
  | some _ => if coordsB (valsOf rest) = true then (acc ++ valsOf rest, decide (1 ≤ (acc ++ valsOf rest).length ∧ (acc ++ valsOf rest).length ≤ 4000)) else ([], false)
theorem valsP_get (p : SP) {m n : Nat} (h : m < n) : (valsP p n).drop m = qval p.f2 (m : Int) :: (valsP p n).drop (m + 1) := by
  rw [List.drop_eq_getElem_cons (by rw [valsP_len]; exact h)]
  congr 1
  unfold valsP
  simp
theorem rall_l1 {ps : List SP} {acc : List Int} {i : Nat} {p : SP} (hi : i < 60) (hok : okPart p = true) (hacc : acc.length ≤ 1000000) {res : List Int × Bool} {K : Nat}
    (hnext : ∀ k, K ≤ k → formeref02_all.l0 k ps (acc ++ valsP p (cntOf p)) ((i + 1 : Nat) : Int) = some res) :
    ∀ (d k m : Nat), m + d = cntOf p → K + d + 1 ≤ k → formeref02_all.l1 k ps (acc ++ valsP p m) (i : Int) (p.f0 + (m : Int)) p.f0 p.f1 p.f2.f0 p.f2.f1 p.f2.f2 = some (if coordsB ((valsP p (cntOf p)).drop m) = true then res else ([], false))
  | d, k, m, hd, hk => by
    obtain ⟨k, rfl⟩ : ∃ t, k = t + 1 := ⟨k - 1, by omega⟩
    have hok' := hok
    unfold okPart at hok'
    simp only [Bool.and_eq_true, decide_eq_true_eq] at hok'
    obtain ⟨h1, h2, h3, h4⟩ := hok'
    have hcnt : (cntOf p : Int) = p.f1 - p.f0 := by unfold cntOf; omega
    rw [formeref02_all.l1]
    by_cases c : m < cntOf p
    · obtain ⟨d, rfl⟩ : ∃ t, d = t + 1 := ⟨d - 1, by omega⟩
      rw [if_pos (by omega), wrap_in (x := p.f0 + (m : Int) - p.f0) (by omega) (by omega), show p.f0 + (m : Int) - p.f0 = (m : Int) by omega, rvalue_f (by unfold VB; exact decide_eq_true h1) (by omega)]
      simp only [Option.bind_some]
      rw [rcoord_f]
      simp only [Option.bind_some]
      rw [valsP_get p c]
      have hv : val p.f2.f0 p.f2.f1 p.f2.f2 (m : Int) = qval p.f2 (m : Int) := rfl
      rw [hv]
      by_cases cc : Q.Coord (qval p.f2 (m : Int))
      · rw [decide_eq_true cc, if_pos rfl, if_pos (by rw [List.length_append, valsP_len]; omega), wrap_in (x := p.f0 + (m : Int) + 1) (by omega) (by omega), List.append_assoc, ← valsP_succ, show p.f0 + (m : Int) + 1 = p.f0 + ((m + 1 : Nat) : Int) by omega]
        rw [rall_l1 hi hok hacc hnext d k (m + 1) (by omega) (by omega)]
        congr 2
        unfold coordsB
        simp [cc]
      · rw [decide_eq_false cc, if_neg (by simp), if_neg]
        unfold coordsB
        simp [cc]
    · obtain rfl : m = cntOf p := by omega
      rw [if_neg (by omega), wrap_in (x := (i : Int) + 1) (by omega) (by omega), show (i : Int) + 1 = ((i + 1 : Nat) : Int) by omega, hnext k (by omega), List.drop_eq_nil_of_le (by rw [valsP_len]; exact Nat.le_refl _)]
      rfl
set_option maxRecDepth 100000 in
theorem rall_l0 {ps : List SP} (hps : ps.length < 50) : ∀ (m k i : Nat) (acc : List Int) (a : Int), i + m = ps.length → acc.length ≤ i * 4001 → m * 4010 + 10 ≤ k → (i = 0 → a = (rd_T61 ps 0).f0) → (0 < i → a = (rd_T61 ps ((i : Int) - 1)).f1) →
    formeref02_all.l0 k ps acc (i : Int) = some (allFin acc (ps.drop i) a)
  | m, k, i, acc, a, hm, hacc, hk, ha0, ha1 => by
    obtain ⟨k, rfl⟩ : ∃ t, k = t + 2 := ⟨k - 2, by omega⟩
    rw [formeref02_all.l0]
    by_cases c : i < ps.length
    · obtain ⟨m, rfl⟩ : ∃ t, m = t + 1 := ⟨m - 1, by omega⟩
      rw [if_pos (by omega), if_pos (by omega), rdP_drop c]
      have ha0' := ha0
      generalize hp : rd_T61 ps (i : Int) = p at *
      have hbad : ∀ b, b = true → ¬ (okPart p = true ∧ p.f0 = a) → formeref02_all.j1 (k + 1) ps acc (i : Int) b p.f0 p.f1 p.f2.f0 p.f2.f1 p.f2.f2 = some (allFin acc (p :: ps.drop (i + 1)) a) := fun b hb hn => by
        rw [formeref02_all.j1, if_pos hb]
        unfold allFin chain
        rw [if_neg hn]
      rw [rvalid_f]
      simp only [Option.bind_some]
      by_cases c1 : VB p.f2.f0 p.f2.f1 p.f2.f2 = true
      · rw [c1, if_pos rfl]
        by_cases c2 : p.f0 < 0
        · rw [if_pos c2]
          exact hbad _ rfl (fun h => by have := h.1; unfold okPart at this; simp only [Bool.and_eq_true, decide_eq_true_eq] at this; omega)
        · rw [if_neg c2]
          by_cases c3 : p.f1 ≤ p.f0
          · rw [if_pos c3]
            exact hbad _ rfl (fun h => by have := h.1; unfold okPart at this; simp only [Bool.and_eq_true, decide_eq_true_eq] at this; omega)
          · rw [if_neg c3]
            by_cases c4 : p.f1 > 4001
            · rw [if_pos c4]
              exact hbad _ rfl (fun h => by have := h.1; unfold okPart at this; simp only [Bool.and_eq_true, decide_eq_true_eq] at this; omega)
            · rw [if_neg c4]
              have hok : okPart p = true := by
                unfold okPart
                unfold VB at c1
                rw [c1, decide_eq_true (show 0 ≤ p.f0 ∧ p.f0 < p.f1 ∧ p.f1 ≤ 4001 by omega)]
                rfl
              have hgood : ∀ b, b = false → p.f0 = a → formeref02_all.j1 (k + 1) ps acc (i : Int) b p.f0 p.f1 p.f2.f0 p.f2.f1 p.f2.f2 = some (allFin acc (p :: ps.drop (i + 1)) a) := fun b hb he => by
                rw [formeref02_all.j1, if_neg (by rw [hb]; simp)]
                have hcn : cntOf p ≤ 4001 := by unfold cntOf; omega
                have hnx : ∀ k', m * 4010 + 10 ≤ k' → formeref02_all.l0 k' ps (acc ++ valsP p (cntOf p)) ((i + 1 : Nat) : Int) = some (allFin (acc ++ valsP p (cntOf p)) (ps.drop (i + 1)) p.f1) := fun k' hk' =>
                  rall_l0 hps m k' (i + 1) _ _ (by omega) (by rw [List.length_append, valsP_len]; omega) hk' (fun h => by omega) (fun _ => by rw [show ((i + 1 : Nat) : Int) - 1 = (i : Int) by omega, hp])
                have := rall_l1 (ps := ps) (acc := acc) (i := i) (by omega) hok (by omega) hnx (cntOf p) k 0 (by omega) (by omega)
                rw [show valsP p 0 = [] from rfl, List.append_nil, show p.f0 + ((0 : Nat) : Int) = p.f0 by omega, List.drop_zero] at this
                rw [this]
                congr 1
                unfold allFin
                rw [show chain a (p :: ps.drop (i + 1)) = chain p.f1 (ps.drop (i + 1)) by rw [chain, if_pos ⟨hok, he⟩]]
                cases chain p.f1 (ps.drop (i + 1)) with
                | none => simp
                | some e =>
                  simp only
                  rw [valsOf_cons]
                  unfold coordsB
                  rw [List.all_append, List.append_assoc]
                  cases h1 : (valsP p (cntOf p)).all fun x => decide (Q.Coord x) <;> cases h2 : (valsOf (ps.drop (i + 1))).all fun x => decide (Q.Coord x) <;> simp
              by_cases c5 : (i : Int) > 0
              · rw [if_pos c5, wrap_in (x := (i : Int) - 1) (by omega) (by omega), if_pos (by omega), if_pos (by omega), ← ha1 (by omega)]
                by_cases c6 : p.f0 = a
                · exact hgood _ (by simp [c6]) c6
                · exact hbad _ (by simp [c6]) (fun h => c6 h.2)
              · rw [if_neg c5]
                obtain rfl : i = 0 := by omega
                exact hgood _ rfl (by rw [ha0 rfl, ← hp]; rfl)
      · rw [if_neg c1]
        exact hbad _ rfl (fun h => c1 (by have := h.1; unfold okPart at this; simp only [Bool.and_eq_true] at this; exact this.1))
    · rw [if_neg (by omega), List.drop_eq_nil_of_le (by omega)]
      unfold allFin chain
      rw [show valsOf [] = [] from rfl, List.append_nil, show coordsB [] = true from rfl]
      simp only [if_true]
      by_cases c2 : (acc.length : Int) ≥ 1
      · rw [if_pos c2]
        congr 2
        exact decide_eq_decide.2 (by omega)
      · rw [if_neg c2, decide_eq_false (by omega)]
termination_by m => m
end Go.Proofs.Ytjpghfjaloglhaa.PCurve

