import Derived.Test.YtjpghfjaloglhaaZMRECurveRefFit
import Derived.Test.YtjpghfjaloglhaaZMRECurveCurveF
import Derived.Test.YtjpghfjaloglhaaZMRPCurvex0
import Derived.Test.YtjpghfjaloglhaaZMRPCurvex16
/-
The reference's split and Make on curves, in plain terms.
Conditions: those that each lemma names.
-/
namespace Go.Proofs.Ytjpghfjaloglhaa.PCurve
set_option linter.unusedSimpArgs false
open Go.RowKit Go.Proofs.YtjpghfjaloglhaaW.PrintWords
theorem partsF_more : ∀ (f g : Nat) (a : Int) (l : List Int), l.length ≤ f → l.length ≤ g → (∀ x ∈ l, Q.Coord x) → partsF f a l = partsF g a l
  | f, g, a, [], _, _, _ => by rw [partsF_nil f a [] rfl, partsF_nil g a [] rfl]
  | 0, g, a, v :: l, h, _, _ => by simp at h
  | f + 1, 0, a, v :: l, _, h, _ => by simp at h
  | f + 1, g + 1, a, v :: l, h1, h2, hco => by
    have hl1 : 1 ≤ (v :: l).length := by simp
    have hl := (longN_long hl1 hco).one
    rw [partsF_cons hl1, partsF_cons hl1]
    generalize hw : v :: l = w at *
    rw [partsF_more f g _ (w.drop (longN w)) (by rw [List.length_drop]; omega) (by rw [List.length_drop]; omega) (drops_coord hco _)]
theorem rfit_out {k : Nat} (hk : 10000 ≤ k) {l : List Int} (h1 : 1 ≤ l.length) (hl : l.length ≤ 4000) (hco : ∀ x ∈ l, Q.Coord x) : formeref01_Fit.f k l = some (foQ (Q.fitL l)) := by
  rw [rfit_f hk l (by omega)]
  have := fit_out h1 hl hco
  unfold quot_Fit.f at this
  exact this
theorem rsplit_l1 {a : Int} {l : List Int} (hl : l.length ≤ 4000) (hco : ∀ x ∈ l, Q.Coord x) (ha : 0 ≤ a ∧ a ≤ 4001) {acc : List SP} (hacc : acc.length ≤ 10000) {s : Nat} (hs : s < l.length) {n : Nat} (hn : IsLong (l.drop s) n) {q : Q.Quo} (hq : Q.fitL ((l.drop s).take n) = some q) {res : List SP} {K : Nat} (hK : 10000 ≤ K)
    (hnext : ∀ k, K ≤ k → formeref02_split.l0 k a l (acc ++ [⟨a + (s : Int), a + (s : Int) + (n : Int), toS q⟩]) ((s + n : Nat) : Int) = some res) :
    ∀ (d k j : Nat) (r : Q.Quo), j + d = n → 1 ≤ j → K + d + 1 ≤ k → Q.fitL ((l.drop s).take j) = some r → formeref02_split.l1 k a l acc (s : Int) ((s + j : Nat) : Int) r.A r.B r.D = some res
  | d, k, j, r, hd, hj, hk, hr => by
    obtain ⟨k, rfl⟩ : ∃ t, k = t + 1 := ⟨k - 1, by omega⟩
    have hdl : (l.drop s).length = l.length - s := List.length_drop
    have h2 := hn.le
    have hmost := hn.most
    have hfin : j = n → (if acc.length < 3518437208883 then (formeref02_split.l0 k a l (acc ++ [(⟨wrap64 (a + (s : Int)), wrap64 (a + ((s + j : Nat) : Int)), (⟨r.A, r.B, r.D⟩ : SQ)⟩ : SP)]) ((s + j : Nat) : Int)) else (none)) = some res := fun e => by
      subst e
      rw [hq] at hr
      obtain rfl := Option.some.inj hr
      rw [if_pos (by omega), wrap_in (x := a + (s : Int)) (by omega) (by omega), wrap_in (x := a + ((s + j : Nat) : Int)) (by omega) (by omega)]
      have := hnext k (by omega)
      rw [show a + (s : Int) + (j : Int) = a + ((s + j : Nat) : Int) by omega] at this
      exact this
    rw [formeref02_split.l1]
    by_cases c : s + j < l.length
    · have hseg : (l.take (s + j + 1)).drop s = (l.drop s).take (j + 1) := by rw [List.drop_take]; congr 1; omega
      rw [if_pos (by omega), wrap_in (x := ((s + j : Nat) : Int) + 1) (by omega) (by omega), show ((s + j : Nat) : Int) + 1 = ((s + j + 1 : Nat) : Int) by omega]
      rw [if_pos (by omega), if_pos (by omega), if_pos (by omega), Int.toNat_natCast, Int.toNat_natCast, hseg]
      rw [rfit_out (by omega) (by rw [List.length_take]; omega) (by rw [List.length_take]; omega) (takes_coord (drops_coord hco s) _)]
      simp only [Option.bind_some]
      by_cases e : j = n
      · have hz : Q.fitL ((l.drop s).take (j + 1)) = none := by rw [e]; exact hmost (by omega)
        rw [hz]
        simp only [foQ, Bool.false_eq_true, if_false]
        exact hfin e
      · obtain ⟨d, rfl⟩ : ∃ t, d = t + 1 := ⟨d - 1, by omega⟩
        have hf := fit_less (l := l.drop s) (m := j + 1) (n := n) (by omega) (by omega) h2 hn.fits
        cases e2 : Q.fitL ((l.drop s).take (j + 1)) with
        | none => rw [e2] at hf; cases hf
        | some r2 =>
          simp only [foQ, if_true]
          exact rsplit_l1 hl hco ha hacc hs hn hq hK hnext d k (j + 1) r2 (by omega) (by omega) (by omega) e2
    · rw [if_neg (by omega)]
      exact hfin (by omega)
theorem rsplit_l0 {a : Int} {l : List Int} (hl : l.length ≤ 4000) (hco : ∀ x ∈ l, Q.Coord x) (ha : 0 ≤ a ∧ a ≤ 4001) : ∀ (m k s : Nat) (acc : List SP), s + m = l.length → acc.length ≤ s → 10000 + 3 * m + 3 ≤ k →
    formeref02_split.l0 k a l acc (s : Int) = some (acc ++ partsF m (a + (s : Int)) (l.drop s))
  | m, k, s, acc, hm, hacc, hk => by
    obtain ⟨k, rfl⟩ : ∃ t, k = t + 1 := ⟨k - 1, by omega⟩
    rw [formeref02_split.l0]
    have hdl : (l.drop s).length = l.length - s := List.length_drop
    by_cases c : s < l.length
    · obtain ⟨m, rfl⟩ : ∃ t, m = t + 1 := ⟨m - 1, by omega⟩
      have hco2 := drops_coord hco s
      have hlong := longN_long (l := l.drop s) (by omega) hco2
      obtain ⟨q, e, hq, hqf⟩ := longN_fits (l := l.drop s) (by omega) hco2
      have g1 := hlong.one
      have g2 := hlong.le
      rw [partsF_cons (by omega), e]
      simp only [Option.getD_some]
      have hseg : (l.take (s + 1)).drop s = (l.drop s).take 1 := by rw [List.drop_take]; congr 1; omega
      rw [if_pos (by omega), wrap_in (x := (s : Int) + 1) (by omega) (by omega), if_pos (by omega), if_pos (by omega), if_pos (by omega), show (s : Int) + 1 = ((s + 1 : Nat) : Int) by omega, Int.toNat_natCast, Int.toNat_natCast, hseg]
      rw [rfit_out (by omega) (by rw [List.length_take]; omega) (by rw [List.length_take]; omega) (takes_coord hco2 _)]
      simp only [Option.bind_some]
      have hf := fit_first (l := l.drop s) (by omega) hco2
      cases e1 : Q.fitL ((l.drop s).take 1) with
      | none => rw [e1] at hf; cases hf
      | some r1 =>
        simp only [foQ]
        generalize hN : longN (l.drop s) = n at *
        have hdd : (l.drop s).drop n = l.drop (s + n) := List.drop_drop
        refine rsplit_l1 hl hco ha (by omega) c hlong e (K := 10000 + 3 * m + 3 - (n - 1)) (by omega) (fun k' hk' => ?_) (n - 1) k 1 r1 (by omega) (by omega) (by omega) e1
        obtain ⟨m2, hm2⟩ : ∃ t, s + n + t = l.length := ⟨l.length - (s + n), by omega⟩
        have := rsplit_l0 hl hco ha m2 k' (s + n) (acc ++ [⟨a + (s : Int), a + (s : Int) + (n : Int), toS q⟩]) hm2 (by rw [List.length_append, List.length_singleton]; omega) (by omega)
        rw [this, List.append_assoc, hdd, show a + ((s + n : Nat) : Int) = a + (s : Int) + (n : Int) by omega]
        congr 2
        rw [List.singleton_append]
        congr 1
        exact partsF_more m2 m _ _ (by rw [List.length_drop]; omega) (by rw [List.length_drop]; omega) (drops_coord hco _)
    · rw [if_neg (by omega), partsF_nil _ _ _ (by omega), List.append_nil]
termination_by m => m
theorem rsplit_f {k : Nat} {a : Int} {l : List Int} (hk : 30000 ≤ k) (hl : l.length ≤ 4000) (hco : ∀ x ∈ l, Q.Coord x) (ha : 0 ≤ a ∧ a ≤ 4001) : formeref02_split.f k a l = some (parts a l) := by
  unfold formeref02_split.f parts
  have := rsplit_l0 hl hco ha l.length k 0 [] (by omega) (by simp) (by omega)
  simpa using this
end Go.Proofs.Ytjpghfjaloglhaa.PCurve

