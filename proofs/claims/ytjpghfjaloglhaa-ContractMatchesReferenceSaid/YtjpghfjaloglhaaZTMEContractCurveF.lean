import Derived.Test.YtjpghfjaloglhaaZTMEContractValid
import Derived.Test.YtjpghfjaloglhaaZTMEContractValues
import Derived.Test.YtjpghfjaloglhaaZTMEContractAt
/-
Plain facts on parts: what Make returns is valid, has the values it was made of, and At finds them.
Conditions: those that each lemma names.
-/
namespace Go.Proofs.Ytjpghfjaloglhaa.PContract
open Go.RowKit Go.Proofs.YtjpghfjaloglhaaW.PrintWords
theorem longN_fits {l : List Int} (h : 1 ≤ l.length) (hco : ∀ x ∈ l, Q.Coord x) : ∃ q, Q.fitL (l.take (longN l)) = some q ∧ q.Ok ∧ q.Fits (l.take (longN l)) := by
 have hl := longN_long h hco
 cases e : Q.fitL (l.take (longN l)) with
 | none =>
  have := hl.fits
  rw [e] at this
  cases this
 | some q =>
  have h1 := hl.one
  have h2 := hl.le
  have hq := Q.fitL_first (by rw [List.length_take]; omega) e
  exact ⟨q, rfl, hq.ok, hq.fits⟩
theorem fits_vals {q : Q.Quo} (hq : 1 ≤ q.D) {l : List Int} (h : q.Fits l) : (List.range l.length).map (fun i : Nat => qval (toS q) (i : Int)) = l := by
 refine List.ext_getElem (by simp) fun i h1 h2 => ?_
 have hg := Q.fitsAt_get h i h2
 simp only [List.getElem_map, List.getElem_range, qval, toS]
 simp only [Int.zero_add] at hg
 have e1 : l[i] ≤ (q.A * (i : Int) + q.B) / q.D := (Int.le_ediv_iff_mul_le (by omega)).2 (by rw [Int.mul_comm]; omega)
 have e2 : (q.A * (i : Int) + q.B) / q.D < l[i] + 1 := (Int.ediv_lt_iff_lt_mul (by omega)).2 (by rw [Int.add_mul, Int.one_mul, Int.mul_comm l[i] q.D]; omega)
 omega
theorem valsOf_cons (p : SP) (l : List SP) : valsOf (p :: l) = valsP p (cntOf p) ++ valsOf l := by
 unfold valsOf valsP cntOf
 rw [List.flatMap_cons]
theorem valsP_len (p : SP) (n : Nat) : (valsP p n).length = n := by unfold valsP; simp
theorem partsF_cons {f : Nat} {a : Int} {l : List Int} (h : 1 ≤ l.length) : partsF (f + 1) a l = ⟨a, a + (longN l : Int), toS ((Q.fitL (l.take (longN l))).getD ⟨0, 0, 0⟩)⟩ :: partsF f (a + (longN l : Int)) (l.drop (longN l)) := by
 rw [partsF, if_neg (by omega)]
theorem partsF_nil (f : Nat) (a : Int) (l : List Int) (h : l.length = 0) : partsF f a l = [] := by
 cases f with
 | zero => rfl
 | succ f => rw [partsF, if_pos h]
theorem part_ok {a : Int} {l : List Int} (h1 : 1 ≤ l.length) (hco : ∀ x ∈ l, Q.Coord x) (ha : 0 ≤ a) (ha2 : a + l.length ≤ 4001) :
  okPart ⟨a, a + (longN l : Int), toS ((Q.fitL (l.take (longN l))).getD ⟨0, 0, 0⟩)⟩ = true ∧ valsP ⟨a, a + (longN l : Int), toS ((Q.fitL (l.take (longN l))).getD ⟨0, 0, 0⟩)⟩ (longN l) = l.take (longN l) := by
 obtain ⟨q, e, hq, hf⟩ := longN_fits h1 hco
 have hl := longN_long h1 hco
 have g1 := hl.one
 have g2 := hl.le
 rw [e]
 refine ⟨?_, ?_⟩
 ·unfold okPart toS
  simp only [Option.getD_some, Bool.and_eq_true, decide_eq_true_eq]
  exact ⟨⟨hq.1, hq.2.1, hq.2.2⟩, by omega, by omega, by omega⟩
 ·have := fits_vals hq.1.1 hf
  rw [List.length_take, Nat.min_eq_left g2] at this
  exact this
theorem partsF_spec : ∀ (f : Nat) (a : Int) (l : List Int), l.length ≤ f → (∀ x ∈ l, Q.Coord x) → 0 ≤ a → a + l.length ≤ 4001 → chain a (partsF f a l) = some (a + l.length) ∧ valsOf (partsF f a l) = l
 | f, a, [], _, _, _, _ => by
  rw [partsF_nil f a [] rfl]
  simp [chain, valsOf]
 | 0, a, v :: l, h, _, _, _ => by simp at h
 | f + 1, a, v :: l, h, hco, ha, ha2 => by
  have h1 : 1 ≤ (v :: l).length := by simp
  rw [partsF_cons h1]
  have hp := part_ok h1 hco ha ha2
  have hl := longN_long h1 hco
  have g1 := hl.one
  have g2 := hl.le
  generalize hw : v :: l = w at *
  obtain ⟨i1, i2⟩ := partsF_spec f (a + (longN w : Int)) (w.drop (longN w)) (by rw [List.length_drop]; omega) (drops_coord hco _) (by omega) (by rw [List.length_drop]; omega)
  refine ⟨?_, ?_⟩
  ·rw [chain, if_pos ⟨hp.1, rfl⟩, i1, List.length_drop]
   congr 1
   omega
  ·have hc : cntOf ⟨a, a + (longN w : Int), toS ((Q.fitL (w.take (longN w))).getD ⟨0, 0, 0⟩)⟩ = longN w := by unfold cntOf; simp only; omega
   rw [valsOf_cons, hc, hp.2, i2, List.take_append_drop]
theorem parts_spec {a : Int} {l : List Int} (hco : ∀ x ∈ l, Q.Coord x) (ha : 0 ≤ a) (ha2 : a + l.length ≤ 4001) : chain a (parts a l) = some (a + l.length) ∧ valsOf (parts a l) = l := partsF_spec _ a l (Nat.le_refl _) hco ha ha2
theorem parts_first {a : Int} {l : List Int} (h : 1 ≤ l.length) : (rd_T61 (parts a l) 0).f0 = a ∧ 1 ≤ (parts a l).length := by
 unfold parts
 obtain ⟨f, hf⟩ : ∃ f, l.length = f + 1 := ⟨l.length - 1, by omega⟩
 rw [hf, partsF_cons h]
 exact ⟨rfl, by simp⟩
structure Good (a : Int) (l : List Int) : Prop where
 one : 1 ≤ l.length
 few : l.length ≤ 4000
 zero : 0 ≤ a
 far : a + l.length ≤ 4001
 co : ∀ x ∈ l, Q.Coord x
theorem make_good {a : Int} {l : List Int} (h : Good a l) : makeOut a l = (parts a l, 0) := by
 unfold makeOut
 have := h.one
 have := h.few
 have := h.zero
 have := h.far
 rw [if_neg (by omega), if_neg]
 rintro (h1 | h1 | h1 | h1)
 ·omega
 ·omega
 ·omega
 ·rw [coordsB_iff.2 h.co] at h1
  cases h1
theorem make_ok_good {a : Int} {l : List Int} (h : (makeOut a l).2 = 0) : Good a l := by
 unfold makeOut at h
 by_cases c1 : l.length > 4000
 ·rw [if_pos c1] at h
  cases h
 ·rw [if_neg c1] at h
  by_cases c2 : l.length = 0 ∨ a < 0 ∨ a > 4001 - (l.length : Int) ∨ coordsB l = false
  ·rw [if_pos c2] at h
   cases h
  ·have c3 : coordsB l = true := by
    cases e : coordsB l with
    | true => rfl
    | false => exact absurd (.inr (.inr (.inr e))) c2
   have c4 : ¬ l.length = 0 := fun e => c2 (.inl e)
   have c5 : ¬ a < 0 := fun e => c2 (.inr (.inl e))
   have c6 : ¬ a > 4001 - (l.length : Int) := fun e => c2 (.inr (.inr (.inl e)))
   exact ⟨by omega, by omega, by omega, by omega, coordsB_iff.1 c3⟩
theorem parts_joined {a : Int} {l : List Int} (h : Good a l) : joinedB (parts a l) = true := by
 have hs := (parts_spec h.co h.zero h.far).1
 have hf := parts_first (a := a) h.one
 cases e : parts a l with
 | nil => rw [e] at hf; simp at hf
 | cons p r =>
  rw [e] at hs hf
  have hf0 : p.f0 = a := hf.1
  unfold joinedB
  simp only [hf0, hs, decide_eq_true_eq]
  have := h.few
  omega
theorem parts_valid {a : Int} {l : List Int} (h : Good a l) : validB (parts a l) = true := by
 have hs := (parts_spec h.co h.zero h.far).2
 have hf := (parts_first (a := a) h.one).1
 unfold validB
 rw [parts_joined h, show (parts a l).getD 0 z61 = rd_T61 (parts a l) 0 from rfl, hf, hs, make_good h]
 simp
theorem valid_parts {l : List SP} (h : validB l = true) : Good (rd_T61 l 0).f0 (valsOf l) ∧ l = parts (rd_T61 l 0).f0 (valsOf l) := by
 unfold validB at h
 simp only [Bool.and_eq_true, decide_eq_true_eq] at h
 have h2 : makeOut (rd_T61 l 0).f0 (valsOf l) = (l, 0) := h.2
 have hg := make_ok_good (a := (rd_T61 l 0).f0) (l := valsOf l) (by rw [h2])
 refine ⟨hg, ?_⟩
 rw [make_good hg] at h2
 injection h2 with h2 _
 exact h2.symm
theorem chain_find : ∀ (l : List SP) (a e : Int), chain a l = some e → ∀ n, a ≤ n → n < e → ∃ p, l.find? (hasN n) = some p ∧ qval p.f2 (n - p.f0) = (valsOf l).getD (n - a).toNat 0
 | [], a, e, h, n, h1, h2 => by
  obtain rfl : a = e := by simpa [chain] using h
  omega
 | p :: l, a, e, h, n, h1, h2 => by
  unfold chain at h
  by_cases c : okPart p = true ∧ p.f0 = a
  ·rw [if_pos c] at h
   obtain ⟨c1, rfl⟩ := c
   unfold okPart at c1
   simp only [Bool.and_eq_true, decide_eq_true_eq] at c1
   obtain ⟨-, c2, c3, c4⟩ := c1
   by_cases c5 : n < p.f1
   ·refine ⟨p, ?_, ?_⟩
    ·rw [List.find?_cons_of_pos (by unfold hasN; simp [h1, c5])]
    ·rw [valsOf_cons, List.getD_eq_getElem?_getD, List.getElem?_append_left (by rw [valsP_len]; unfold cntOf; omega)]
     unfold valsP
     rw [List.getElem?_map, List.getElem?_range (by unfold cntOf; omega)]
     simp only [Option.map_some, Option.getD_some]
     congr 1
     omega
   ·obtain ⟨q, g1, g2⟩ := chain_find l _ e h n (by omega) h2
    refine ⟨q, ?_, ?_⟩
    ·rw [List.find?_cons_of_neg (by unfold hasN; simp; omega)]
     exact g1
    ·rw [g2, valsOf_cons, List.getD_eq_getElem?_getD, List.getD_eq_getElem?_getD, List.getElem?_append_right (by rw [valsP_len]; unfold cntOf; omega), valsP_len]
     unfold cntOf
     congr 2
     omega
  ·rw [if_neg c] at h
   cases h
theorem at_in {a : Int} {l : List Int} (h : Good a l) {i : Nat} (hi : i < l.length) : atOut (parts a l) (a + i) = (l.getD i 0, 0) := by
 obtain ⟨s1, s2⟩ := parts_spec h.co h.zero h.far
 obtain ⟨p, g1, g2⟩ := chain_find _ _ _ s1 (a + i) (by omega) (by omega)
 unfold atOut
 rw [g1]
 simp only
 rw [parts_valid h, if_pos rfl, g2, s2]
 congr 2
 omega
end Go.Proofs.Ytjpghfjaloglhaa.PContract

