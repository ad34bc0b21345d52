/-
The reference's Fit, Values, Fits and Before, in plain terms.
Conditions: those that each lemma names.
-/
import Derived.Test.YtjpghfjaloglhaaEQuotQuotF
import Derived.Test.YtjpghfjaloglhaaPQuotx0
import Derived.Test.YtjpghfjaloglhaaPQuotx6
import Derived.Test.YtjpghfjaloglhaaPQuotx4
namespace Go.Proofs.Ytjpghfjaloglhaa.PQuot
open Go.RowKit Go.Proofs.YtjpghfjaloglhaaW.PrintWords

theorem coord_all {l : List Int} (h : l.all (fun x => decide (Q.Coord x)) = true) : ∀ x ∈ l, Q.Coord x := by simpa using h

def valuesB (l : List Int) : Bool := l.all (fun x => decide (Q.Coord x)) && decide (1 ≤ l.length ∧ l.length ≤ 4000)
theorem rvalues_l0 (l : List Int) (hl : l.length ≤ 100000) : ∀ (m k i : Nat), i + m = l.length → m < k →
    formeref01_Values.l0 k l (i : Int) = some ((l.drop i).all (fun x => decide (Q.Coord x)) && decide (1 ≤ l.length ∧ l.length ≤ 4000))
  | 0, k, i, hm, hk => by
    obtain ⟨k, rfl⟩ : ∃ m, k = m + 1 := ⟨k - 1, by omega⟩
    have e : l.drop i = [] := List.drop_eq_nil_of_le (by omega)
    rw [e]
    unfold formeref01_Values.l0
    rw [if_neg (by omega)]
    by_cases c : (l.length : Int) ≥ 1
    · rw [if_pos c]
      have h1 : 1 ≤ l.length := by omega
      have h2 : ((l.length : Int) ≤ 4000) ↔ l.length ≤ 4000 := by omega
      simp [h1, h2]
    · rw [if_neg c]
      have : ¬ 1 ≤ l.length := by omega
      simp [this]
  | m + 1, k, i, hm, hk => by
    obtain ⟨k, rfl⟩ : ∃ m, k = m + 1 := ⟨k - 1, by omega⟩
    have hi1 : i < l.length := by omega
    unfold formeref01_Values.l0
    rw [if_pos (by omega), if_pos (by omega), rcoord_f, wrap_in (x := (i : Int) + 1) (by omega) (by omega), rd_drop hi1]
    have e1 : (i : Int) + 1 = ((i + 1 : Nat) : Int) := by omega
    rw [e1, rvalues_l0 l hl m k (i + 1) (by omega) (by omega)]
    simp only [Option.bind_some, List.all_cons]
    by_cases c : Q.Coord (rd l (i : Int)) <;> simp [c]
theorem rvalues_f {k : Nat} (l : List Int) (hl : l.length ≤ 100000) (hk : l.length < k) : formeref01_Values.f k l = some (valuesB l) := by
  have h := rvalues_l0 l hl l.length k 0 (by omega) (by omega)
  unfold formeref01_Values.f
  exact h

theorem bestD_one {l : List Int} (h : l.length = 1) (d : Int) : Q.bestD l d = if (Q.bs l 0 d).1 ≤ (Q.bs l 0 d).2 then some (0, (Q.bs l 0 d).1) else none := by
  unfold Q.bestD Q.cands
  rw [if_pos h]
  simp only [List.foldl_cons, List.foldl_nil, Q.step]

theorem first_f {k : Nat} (l : List Int) (d : Int) (hk : 6000 ≤ k) (hd : 1 ≤ d ∧ d ≤ 16) (h1 : 1 ≤ l.length) (hl : l.length ≤ 4000) (hco : ∀ x ∈ l, Q.Coord x) :
    ∃ r, formeref01_first.f k l d = some r ∧ (∀ p, Q.bestD l d = some p → r = (p.1, p.2, d, true)) ∧ (Q.bestD l d = none → r.2.2.2 = false) := by
  unfold formeref01_first.f
  by_cases c1 : l.length = 1
  · rw [if_pos (by omega), least_f (by omega) l 0 d (by omega) hd hl hco]
    simp only [Option.bind_some]
    refine ⟨_, rfl, ?_⟩
    rw [bestD_one c1]
    by_cases c2 : (Q.bs l 0 d).1 ≤ (Q.bs l 0 d).2
    · rw [if_pos c2]
      simp [c2]
    · rw [if_neg c2]
      simp [c2]
  · have en : wrap64 ((l.length : Int) - 1) = (l.length : Int) - 1 := wrap_in (by omega) (by omega)
    rw [if_neg (by omega), en, if_pos (by omega), if_pos (by omega), if_pos (by omega)]
    have hb0 : Q.Coord (rd l 0) := hco _ (rd_mem (i := 0) (by omega))
    have hbn : Q.Coord (rd l ((l.length : Int) - 1)) := by
      have := rd_mem (l := l) (i := l.length - 1) (by omega)
      rw [show ((l.length - 1 : Nat) : Int) = (l.length : Int) - 1 by omega] at this
      exact hco _ this
    have hr : Q.rise l d = d * (rd l ((l.length : Int) - 1) - rd l 0) := by
      unfold Q.rise rd
      rw [show ((l.length : Int) - 1).toNat = l.length - 1 by omega]
      rfl
    generalize rd l 0 = x0 at *
    generalize rd l ((l.length : Int) - 1) = xn at *
    obtain ⟨u1, u2⟩ := hb0
    obtain ⟨u3, u4⟩ := hbn
    have p1 := mul_le (a := d) (b := xn - x0) (A := 16) (B := 2000000000) (by omega) (by omega) (by omega) (by omega)
    rw [wrap_in (x := xn - x0) (by omega) (by omega), wrap_in (x := d * (xn - x0)) (by omega) (by omega), ← hr]
    rw [← hr] at p1
    clear hr
    obtain ⟨R, hR⟩ : ∃ R, Q.rise l d = R := ⟨_, rfl⟩
    rw [hR] at p1 ⊢
    rw [wrap_in (x := R - d) (by omega) (by omega), wrap_in (x := R - d + 1) (by omega) (by omega), wrap_in (x := -(R - d + 1)) (by omega) (by omega), wrap_in (x := R + d) (by omega) (by omega), wrap_in (x := R + d - 1) (by omega) (by omega)]
    rw [rfloor_f' (by omega) (by omega), rfloor_f' (by omega) (by omega)]
    simp only [Option.bind_some]
    have hpos : 0 < (l.length : Int) - 1 := by omega
    obtain ⟨q, hq⟩ : ∃ q, (-(R - d + 1)) / ((l.length : Int) - 1) = q := ⟨_, rfl⟩
    obtain ⟨h, hh⟩ : ∃ h, (R + d - 1) / ((l.length : Int) - 1) = h := ⟨_, rfl⟩
    have hlo : Q.loA l d = -q := by unfold Q.loA; rw [hR, ← hq, show -(R - d + 1) = d - 1 - R by omega]
    have hhi : Q.hiA l d = h := by unfold Q.hiA; rw [hR, hh]
    have q1 : q * ((l.length : Int) - 1) ≤ -(R - d + 1) := (Int.le_ediv_iff_mul_le hpos).1 (by omega)
    have q4 : h * ((l.length : Int) - 1) ≤ R + d - 1 := (Int.le_ediv_iff_mul_le hpos).1 (by omega)
    have q2 : -33000000000 ≤ q := by rw [← hq, Int.le_ediv_iff_mul_le hpos]; omega
    have q3 : q ≤ 33000000000 := by
      have : q < 33000000000 := by rw [← hq, Int.ediv_lt_iff_lt_mul hpos]; omega
      omega
    have q5 : h ≤ 32900000000 := by
      have : h < 32900000000 := by rw [← hh, Int.ediv_lt_iff_lt_mul hpos]; omega
      omega
    have q6 : h + q ≤ 30 := by
      have e : (h + q) * ((l.length : Int) - 1) ≤ 30 := by rw [Int.add_mul]; omega
      have e2 : ¬ (31 ≤ h + q) := fun c => by
        have := Int.mul_le_mul_of_nonneg_right c (show 0 ≤ (l.length : Int) - 1 by omega)
        omega
      omega
    rw [hq, hh, wrap_in (x := -q) (by omega) (by omega)]
    by_cases c2 : -q ≤ h + 1
    · have hf := first_l0 l d h hd hl hco (by omega) (h + 1 + q).toNat k (-q) none (by omega) (by omega) (by omega) (fun p e => by simp at e)
      have hbd : Q.bestD l d = ((Q.ints (-q) h).filter fun a => decide (Q.Coord a)).foldl (Q.step l d) none := by
        unfold Q.bestD Q.cands
        rw [if_neg c1, hlo, hhi]
      rw [← hbd] at hf
      refine ⟨_, hf, ?_⟩
      cases Q.bestD l d with
      | none => simp [encF]
      | some p => simp [encF]
    · exfalso
      have c3 : ¬ (-q - 1 ≤ h) := by omega
      have e1 : -q - 1 ≤ h ↔ (-q - 1) * ((l.length : Int) - 1) ≤ R + d - 1 := by rw [← hh]; exact Int.le_ediv_iff_mul_le hpos
      rw [e1, Int.sub_mul, Int.neg_mul, Int.one_mul] at c3
      have e2 : q + 1 ≤ q ↔ (q + 1) * ((l.length : Int) - 1) ≤ -(R - d + 1) := by
        have := Int.le_ediv_iff_mul_le (a := q + 1) (b := -(R - d + 1)) hpos
        rw [hq] at this
        exact this
      have c4 : ¬ (q + 1 ≤ q) := by omega
      rw [e2, Int.add_mul, Int.one_mul] at c4
      omega

def foundOut (o : Option Q.Quo) : Int × Int × Int × Bool × Int :=
  match o with
  | none => (0, 0, 0, false, 0)
  | some q => (q.A, q.B, q.D, true, 0)
theorem rfit_l0 (l : List Int) (h1 : 1 ≤ l.length) (hl : l.length ≤ 4000) (hco : ∀ x ∈ l, Q.Coord x) : ∀ (m k : Nat) (d : Int), 1 ≤ d → d + m = 17 → m + 6000 < k →
    formeref01_Fit.l0 k l d = some (foundOut (Q.findD l m d))
  | 0, k, d, hd, hm, hk => by
    obtain ⟨k, rfl⟩ : ∃ m, k = m + 1 := ⟨k - 1, by omega⟩
    unfold formeref01_Fit.l0
    rw [if_neg (by omega)]
    rfl
  | m + 1, k, d, hd, hm, hk => by
    obtain ⟨k, rfl⟩ : ∃ m, k = m + 1 := ⟨k - 1, by omega⟩
    unfold formeref01_Fit.l0
    obtain ⟨r, hr, hs, hn⟩ := first_f (k := k) l d (by omega) (by omega) h1 hl hco
    rw [if_pos (by omega), hr, wrap_in (x := d + 1) (by omega) (by omega)]
    simp only [Option.bind_some, Q.findD]
    cases hb : Q.bestD l d with
    | none =>
      rw [hn hb]
      simp only [Bool.false_eq_true, if_false]
      exact rfit_l0 l h1 hl hco m k (d + 1) (by omega) (by omega) (by omega)
    | some p =>
      rw [hs p hb]
      simp [foundOut]
theorem rfit_f {k : Nat} (hk : 10000 ≤ k) (l : List Int) (hl : l.length ≤ 100000) : formeref01_Fit.f k l = some (fitOut l) := by
  unfold formeref01_Fit.f fitOut
  by_cases c1 : l.length > 4000
  · rw [if_pos (by omega), if_pos c1]
  · rw [if_neg (by omega), if_neg c1, rvalues_f l hl (by omega)]
    simp only [Option.bind_some]
    unfold valuesB
    cases c2 : l.all (fun x => decide (Q.Coord x)) with
    | false => simp
    | true =>
      have hco := coord_all c2
      by_cases c3 : l.length = 0
      · have : ¬ 1 ≤ l.length := by omega
        simp [c3]
      · have h1 : 1 ≤ l.length := by omega
        have h2 : l.length ≤ 4000 := by omega
        simp only [h1, h2, and_self, decide_true, Bool.and_self, if_true, Bool.true_eq_false, if_false, c3]
        rw [rfit_l0 l h1 h2 hco 16 k 1 (by omega) (by omega) (by omega)]
        rfl

end Go.Proofs.Ytjpghfjaloglhaa.PQuot
