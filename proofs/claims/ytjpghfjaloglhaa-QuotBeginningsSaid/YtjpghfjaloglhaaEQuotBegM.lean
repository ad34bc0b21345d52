/-
The values of a quotient at the first places, and the first quotients that fit them and their beginnings.
Conditions: those that each lemma names.
-/
import Derived.Test.YtjpghfjaloglhaaEQuotPuQuotFits
import Derived.Test.YtjpghfjaloglhaaPQuotx0
import Derived.Test.YtjpghfjaloglhaaPQuotx11
namespace Go.Proofs.Ytjpghfjaloglhaa.PQuot
open Go.RowKit Go.Proofs.YtjpghfjaloglhaaW.PrintWords

def vals (a b d : Int) (m : Nat) : List Int := (List.range m).map fun (i : Nat) => val a b d (i : Int)
theorem vals_succ (a b d : Int) (m : Nat) : vals a b d (m + 1) = vals a b d m ++ [val a b d (m : Int)] := by simp [vals, List.range_succ]
theorem vals_len (a b d : Int) (m : Nat) : (vals a b d m).length = m := by simp [vals]
def coords (l : List Int) : Bool := l.all fun x => decide (Q.Coord x)

theorem made_l0 {a b d : Int} (h : VB a b d = true) : ∀ (m k i n : Nat), i + m = n → n ≤ 300 → m < k → coords (vals a b d i) = true →
    formelaw01_made.l0 k (n : Int) (vals a b d i) (i : Int) a b d = some (if coords (vals a b d n) = true then (vals a b d n, true) else ([], false))
  | 0, k, i, n, hm, _, hk, hc => by
    obtain ⟨k, rfl⟩ : ∃ m, k = m + 1 := ⟨k - 1, by omega⟩
    obtain rfl : i = n := by omega
    rw [formelaw01_made.l0, if_neg (by omega), if_pos hc]
  | m + 1, k, i, n, hm, hn, hk, hc => by
    obtain ⟨k, rfl⟩ : ∃ m, k = m + 1 := ⟨k - 1, by omega⟩
    rw [formelaw01_made.l0, if_pos (by omega), rvalue_f h (by omega)]
    simp only [Option.bind_some]
    rw [rcoord_f]
    simp only [Option.bind_some]
    by_cases c : Q.Coord (val a b d (i : Int))
    · rw [decide_eq_true c, if_pos rfl, if_pos (by rw [vals_len]; omega), wrap_in (x := (i : Int) + 1) (by omega) (by omega), ← vals_succ]
      have e1 : (i : Int) + 1 = ((i + 1 : Nat) : Int) := by omega
      rw [e1]
      refine made_l0 h m k (i + 1) n (by omega) hn (by omega) ?_
      unfold coords at *
      rw [vals_succ, List.all_append, hc]
      simp [c]
    · rw [decide_eq_false c]
      simp only [Bool.false_eq_true, if_false]
      have hno : ¬ coords (vals a b d n) = true := fun hall => by
        unfold coords at hall
        rw [List.all_eq_true] at hall
        have := hall (val a b d (i : Int)) (List.mem_map.2 ⟨i, List.mem_range.2 (by omega), rfl⟩)
        exact c (by simpa using this)
      rw [if_neg hno]
theorem made_f {a b d : Int} (h : VB a b d = true) {n : Nat} (hn : n ≤ 300) : formelaw01_made.f 1000 a b d (n : Int) = some (if coords (vals a b d n) = true then (vals a b d n, true) else ([], false)) := by
  unfold formelaw01_made.f
  exact made_l0 h n 1000 0 n (by omega) hn (by omega) rfl

theorem fits_vals {a b d : Int} (h : VB a b d = true) (m : Nat) : (Q.Quo.mk a b d).Fits (vals a b d m) := by
  have hd := (VB_iff.1 h).1
  simp only at hd
  refine Q.fitsAt_of fun j hj => ?_
  have e : (vals a b d m)[j] = val a b d (j : Int) := by simp [vals]
  rw [e]
  simp only [Int.zero_add]
  unfold val
  have h3 := Int.mul_ediv_add_emod (a * (j : Int) + b) d
  have h4 := Int.emod_nonneg (a * (j : Int) + b) (show d ≠ 0 by omega)
  have h5 := Int.emod_lt_of_pos (a * (j : Int) + b) (show 0 < d by omega)
  omega
theorem fitsAt_take {A B D : Int} : ∀ (l : List Int) (i : Int) (k : Nat), Q.FitsAt A B D i l → Q.FitsAt A B D i (l.take k)
  | [], _, _, _ => by simp [Q.FitsAt]
  | _ :: _, _, 0, _ => trivial
  | _ :: l, i, k + 1, h => ⟨h.1, fitsAt_take l (i + 1) k h.2⟩

/-- What the two calls of Fit return, and what is asked of it. -/
theorem beginnings {a b d : Int} (h : VB a b d = true) {m k : Nat} (hm : 1 ≤ m ∧ m ≤ 300) (hk : 1 ≤ k ∧ k ≤ m) (hc : coords (vals a b d m) = true) :
    ∃ p r : Q.Quo, quot_Fit.f (vals a b d m) = some (p.A, p.B, p.D, true, 0) ∧ quot_Fit.f ((vals a b d m).take k) = some (r.A, r.B, r.D, true, 0) ∧
      formeref01_Valid.f p.A p.B p.D = some true ∧ formeref01_Fits.f 5000 p.A p.B p.D (vals a b d m) = some true ∧ formeref01_Fits.f 5000 r.A r.B r.D ((vals a b d m).take k) = some true ∧
      formeref01_Before.f a b d p.A p.B p.D = some false ∧ formeref01_Before.f p.A p.B p.D r.A r.B r.D = some false := by
  have hok := VB_iff.1 h
  have hlen := vals_len a b d m
  have hfit := fits_vals h m
  have hv : valuesB (vals a b d m) = true := by
    unfold valuesB
    rw [Bool.and_eq_true]
    exact ⟨hc, by rw [hlen]; simp; omega⟩
  have hv2 : valuesB ((vals a b d m).take k) = true := by
    unfold valuesB
    rw [Bool.and_eq_true]
    refine ⟨?_, by rw [List.length_take, hlen]; simp; omega⟩
    unfold coords at hc
    rw [List.all_eq_true] at hc ⊢
    exact fun x hx => hc x (List.mem_of_mem_take hx)
  obtain ⟨f1, c1, g1, g2⟩ := valuesB_facts hv
  obtain ⟨f2, c2, g3, g4⟩ := valuesB_facts hv2
  cases hp : Q.fitL (vals a b d m) with
  | none => exact absurd hfit (Q.fitL_none g1 hp _ hok)
  | some p =>
    have hpf := Q.fitL_first g1 hp
    have hpt : p.Fits ((vals a b d m).take k) := fitsAt_take _ _ _ hpf.fits
    cases hr : Q.fitL ((vals a b d m).take k) with
    | none => exact absurd hpt (Q.fitL_none g3 hr _ hpf.ok)
    | some r =>
      have hrf := Q.fitL_first g3 hr
      refine ⟨p, r, ?_, ?_, ?_, ?_, ?_, ?_, ?_⟩
      · unfold quot_Fit.f
        rw [f1, hp]
        rfl
      · unfold quot_Fit.f
        rw [f2, hr]
        rfl
      · rw [rvalid_f, VB_iff.2 hpf.ok]
      · rw [rfits_f _ (VB_iff.2 hpf.ok) g2 (by omega), decide_eq_true (show (Q.Quo.mk p.A p.B p.D).Fits _ from hpf.fits)]
      · rw [rfits_f _ (VB_iff.2 hrf.ok) g4 (by omega), decide_eq_true (show (Q.Quo.mk r.A r.B r.D).Fits _ from hrf.fits)]
      · rw [rbefore_f hok.2.1 hpf.ok.2.1, decide_eq_false (hpf.least _ hok hfit)]
      · rw [rbefore_f hpf.ok.2.1 hrf.ok.2.1, decide_eq_false (hrf.least _ hpf.ok hpt)]

end Go.Proofs.Ytjpghfjaloglhaa.PQuot
