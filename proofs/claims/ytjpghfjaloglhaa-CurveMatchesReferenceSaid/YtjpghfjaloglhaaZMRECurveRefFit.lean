import Derived.Test.YtjpghfjaloglhaaZMRECurveCurveM
import Derived.Test.YtjpghfjaloglhaaZMRPCurvex0
import Derived.Test.YtjpghfjaloglhaaZMRPCurvex16
import Derived.Test.YtjpghfjaloglhaaZMRPCurvex14
/-
The reference's Fit is the program's: what both return.
Conditions: those that each lemma names.
-/
namespace Go.Proofs.Ytjpghfjaloglhaa.PCurve
set_option linter.unusedSimpArgs false
open Go.RowKit Go.Proofs.YtjpghfjaloglhaaW.PrintWords
def VB (a b d : Int) : Bool := decide ((1 ≤ d ∧ d ≤ 16) ∧ Q.Coord a ∧ Q.Coord b)
theorem VB_iff {a b d : Int} : VB a b d = true ↔ (Q.Quo.mk a b d).Ok := by unfold VB Q.Quo.Ok; simp
theorem rcoord_f (a : Int) : formeref01_Coord.f a = some (decide (Q.Coord a)) := by
  unfold formeref01_Coord.f Q.Coord
  by_cases c : a ≥ -1000000000
  · rw [if_pos c]
    simp [c]
  · rw [if_neg c]
    simp [show ¬ -1000000000 ≤ a by omega]
theorem rvalid_f (a b d : Int) : formeref01_Valid.f a b d = some (VB a b d) := by
  unfold formeref01_Valid.f VB
  rw [rcoord_f, rcoord_f]
  by_cases h1 : d ≥ 1
  · by_cases h2 : d ≤ 16 <;> by_cases h3 : Q.Coord a <;> simp [h2, h3, show 1 ≤ d from h1]
  · simp [show ¬ 1 ≤ d from h1]
theorem numer {a b n : Int} (ha : Q.Coord a) (hb : Q.Coord b) (hn : 0 ≤ n ∧ n ≤ 4001) : wrap64 (wrap64 (a * n) + b) = a * n + b ∧ -4002000000000 ≤ a * n + b ∧ a * n + b ≤ 4002000000000 := by
  obtain ⟨a1, a2⟩ := ha
  obtain ⟨b1, b2⟩ := hb
  have p := mul_le (a := a) (b := n) (A := 1000000000) (B := 4001) (by omega) (by omega) (by omega) (by omega)
  rw [wrap_in (x := a * n) (by omega) (by omega), wrap_in (x := a * n + b) (by omega) (by omega)]
  exact ⟨rfl, by omega, by omega⟩
theorem rfloor_f' {a d : Int} (h1 : 1 ≤ d ∧ d ≤ 1000000) (h2 : -100000000000000 ≤ a ∧ a ≤ 100000000000000) : formeref01_Floor.f a d = some (a / d) := by
  unfold formeref01_Floor.f
  rw [if_neg (by omega)]
  have hd := Int.mul_ediv_add_emod a d
  have he := Int.emod_nonneg a (show d ≠ 0 by omega)
  have hl := Int.emod_lt_of_pos a (show 0 < d by omega)
  have hb : -100000000000000 ≤ a / d ∧ a / d ≤ 100000000000000 := by
    refine ⟨?_, ?_⟩
    · rw [Int.le_ediv_iff_mul_le (by omega)]
      omega
    · have : a / d < 100000000000001 := by
        rw [Int.ediv_lt_iff_lt_mul (by omega)]
        omega
      omega
  by_cases c : 0 ≤ a
  · rw [if_neg (by rw [Int.tmod_eq_emod_of_nonneg c]; omega), Int.tdiv_eq_ediv_of_nonneg c, wrap_in (by omega) (by omega)]
  · have ht := Int.mul_tdiv_add_tmod a d
    have hs : a.tdiv d = -((-a) / d) := by
      have := Int.neg_tdiv (a := -a) (b := d)
      rw [Int.neg_neg, Int.tdiv_eq_ediv_of_nonneg (show 0 ≤ -a by omega)] at this
      exact this
    have h3 := Int.mul_ediv_add_emod (-a) d
    have h4 := Int.emod_nonneg (-a) (show d ≠ 0 by omega)
    have h5 := Int.emod_lt_of_pos (-a) (show 0 < d by omega)
    have h6 : a.tmod d = -((-a) % d) := by
      rw [hs, Int.mul_neg] at ht
      omega
    have hb2 : 0 ≤ (-a) / d ∧ (-a) / d ≤ 100000000000000 := ⟨Int.ediv_nonneg (by omega) (by omega), Int.le_trans (Int.ediv_le_self _ (by omega)) (by omega)⟩
    by_cases c2 : a.tmod d < 0
    · rw [if_pos c2, hs]
      have e : a / d = -((-a) / d) - 1 := by
        apply Int.le_antisymm
        · have : a / d < -((-a) / d) := by
            rw [Int.ediv_lt_iff_lt_mul (by omega), Int.neg_mul, Int.mul_comm ((-a) / d) d]
            omega
          omega
        · rw [Int.le_ediv_iff_mul_le (by omega), Int.sub_mul, Int.neg_mul, Int.mul_comm ((-a) / d) d]
          omega
      rw [wrap_in (x := -((-a) / d)) (by omega) (by omega), ← e, wrap_in (by omega) (by omega)]
    · rw [if_neg c2, hs]
      have e : a / d = -((-a) / d) := by
        apply Int.le_antisymm
        · have : a / d < -((-a) / d) + 1 := by
            rw [Int.ediv_lt_iff_lt_mul (by omega), Int.add_mul, Int.neg_mul, Int.mul_comm ((-a) / d) d]
            omega
          omega
        · rw [Int.le_ediv_iff_mul_le (by omega), Int.neg_mul, Int.mul_comm ((-a) / d) d]
          omega
      rw [← e, wrap_in (by omega) (by omega)]
def val (a b d n : Int) : Int := (a * n + b) / d
theorem rvalue_f {a b d n : Int} (h : VB a b d = true) (hn : 0 ≤ n ∧ n ≤ 4001) : formeref01_Value.f a b d n = some (val a b d n) := by
  obtain ⟨h1, h2, h3⟩ := VB_iff.1 h
  obtain ⟨e, p1, p2⟩ := numer h2 h3 hn
  unfold formeref01_Value.f
  simp only at e p1 p2 h1
  rw [e, rfloor_f' (by omega) (by omega)]
  rfl
theorem rabs_f {a : Int} (h : -1000000000000 ≤ a ∧ a ≤ 1000000000000) : formeref01_abs.f a = some (Q.iabs a) := by
  unfold formeref01_abs.f Q.iabs
  rw [wrap_in (by omega) (by omega), mx_max]
theorem least_l0 (l : List Int) (a d : Int) (ha : -40000000000 ≤ a ∧ a ≤ 40000000000) (hd : 1 ≤ d ∧ d ≤ 16) (hl : l.length ≤ 4000) (hco : ∀ x ∈ l, Q.Coord x) :
    ∀ (m k i : Nat) (lo hi : Int), i + m = l.length → m < k →
    formeref01_least.l0 k l a d lo hi (i : Int) = some ((Q.lohi a d i (lo, hi) (l.drop i)).1, decide ((Q.lohi a d i (lo, hi) (l.drop i)).1 ≤ (Q.lohi a d i (lo, hi) (l.drop i)).2))
  | 0, k, i, lo, hi, hm, hk => by
    obtain ⟨k, rfl⟩ : ∃ m, k = m + 1 := ⟨k - 1, by omega⟩
    have e : l.drop i = [] := List.drop_eq_nil_of_le (by omega)
    rw [e]
    unfold formeref01_least.l0
    rw [if_neg (by omega)]
    rfl
  | m + 1, k, i, lo, hi, hm, hk => by
    obtain ⟨k, rfl⟩ : ∃ m, k = m + 1 := ⟨k - 1, by omega⟩
    have hi1 : i < l.length := by omega
    have hv := hco _ (rd_mem hi1)
    unfold formeref01_least.l0
    rw [if_pos (by omega), if_pos (by omega), rd_drop hi1]
    generalize rd l (i : Int) = v at *
    obtain ⟨v1, v2⟩ := hv
    have p1 := mul_le (a := d) (b := v) (A := 16) (B := 1000000000) (by omega) (by omega) (by omega) (by omega)
    have p2 := mul_le (a := a) (b := (i : Int)) (A := 40000000000) (B := 4000) (by omega) (by omega) (by omega) (by omega)
    rw [wrap_in (x := d * v) (by omega) (by omega), wrap_in (x := a * (i : Int)) (by omega) (by omega), wrap_in (x := d * v - a * (i : Int)) (by omega) (by omega),
      wrap_in (x := d * v + d) (by omega) (by omega), wrap_in (x := d * v + d - 1) (by omega) (by omega), wrap_in (x := d * v + d - 1 - a * (i : Int)) (by omega) (by omega), wrap_in (x := (i : Int) + 1) (by omega) (by omega), mx_max, mn_min]
    have e1 : (i : Int) + 1 = ((i + 1 : Nat) : Int) := by omega
    have e2 : d * v + d - 1 - a * (i : Int) = d * v - a * (i : Int) + d - 1 := by omega
    rw [e1, e2, least_l0 l a d ha hd hl hco m k (i + 1) _ _ (by omega) (by omega)]
    rfl
theorem least_f {k : Nat} (hk : 5000 ≤ k) (l : List Int) (a d : Int) (ha : -40000000000 ≤ a ∧ a ≤ 40000000000) (hd : 1 ≤ d ∧ d ≤ 16) (hl : l.length ≤ 4000) (hco : ∀ x ∈ l, Q.Coord x) :
    formeref01_least.f k l a d = some ((Q.bs l a d).1, decide ((Q.bs l a d).1 ≤ (Q.bs l a d).2)) := by
  have h := least_l0 l a d ha hd hl hco l.length k 0 (-1000000000) 1000000000 (by omega) (by omega)
  unfold formeref01_least.f
  exact h
theorem ints_cons {lo hi : Int} (h : lo ≤ hi) : Q.ints lo hi = lo :: Q.ints (lo + 1) hi := by
  unfold Q.ints
  rw [show (hi + 1 - lo).toNat = (hi + 1 - (lo + 1)).toNat + 1 by omega, List.range_succ_eq_map, List.map_cons, List.map_map]
  congr 1
  · simp
  · apply List.map_congr_left
    intro i _
    simp only [Function.comp]
    omega
theorem ints_nil {lo hi : Int} (h : hi < lo) : Q.ints lo hi = [] := by
  unfold Q.ints
  rw [show (hi + 1 - lo).toNat = 0 by omega]
  rfl
def encF (b : Option (Int × Int)) (d : Int) : Int × Int × Int × Bool :=
  match b with
  | none => (0, 0, 0, false)
  | some p => (p.1, p.2, d, true)
theorem first_l0 (l : List Int) (d hi : Int) (hd : 1 ≤ d ∧ d ≤ 16) (hl : l.length ≤ 4000) (hco : ∀ x ∈ l, Q.Coord x) (hhi : hi ≤ 33000000000) :
    ∀ (m k : Nat) (a : Int) (b : Option (Int × Int)), a + m = hi + 1 → -33000000000 ≤ a → m + 5000 < k → (∀ p, b = some p → p.1 < a ∧ Q.Coord p.1) →
    formeref01_first.l0 k l d hi (encF b d).2.2.2 a (encF b d).1 (encF b d).2.1 (encF b d).2.2.1 = some (encF (((Q.ints a hi).filter fun a => decide (Q.Coord a)).foldl (Q.step l d) b) d)
  | 0, k, a, b, hm, ha, hk, hb => by
    obtain ⟨k, rfl⟩ : ∃ m, k = m + 1 := ⟨k - 1, by omega⟩
    unfold formeref01_first.l0
    rw [if_neg (by omega), ints_nil (by omega)]
    rfl
  | m + 1, k, a, b, hm, ha, hk, hb => by
    obtain ⟨k, rfl⟩ : ∃ m, k = m + 1 := ⟨k - 1, by omega⟩
    unfold formeref01_first.l0
    rw [if_pos (by omega), ints_cons (by omega), least_f (by omega) l a d (by omega) hd hl hco, wrap_in (x := a + 1) (by omega) (by omega), rcoord_f, rabs_f (by omega)]
    simp only [Option.bind_some, List.filter_cons]
    have key : ∀ b' : Option (Int × Int), (∀ p, b' = some p → p.1 < a + 1 ∧ Q.Coord p.1) →
        formeref01_first.l0 k l d hi (encF b' d).2.2.2 (a + 1) (encF b' d).1 (encF b' d).2.1 (encF b' d).2.2.1 = some (encF (((Q.ints (a + 1) hi).filter fun a => decide (Q.Coord a)).foldl (Q.step l d) b') d) :=
      fun b' hb' => first_l0 l d hi hd hl hco hhi m k (a + 1) b' (by omega) (by omega) (by omega) hb'
    have hb1 : ∀ p, b = some p → p.1 < a + 1 ∧ Q.Coord p.1 := fun p e => ⟨by have := (hb p e).1; omega, (hb p e).2⟩
    by_cases c1 : (Q.bs l a d).1 ≤ (Q.bs l a d).2
    · by_cases c2 : Q.Coord a
      · simp only [c1, c2, decide_true, if_true, List.foldl_cons]
        cases b with
        | none =>
          have e : Q.step l d none a = some (a, (Q.bs l a d).1) := by unfold Q.step; rw [if_pos c1]
          rw [e]
          have := key (some (a, (Q.bs l a d).1)) (fun p e => by obtain rfl : (a, (Q.bs l a d).1) = p := (by simpa using e); exact ⟨by simp only; omega, c2⟩)
          simpa [encF] using this
        | some p =>
          obtain ⟨hp1, hp2⟩ := hb p rfl
          have hpc := hp2
          obtain ⟨q1, q2⟩ := hp2
          have e : Q.step l d (some p) a = if Q.better a p.1 then some (a, (Q.bs l a d).1) else some p := by unfold Q.step; rw [if_pos c1]
          rw [e]
          simp only [encF, if_true]
          rw [rabs_f (by omega)]
          simp only [Option.bind_some]
          by_cases c3 : Q.iabs a < Q.iabs p.1
          · have hbt : Q.better a p.1 := .inl c3
            rw [if_pos c3, if_pos hbt]
            have := key (some (a, (Q.bs l a d).1)) (fun p e => by obtain rfl : (a, (Q.bs l a d).1) = p := (by simpa using e); exact ⟨by simp only; omega, c2⟩)
            simpa [encF] using this
          · have hbt : ¬ Q.better a p.1 := by unfold Q.better; omega
            rw [if_neg c3, if_neg hbt]
            have := key (some p) hb1
            simpa [encF] using this
      · have := key b hb1
        simp only [c1, c2, decide_true, decide_false, if_true, Bool.false_eq_true, if_false]
        exact this
    · have e : Q.step l d b a = b := by unfold Q.step; rw [if_neg c1]
      have := key b hb1
      simp only [c1, decide_false, Bool.false_eq_true, if_false]
      by_cases c2 : Q.Coord a
      · simp only [c2, decide_true, if_true, List.foldl_cons]
        rw [e]
        exact this
      · simp only [c2, decide_false, Bool.false_eq_true, if_false]
        exact this
theorem coord_all {l : List Int} (h : l.all (fun x => decide (Q.Coord x)) = true) : ∀ x ∈ l, Q.Coord x := by simpa using h
def valuesB (l : List Int) : Bool := l.all (fun x => decide (Q.Coord x)) && decide (1 ≤ l.length ∧ l.length ≤ 4000)
theorem rvalues_l0 (l : List Int) (hl : l.length ≤ 100000) : ∀ (m k i : Nat), i + m = l.length → m < k →
    formeref01_Values.l0 k l (i : Int) = some ((l.drop i).all (fun x => decide (Q.Coord x)) && decide (1 ≤ l.length ∧ l.length ≤ 4000))
  | 0, k, i, hm, hk => by
    obtain ⟨k, rfl⟩ : ∃ m, k = m + 1 := ⟨k - 1, by omega⟩
    have e : l.drop i = [] := List.drop_eq_nil_of_le (by omega)
    rw [e]
    unfold formeref01_Values.l0
    rw [if_neg (by omega)]
    by_cases c : (l.length : Int) ≥ 1
    · rw [if_pos c]
      have h1 : 1 ≤ l.length := by omega
      have h2 : ((l.length : Int) ≤ 4000) ↔ l.length ≤ 4000 := by omega
      simp [h1, h2]
    · rw [if_neg c]
      have : ¬ 1 ≤ l.length := by omega
      simp [this]
  | m + 1, k, i, hm, hk => by
    obtain ⟨k, rfl⟩ : ∃ m, k = m + 1 := ⟨k - 1, by omega⟩
    have hi1 : i < l.length := by omega
    unfold formeref01_Values.l0
    rw [if_pos (by omega), if_pos (by omega), rcoord_f, wrap_in (x := (i : Int) + 1) (by omega) (by omega), rd_drop hi1]
    have e1 : (i : Int) + 1 = ((i + 1 : Nat) : Int) := by omega
    rw [e1, rvalues_l0 l hl m k (i + 1) (by omega) (by omega)]
    simp only [Option.bind_some, List.all_cons]
    by_cases c : Q.Coord (rd l (i : Int)) <;> simp [c]
theorem rvalues_f {k : Nat} (l : List Int) (hl : l.length ≤ 100000) (hk : l.length < k) : formeref01_Values.f k l = some (valuesB l) := by
  have h := rvalues_l0 l hl l.length k 0 (by omega) (by omega)
  unfold formeref01_Values.f
  exact h
theorem bestD_one {l : List Int} (h : l.length = 1) (d : Int) : Q.bestD l d = if (Q.bs l 0 d).1 ≤ (Q.bs l 0 d).2 then some (0, (Q.bs l 0 d).1) else none := by
  unfold Q.bestD Q.cands
  rw [if_pos h]
  simp only [List.foldl_cons, List.foldl_nil, Q.step]
theorem first_f {k : Nat} (l : List Int) (d : Int) (hk : 6000 ≤ k) (hd : 1 ≤ d ∧ d ≤ 16) (h1 : 1 ≤ l.length) (hl : l.length ≤ 4000) (hco : ∀ x ∈ l, Q.Coord x) :
    ∃ r, formeref01_first.f k l d = some r ∧ (∀ p, Q.bestD l d = some p → r = (p.1, p.2, d, true)) ∧ (Q.bestD l d = none → r.2.2.2 = false) := by
  unfold formeref01_first.f
  by_cases c1 : l.length = 1
  · rw [if_pos (by omega), least_f (by omega) l 0 d (by omega) hd hl hco]
    simp only [Option.bind_some]
    refine ⟨_, rfl, ?_⟩
    rw [bestD_one c1]
    by_cases c2 : (Q.bs l 0 d).1 ≤ (Q.bs l 0 d).2
    · rw [if_pos c2]
      simp [c2]
    · rw [if_neg c2]
      simp [c2]
  · have en : wrap64 ((l.length : Int) - 1) = (l.length : Int) - 1 := wrap_in (by omega) (by omega)
    rw [if_neg (by omega), en, if_pos (by omega), if_pos (by omega), if_pos (by omega)]
    have hb0 : Q.Coord (rd l 0) := hco _ (rd_mem (i := 0) (by omega))
    have hbn : Q.Coord (rd l ((l.length : Int) - 1)) := by
      have := rd_mem (l := l) (i := l.length - 1) (by omega)
      rw [show ((l.length - 1 : Nat) : Int) = (l.length : Int) - 1 by omega] at this
      exact hco _ this
    have hr : Q.rise l d = d * (rd l ((l.length : Int) - 1) - rd l 0) := by
      unfold Q.rise rd
      rw [show ((l.length : Int) - 1).toNat = l.length - 1 by omega]
      rfl
    generalize rd l 0 = x0 at *
    generalize rd l ((l.length : Int) - 1) = xn at *
    obtain ⟨u1, u2⟩ := hb0
    obtain ⟨u3, u4⟩ := hbn
    have p1 := mul_le (a := d) (b := xn - x0) (A := 16) (B := 2000000000) (by omega) (by omega) (by omega) (by omega)
    rw [wrap_in (x := xn - x0) (by omega) (by omega), wrap_in (x := d * (xn - x0)) (by omega) (by omega), ← hr]
    rw [← hr] at p1
    clear hr
    obtain ⟨R, hR⟩ : ∃ R, Q.rise l d = R := ⟨_, rfl⟩
    rw [hR] at p1 ⊢
    rw [wrap_in (x := R - d) (by omega) (by omega), wrap_in (x := R - d + 1) (by omega) (by omega), wrap_in (x := -(R - d + 1)) (by omega) (by omega), wrap_in (x := R + d) (by omega) (by omega), wrap_in (x := R + d - 1) (by omega) (by omega)]
    rw [rfloor_f' (by omega) (by omega), rfloor_f' (by omega) (by omega)]
    simp only [Option.bind_some]
    have hpos : 0 < (l.length : Int) - 1 := by omega
    obtain ⟨q, hq⟩ : ∃ q, (-(R - d + 1)) / ((l.length : Int) - 1) = q := ⟨_, rfl⟩
    obtain ⟨h, hh⟩ : ∃ h, (R + d - 1) / ((l.length : Int) - 1) = h := ⟨_, rfl⟩
    have hlo : Q.loA l d = -q := by unfold Q.loA; rw [hR, ← hq, show -(R - d + 1) = d - 1 - R by omega]
    have hhi : Q.hiA l d = h := by unfold Q.hiA; rw [hR, hh]
    have q1 : q * ((l.length : Int) - 1) ≤ -(R - d + 1) := (Int.le_ediv_iff_mul_le hpos).1 (by omega)
    have q4 : h * ((l.length : Int) - 1) ≤ R + d - 1 := (Int.le_ediv_iff_mul_le hpos).1 (by omega)
    have q2 : -33000000000 ≤ q := by rw [← hq, Int.le_ediv_iff_mul_le hpos]; omega
    have q3 : q ≤ 33000000000 := by
      have : q < 33000000000 := by rw [← hq, Int.ediv_lt_iff_lt_mul hpos]; omega
      omega
    have q5 : h ≤ 32900000000 := by
      have : h < 32900000000 := by rw [← hh, Int.ediv_lt_iff_lt_mul hpos]; omega
      omega
    have q6 : h + q ≤ 30 := by
      have e : (h + q) * ((l.length : Int) - 1) ≤ 30 := by rw [Int.add_mul]; omega
      have e2 : ¬ (31 ≤ h + q) := fun c => by
        have := Int.mul_le_mul_of_nonneg_right c (show 0 ≤ (l.length : Int) - 1 by omega)
        omega
      omega
    rw [hq, hh, wrap_in (x := -q) (by omega) (by omega)]
    by_cases c2 : -q ≤ h + 1
    · have hf := first_l0 l d h hd hl hco (by omega) (h + 1 + q).toNat k (-q) none (by omega) (by omega) (by omega) (fun p e => by simp at e)
      have hbd : Q.bestD l d = ((Q.ints (-q) h).filter fun a => decide (Q.Coord a)).foldl (Q.step l d) none := by
        unfold Q.bestD Q.cands
        rw [if_neg c1, hlo, hhi]
      rw [← hbd] at hf
      refine ⟨_, hf, ?_⟩
      cases Q.bestD l d with
      | none => simp [encF]
      | some p => simp [encF]
    · exfalso
      have c3 : ¬ (-q - 1 ≤ h) := by omega
      have e1 : -q - 1 ≤ h ↔ (-q - 1) * ((l.length : Int) - 1) ≤ R + d - 1 := by rw [← hh]; exact Int.le_ediv_iff_mul_le hpos
      rw [e1, Int.sub_mul, Int.neg_mul, Int.one_mul] at c3
      have e2 : q + 1 ≤ q ↔ (q + 1) * ((l.length : Int) - 1) ≤ -(R - d + 1) := by
        have := Int.le_ediv_iff_mul_le (a := q + 1) (b := -(R - d + 1)) hpos
        rw [hq] at this
        exact this
      have c4 : ¬ (q + 1 ≤ q) := by omega
      rw [e2, Int.add_mul, Int.one_mul] at c4
      omega
def foundOut (o : Option Q.Quo) : Int × Int × Int × Bool × Int :=
  match o with
  | none => (0, 0, 0, false, 0)
  | some q => (q.A, q.B, q.D, true, 0)
theorem rfit_l0 (l : List Int) (h1 : 1 ≤ l.length) (hl : l.length ≤ 4000) (hco : ∀ x ∈ l, Q.Coord x) : ∀ (m k : Nat) (d : Int), 1 ≤ d → d + m = 17 → m + 6000 < k →
    formeref01_Fit.l0 k l d = some (foundOut (Q.findD l m d))
  | 0, k, d, hd, hm, hk => by
    obtain ⟨k, rfl⟩ : ∃ m, k = m + 1 := ⟨k - 1, by omega⟩
    unfold formeref01_Fit.l0
    rw [if_neg (by omega)]
    rfl
  | m + 1, k, d, hd, hm, hk => by
    obtain ⟨k, rfl⟩ : ∃ m, k = m + 1 := ⟨k - 1, by omega⟩
    unfold formeref01_Fit.l0
    obtain ⟨r, hr, hs, hn⟩ := first_f (k := k) l d (by omega) (by omega) h1 hl hco
    rw [if_pos (by omega), hr, wrap_in (x := d + 1) (by omega) (by omega)]
    simp only [Option.bind_some, Q.findD]
    cases hb : Q.bestD l d with
    | none =>
      rw [hn hb]
      simp only [Bool.false_eq_true, if_false]
      exact rfit_l0 l h1 hl hco m k (d + 1) (by omega) (by omega) (by omega)
    | some p =>
      rw [hs p hb]
      simp [foundOut]
theorem rfit_f {k : Nat} (hk : 10000 ≤ k) (l : List Int) (hl : l.length ≤ 100000) : formeref01_Fit.f k l = some (fitOut l) := by
  unfold formeref01_Fit.f fitOut
  by_cases c1 : l.length > 4000
  · rw [if_pos (by omega), if_pos c1]
  · rw [if_neg (by omega), if_neg c1, rvalues_f l hl (by omega)]
    simp only [Option.bind_some]
    unfold valuesB
    cases c2 : l.all (fun x => decide (Q.Coord x)) with
    | false => simp
    | true =>
      have hco := coord_all c2
      by_cases c3 : l.length = 0
      · have : ¬ 1 ≤ l.length := by omega
        simp [c3]
      · have h1 : 1 ≤ l.length := by omega
        have h2 : l.length ≤ 4000 := by omega
        simp only [h1, h2, and_self, decide_true, Bool.and_self, if_true, Bool.true_eq_false, if_false, c3]
        rw [rfit_l0 l h1 h2 hco 16 k 1 (by omega) (by omega) (by omega)]
        rfl
end Go.Proofs.Ytjpghfjaloglhaa.PCurve

