/-
What the printed functions of quot and formeref01 compute, in plain terms.
Conditions: those that each lemma names.
-/
import Derived.Test.YtjpghfjaloglhaaEQuotFit
import Derived.Test.YtjpghfjaloglhaaEQuotRAdd
import Derived.Test.YtjpghfjaloglhaaPQuotx0
import Derived.Test.YtjpghfjaloglhaaPQuotx2
import Derived.Test.YtjpghfjaloglhaaPQuotx3
import Derived.Test.YtjpghfjaloglhaaPQuotx6
import Derived.Test.YtjpghfjaloglhaaPQuotx4
namespace Go.Proofs.Ytjpghfjaloglhaa.PQuot
open Go.RowKit Go.Proofs.YtjpghfjaloglhaaW.PrintWords

def VB (a b d : Int) : Bool := decide ((1 ≤ d ∧ d ≤ 16) ∧ Q.Coord a ∧ Q.Coord b)
theorem VB_iff {a b d : Int} : VB a b d = true ↔ (Q.Quo.mk a b d).Ok := by unfold VB Q.Quo.Ok; simp
def PB (n : Int) : Bool := decide (0 ≤ n ∧ n ≤ 4000)

theorem rcoord_f (a : Int) : formeref01_Coord.f a = some (decide (Q.Coord a)) := by
  unfold formeref01_Coord.f Q.Coord
  by_cases c : a ≥ -1000000000
  · rw [if_pos c]
    simp [c]
  · rw [if_neg c]
    simp [show ¬ -1000000000 ≤ a by omega]
theorem valid_f (a b d : Int) : quot_Valid.f a b d = some (VB a b d) := by
  unfold quot_Valid.f VB
  rw [coord_f, coord_f]
  by_cases h1 : 1 ≤ d <;> by_cases h2 : d ≤ 16 <;> by_cases h3 : Q.Coord a <;> simp [h1, h2, h3]
theorem rvalid_f (a b d : Int) : formeref01_Valid.f a b d = some (VB a b d) := by
  unfold formeref01_Valid.f VB
  rw [rcoord_f, rcoord_f]
  by_cases h1 : d ≥ 1
  · by_cases h2 : d ≤ 16 <;> by_cases h3 : Q.Coord a <;> simp [h2, h3, show 1 ≤ d from h1]
  · simp [show ¬ 1 ≤ d from h1]
theorem place_f (n : Int) : quot_isPlace.f n = some (PB n) := by
  unfold quot_isPlace.f PB
  by_cases h : 0 ≤ n <;> simp [h]
theorem rplace_f (n : Int) : formeref01_Place.f n = some (PB n) := by
  unfold formeref01_Place.f PB
  by_cases h : n ≥ 0
  · simp [show 0 ≤ n from h]
  · simp [show ¬ 0 ≤ n from h]

/-- The numerator of a valid quotient at a place. -/
theorem numer {a b n : Int} (ha : Q.Coord a) (hb : Q.Coord b) (hn : 0 ≤ n ∧ n ≤ 4001) : wrap64 (wrap64 (a * n) + b) = a * n + b ∧ -4002000000000 ≤ a * n + b ∧ a * n + b ≤ 4002000000000 := by
  obtain ⟨a1, a2⟩ := ha
  obtain ⟨b1, b2⟩ := hb
  have p := mul_le (a := a) (b := n) (A := 1000000000) (B := 4001) (by omega) (by omega) (by omega) (by omega)
  rw [wrap_in (x := a * n) (by omega) (by omega), wrap_in (x := a * n + b) (by omega) (by omega)]
  exact ⟨rfl, by omega, by omega⟩

theorem floor_f' {a d : Int} (h1 : 1 ≤ d ∧ d ≤ 1000000) (h2 : -100000000000000 ≤ a ∧ a ≤ 100000000000000) : quot_floor.f a d = some (a / d) := by
  unfold quot_floor.f
  by_cases c : a < 0
  · rw [if_pos c, if_neg (by omega)]
    rw [wrap_in (x := -a) (by omega) (by omega), wrap_in (x := -a + d) (by omega) (by omega), wrap_in (x := -a + d - 1) (by omega) (by omega)]
    rw [Int.tdiv_eq_ediv_of_nonneg (by omega)]
    have hq : (-a + d - 1) / d = -(a / d) := by
      have h3 := Int.mul_ediv_add_emod a d
      have h4 := Int.emod_nonneg a (show d ≠ 0 by omega)
      have h5 := Int.emod_lt_of_pos a (show 0 < d by omega)
      apply Int.le_antisymm
      · have : (-a + d - 1) / d < -(a / d) + 1 := by
          rw [Int.ediv_lt_iff_lt_mul (by omega), Int.add_mul, Int.neg_mul, Int.mul_comm (a / d) d]
          omega
        omega
      · rw [Int.le_ediv_iff_mul_le (by omega), Int.neg_mul, Int.mul_comm (a / d) d]
        omega
    rw [hq]
    have hb : -100000000000000 ≤ a / d ∧ a / d ≤ 0 := by
      refine ⟨?_, ?_⟩
      · rw [Int.le_ediv_iff_mul_le (by omega)]
        omega
      · have : a / d < 1 := by
          rw [Int.ediv_lt_iff_lt_mul (by omega)]
          omega
        omega
    rw [wrap_in (x := -(a / d)) (by omega) (by omega), Int.neg_neg, wrap_in (by omega) (by omega)]
  · rw [if_neg c, if_neg (by omega)]
    rw [Int.tdiv_eq_ediv_of_nonneg (by omega)]
    have hb : 0 ≤ a / d ∧ a / d ≤ a := ⟨Int.ediv_nonneg (by omega) (by omega), Int.ediv_le_self _ (by omega)⟩
    rw [wrap_in (by omega) (by omega)]

theorem rfloor_f' {a d : Int} (h1 : 1 ≤ d ∧ d ≤ 1000000) (h2 : -100000000000000 ≤ a ∧ a ≤ 100000000000000) : formeref01_Floor.f a d = some (a / d) := by
  unfold formeref01_Floor.f
  rw [if_neg (by omega)]
  have hd := Int.mul_ediv_add_emod a d
  have he := Int.emod_nonneg a (show d ≠ 0 by omega)
  have hl := Int.emod_lt_of_pos a (show 0 < d by omega)
  have hb : -100000000000000 ≤ a / d ∧ a / d ≤ 100000000000000 := by
    refine ⟨?_, ?_⟩
    · rw [Int.le_ediv_iff_mul_le (by omega)]
      omega
    · have : a / d < 100000000000001 := by
        rw [Int.ediv_lt_iff_lt_mul (by omega)]
        omega
      omega
  by_cases c : 0 ≤ a
  · rw [if_neg (by rw [Int.tmod_eq_emod_of_nonneg c]; omega), Int.tdiv_eq_ediv_of_nonneg c, wrap_in (by omega) (by omega)]
  · have ht := Int.mul_tdiv_add_tmod a d
    have hs : a.tdiv d = -((-a) / d) := by
      have := Int.neg_tdiv (a := -a) (b := d)
      rw [Int.neg_neg, Int.tdiv_eq_ediv_of_nonneg (show 0 ≤ -a by omega)] at this
      exact this
    have h3 := Int.mul_ediv_add_emod (-a) d
    have h4 := Int.emod_nonneg (-a) (show d ≠ 0 by omega)
    have h5 := Int.emod_lt_of_pos (-a) (show 0 < d by omega)
    have h6 : a.tmod d = -((-a) % d) := by
      rw [hs, Int.mul_neg] at ht
      omega
    have hb2 : 0 ≤ (-a) / d ∧ (-a) / d ≤ 100000000000000 := ⟨Int.ediv_nonneg (by omega) (by omega), Int.le_trans (Int.ediv_le_self _ (by omega)) (by omega)⟩
    by_cases c2 : a.tmod d < 0
    · rw [if_pos c2, hs]
      have e : a / d = -((-a) / d) - 1 := by
        apply Int.le_antisymm
        · have : a / d < -((-a) / d) := by
            rw [Int.ediv_lt_iff_lt_mul (by omega), Int.neg_mul, Int.mul_comm ((-a) / d) d]
            omega
          omega
        · rw [Int.le_ediv_iff_mul_le (by omega), Int.sub_mul, Int.neg_mul, Int.mul_comm ((-a) / d) d]
          omega
      rw [wrap_in (x := -((-a) / d)) (by omega) (by omega), ← e, wrap_in (by omega) (by omega)]
    · rw [if_neg c2, hs]
      have e : a / d = -((-a) / d) := by
        apply Int.le_antisymm
        · have : a / d < -((-a) / d) + 1 := by
            rw [Int.ediv_lt_iff_lt_mul (by omega), Int.add_mul, Int.neg_mul, Int.mul_comm ((-a) / d) d]
            omega
          omega
        · rw [Int.le_ediv_iff_mul_le (by omega), Int.neg_mul, Int.mul_comm ((-a) / d) d]
          omega
      rw [← e, wrap_in (by omega) (by omega)]

/-- The value of a quotient. -/
def val (a b d n : Int) : Int := (a * n + b) / d
theorem value_f {a b d n : Int} (h : VB a b d = true) (hn : 0 ≤ n ∧ n ≤ 4001) : quot_value.f a b d n = some (val a b d n) := by
  obtain ⟨h1, h2, h3⟩ := VB_iff.1 h
  obtain ⟨e, p1, p2⟩ := numer h2 h3 hn
  unfold quot_value.f
  simp only at e p1 p2 h1
  rw [e, floor_f' (by omega) (by omega)]
  rfl
theorem rvalue_f {a b d n : Int} (h : VB a b d = true) (hn : 0 ≤ n ∧ n ≤ 4001) : formeref01_Value.f a b d n = some (val a b d n) := by
  obtain ⟨h1, h2, h3⟩ := VB_iff.1 h
  obtain ⟨e, p1, p2⟩ := numer h2 h3 hn
  unfold formeref01_Value.f
  simp only at e p1 p2 h1
  rw [e, rfloor_f' (by omega) (by omega)]
  rfl
theorem at_f (a b d n : Int) : quot_At.f a b d n = some (if VB a b d = true ∧ PB n = true then (val a b d n, 0) else (0, 1)) := by
  unfold quot_At.f
  rw [valid_f]
  cases hv : VB a b d
  · simp
  · rw [place_f]
    cases hp : PB n
    · simp
    · have : 0 ≤ n ∧ n ≤ 4000 := by unfold PB at hp; simpa using hp
      simp [value_f hv (show 0 ≤ n ∧ n ≤ 4001 by omega)]
theorem rat_f (a b d n : Int) : formeref01_At.f a b d n = some (if VB a b d = true ∧ PB n = true then (val a b d n, 0) else (0, 1)) := by
  unfold formeref01_At.f
  rw [rvalid_f]
  cases hv : VB a b d
  · simp
  · rw [rplace_f]
    cases hp : PB n
    · simp
    · have : 0 ≤ n ∧ n ≤ 4000 := by unfold PB at hp; simpa using hp
      simp [rvalue_f hv (show 0 ≤ n ∧ n ≤ 4001 by omega)]

/-- What Add comes to. -/
def addOut (a b d n : Int) : Int × Int × Int × Int :=
  if VB a b d = true ∧ Q.Coord n then (if Q.Coord (b + n * d) then (a, b + n * d, d, 0) else (0, 0, 0, 3)) else (0, 0, 0, 1)
theorem add_wrap {a b d n : Int} (h : VB a b d = true) (hn : Q.Coord n) : wrap64 (b + wrap64 (n * d)) = b + n * d := by
  obtain ⟨h1, h2, h3⟩ := VB_iff.1 h
  obtain ⟨b1, b2⟩ := h3
  obtain ⟨n1, n2⟩ := hn
  simp only at h1 b1 b2
  have p := mul_le (a := n) (b := d) (A := 1000000000) (B := 16) (by omega) (by omega) (by omega) (by omega)
  rw [wrap_in (x := n * d) (by omega) (by omega), wrap_in (x := b + n * d) (by omega) (by omega)]
theorem add_f (k : Nat) (a b d n : Int) : quot_Add.f (k + 1) a b d n = some (addOut a b d n) := by
  unfold quot_Add.f addOut
  rw [valid_f]
  cases hv : VB a b d
  · simp [quot_Add.j0]
  · rw [coord_f]
    by_cases hc : Q.Coord n
    · simp only [Option.bind_some, if_true, hc, decide_true, Bool.not_true, quot_Add.j0, Bool.false_eq_true, if_false, true_and]
      rw [add_wrap hv hc, coord_f]
      by_cases hd : Q.Coord (b + n * d) <;> simp [hd]
    · simp [hc, quot_Add.j0]
theorem radd_f (a b d n : Int) : formeref01_Add.f a b d n = some (addOut a b d n) := by
  unfold formeref01_Add.f addOut
  rw [rvalid_f, rcoord_f]
  cases hv : VB a b d
  · simp
  · by_cases hc : Q.Coord n
    · simp only [Option.bind_some, if_true, hc, decide_true, true_and]
      rw [add_wrap hv hc, rcoord_f]
      by_cases hd : Q.Coord (b + n * d) <;> simp [hd]
    · simp [hc]

/-- What Below comes to, from place n on, with m places left. -/
def belowOut (a b d a' b' d' : Int) : Nat → Int → Int × Bool × Int
  | 0, _ => (0, false, 0)
  | m + 1, n => if val a b d n < val a' b' d' n then (n, true, 0) else belowOut a b d a' b' d' m (n + 1)
theorem below_l0 {a b d a' b' d' : Int} (h : VB a b d = true) (h' : VB a' b' d' = true) : ∀ (m k : Nat) (n top : Int), n + m = top → 0 ≤ n → top ≤ 4001 → m < k → quot_Below.l0 k top n a b d a' b' d' = some (belowOut a b d a' b' d' m n)
  | 0, k, n, top, hm, h0, ht, hk => by
    obtain ⟨k, rfl⟩ : ∃ m, k = m + 1 := ⟨k - 1, by omega⟩
    unfold quot_Below.l0
    rw [if_neg (by omega)]
    rfl
  | m + 1, k, n, top, hm, h0, ht, hk => by
    obtain ⟨k, rfl⟩ : ∃ m, k = m + 1 := ⟨k - 1, by omega⟩
    unfold quot_Below.l0
    rw [if_pos (by omega), value_f h (by omega), value_f h' (by omega), wrap_in (x := n + 1) (by omega) (by omega)]
    simp only [Option.bind_some, belowOut]
    by_cases c : val a b d n < val a' b' d' n
    · simp [c]
    · simp only [c, if_false]
      exact below_l0 h h' m k (n + 1) top (by omega) (by omega) ht (by omega)
theorem rbelow_l0 {a b d a' b' d' : Int} (h : VB a b d = true) (h' : VB a' b' d' = true) : ∀ (m k : Nat) (n top : Int), n + m = top + 1 → 0 ≤ n → top ≤ 4000 → m < k → formeref01_Below.l0 k top n a b d a' b' d' = some (belowOut a b d a' b' d' m n)
  | 0, k, n, top, hm, h0, ht, hk => by
    obtain ⟨k, rfl⟩ : ∃ m, k = m + 1 := ⟨k - 1, by omega⟩
    unfold formeref01_Below.l0
    rw [if_neg (by omega)]
    rfl
  | m + 1, k, n, top, hm, h0, ht, hk => by
    obtain ⟨k, rfl⟩ : ∃ m, k = m + 1 := ⟨k - 1, by omega⟩
    unfold formeref01_Below.l0
    rw [if_pos (by omega), rvalue_f h (by omega), rvalue_f h' (by omega), wrap_in (x := n + 1) (by omega) (by omega)]
    simp only [Option.bind_some, belowOut]
    by_cases c : val a b d n < val a' b' d' n
    · simp [c]
    · simp only [c, if_false]
      exact rbelow_l0 h h' m k (n + 1) top (by omega) (by omega) ht (by omega)
def belowAll (a b d a' b' d' n : Int) : Int × Bool × Int := if VB a b d = true ∧ VB a' b' d' = true ∧ PB n = true then belowOut a b d a' b' d' (n + 1).toNat 0 else (0, false, 1)
theorem below_f {k : Nat} (hk : 5000 ≤ k) (a b d a' b' d' n : Int) : quot_Below.f k a b d a' b' d' n = some (belowAll a b d a' b' d' n) := by
  obtain ⟨k, rfl⟩ : ∃ m, k = m + 1 := ⟨k - 1, by omega⟩
  unfold quot_Below.f belowAll
  rw [valid_f]
  cases hv : VB a b d
  · simp [quot_Below.j0]
  · rw [valid_f]
    cases hv' : VB a' b' d'
    · simp [quot_Below.j0]
    · rw [place_f]
      cases hp : PB n
      · simp [quot_Below.j0]
      · have hn : 0 ≤ n ∧ n ≤ 4000 := by unfold PB at hp; simpa using hp
        simp only [Option.bind_some, if_true, Bool.not_true, quot_Below.j0, Bool.false_eq_true, if_false, and_self]
        rw [wrap_in (x := n + 1) (by omega) (by omega)]
        exact below_l0 hv hv' (n + 1).toNat k 0 (n + 1) (by omega) (by omega) (by omega) (by omega)
theorem rbelow_f {k : Nat} (hk : 5000 ≤ k) (a b d a' b' d' n : Int) : formeref01_Below.f k a b d a' b' d' n = some (belowAll a b d a' b' d' n) := by
  obtain ⟨k, rfl⟩ : ∃ m, k = m + 1 := ⟨k - 1, by omega⟩
  unfold formeref01_Below.f belowAll
  rw [rvalid_f, rvalid_f]
  cases hv : VB a b d
  · simp [formeref01_Below.j0]
  · cases hv' : VB a' b' d'
    · simp [formeref01_Below.j0]
    · rw [rplace_f]
      cases hp : PB n
      · simp [formeref01_Below.j0]
      · have hn : 0 ≤ n ∧ n ≤ 4000 := by unfold PB at hp; simpa using hp
        simp only [Option.bind_some, if_true, Bool.not_true, formeref01_Below.j0, Bool.false_eq_true, if_false, and_self]
        exact rbelow_l0 hv hv' (n + 1).toNat k 0 n (by omega) (by omega) (by omega) (by omega)

/-! ### The reference's Fit -/
theorem rabs_f {a : Int} (h : -1000000000000 ≤ a ∧ a ≤ 1000000000000) : formeref01_abs.f a = some (Q.iabs a) := by
  unfold formeref01_abs.f Q.iabs
  rw [wrap_in (by omega) (by omega), mx_max]
theorem least_l0 (l : List Int) (a d : Int) (ha : -40000000000 ≤ a ∧ a ≤ 40000000000) (hd : 1 ≤ d ∧ d ≤ 16) (hl : l.length ≤ 4000) (hco : ∀ x ∈ l, Q.Coord x) :
    ∀ (m k i : Nat) (lo hi : Int), i + m = l.length → m < k →
    formeref01_least.l0 k l a d lo hi (i : Int) = some ((Q.lohi a d i (lo, hi) (l.drop i)).1, decide ((Q.lohi a d i (lo, hi) (l.drop i)).1 ≤ (Q.lohi a d i (lo, hi) (l.drop i)).2))
  | 0, k, i, lo, hi, hm, hk => by
    obtain ⟨k, rfl⟩ : ∃ m, k = m + 1 := ⟨k - 1, by omega⟩
    have e : l.drop i = [] := List.drop_eq_nil_of_le (by omega)
    rw [e]
    unfold formeref01_least.l0
    rw [if_neg (by omega)]
    rfl
  | m + 1, k, i, lo, hi, hm, hk => by
    obtain ⟨k, rfl⟩ : ∃ m, k = m + 1 := ⟨k - 1, by omega⟩
    have hi1 : i < l.length := by omega
    have hv := hco _ (rd_mem hi1)
    unfold formeref01_least.l0
    rw [if_pos (by omega), if_pos (by omega), rd_drop hi1]
    generalize rd l (i : Int) = v at *
    obtain ⟨v1, v2⟩ := hv
    have p1 := mul_le (a := d) (b := v) (A := 16) (B := 1000000000) (by omega) (by omega) (by omega) (by omega)
    have p2 := mul_le (a := a) (b := (i : Int)) (A := 40000000000) (B := 4000) (by omega) (by omega) (by omega) (by omega)
    rw [wrap_in (x := d * v) (by omega) (by omega), wrap_in (x := a * (i : Int)) (by omega) (by omega), wrap_in (x := d * v - a * (i : Int)) (by omega) (by omega),
      wrap_in (x := d * v + d) (by omega) (by omega), wrap_in (x := d * v + d - 1) (by omega) (by omega), wrap_in (x := d * v + d - 1 - a * (i : Int)) (by omega) (by omega), wrap_in (x := (i : Int) + 1) (by omega) (by omega), mx_max, mn_min]
    have e1 : (i : Int) + 1 = ((i + 1 : Nat) : Int) := by omega
    have e2 : d * v + d - 1 - a * (i : Int) = d * v - a * (i : Int) + d - 1 := by omega
    rw [e1, e2, least_l0 l a d ha hd hl hco m k (i + 1) _ _ (by omega) (by omega)]
    rfl
theorem least_f {k : Nat} (hk : 5000 ≤ k) (l : List Int) (a d : Int) (ha : -40000000000 ≤ a ∧ a ≤ 40000000000) (hd : 1 ≤ d ∧ d ≤ 16) (hl : l.length ≤ 4000) (hco : ∀ x ∈ l, Q.Coord x) :
    formeref01_least.f k l a d = some ((Q.bs l a d).1, decide ((Q.bs l a d).1 ≤ (Q.bs l a d).2)) := by
  have h := least_l0 l a d ha hd hl hco l.length k 0 (-1000000000) 1000000000 (by omega) (by omega)
  unfold formeref01_least.f
  exact h

theorem ints_cons {lo hi : Int} (h : lo ≤ hi) : Q.ints lo hi = lo :: Q.ints (lo + 1) hi := by
  unfold Q.ints
  rw [show (hi + 1 - lo).toNat = (hi + 1 - (lo + 1)).toNat + 1 by omega, List.range_succ_eq_map, List.map_cons, List.map_map]
  congr 1
  · simp
  · apply List.map_congr_left
    intro i _
    simp only [Function.comp]
    omega
theorem ints_nil {lo hi : Int} (h : hi < lo) : Q.ints lo hi = [] := by
  unfold Q.ints
  rw [show (hi + 1 - lo).toNat = 0 by omega]
  rfl

def encF (b : Option (Int × Int)) (d : Int) : Int × Int × Int × Bool :=
  match b with
  | none => (0, 0, 0, false)
  | some p => (p.1, p.2, d, true)
theorem first_l0 (l : List Int) (d hi : Int) (hd : 1 ≤ d ∧ d ≤ 16) (hl : l.length ≤ 4000) (hco : ∀ x ∈ l, Q.Coord x) (hhi : hi ≤ 33000000000) :
    ∀ (m k : Nat) (a : Int) (b : Option (Int × Int)), a + m = hi + 1 → -33000000000 ≤ a → m + 5000 < k → (∀ p, b = some p → p.1 < a ∧ Q.Coord p.1) →
    formeref01_first.l0 k l d hi (encF b d).2.2.2 a (encF b d).1 (encF b d).2.1 (encF b d).2.2.1 = some (encF (((Q.ints a hi).filter fun a => decide (Q.Coord a)).foldl (Q.step l d) b) d)
  | 0, k, a, b, hm, ha, hk, hb => by
    obtain ⟨k, rfl⟩ : ∃ m, k = m + 1 := ⟨k - 1, by omega⟩
    unfold formeref01_first.l0
    rw [if_neg (by omega), ints_nil (by omega)]
    rfl
  | m + 1, k, a, b, hm, ha, hk, hb => by
    obtain ⟨k, rfl⟩ : ∃ m, k = m + 1 := ⟨k - 1, by omega⟩
    unfold formeref01_first.l0
    rw [if_pos (by omega), ints_cons (by omega), least_f (by omega) l a d (by omega) hd hl hco, wrap_in (x := a + 1) (by omega) (by omega), rcoord_f, rabs_f (by omega)]
    simp only [Option.bind_some, List.filter_cons]
    have key : ∀ b' : Option (Int × Int), (∀ p, b' = some p → p.1 < a + 1 ∧ Q.Coord p.1) →
        formeref01_first.l0 k l d hi (encF b' d).2.2.2 (a + 1) (encF b' d).1 (encF b' d).2.1 (encF b' d).2.2.1 = some (encF (((Q.ints (a + 1) hi).filter fun a => decide (Q.Coord a)).foldl (Q.step l d) b') d) :=
      fun b' hb' => first_l0 l d hi hd hl hco hhi m k (a + 1) b' (by omega) (by omega) (by omega) hb'
    have hb1 : ∀ p, b = some p → p.1 < a + 1 ∧ Q.Coord p.1 := fun p e => ⟨by have := (hb p e).1; omega, (hb p e).2⟩
    by_cases c1 : (Q.bs l a d).1 ≤ (Q.bs l a d).2
    · by_cases c2 : Q.Coord a
      · simp only [c1, c2, decide_true, if_true, List.foldl_cons]
        cases b with
        | none =>
          have e : Q.step l d none a = some (a, (Q.bs l a d).1) := by unfold Q.step; rw [if_pos c1]
          rw [e]
          have := key (some (a, (Q.bs l a d).1)) (fun p e => by obtain rfl : (a, (Q.bs l a d).1) = p := (by simpa using e); exact ⟨by simp only; omega, c2⟩)
          simpa [encF] using this
        | some p =>
          obtain ⟨hp1, hp2⟩ := hb p rfl
          have hpc := hp2
          obtain ⟨q1, q2⟩ := hp2
          have e : Q.step l d (some p) a = if Q.better a p.1 then some (a, (Q.bs l a d).1) else some p := by unfold Q.step; rw [if_pos c1]
          rw [e]
          simp only [encF, if_true]
          rw [rabs_f (by omega)]
          simp only [Option.bind_some]
          by_cases c3 : Q.iabs a < Q.iabs p.1
          · have hbt : Q.better a p.1 := .inl c3
            rw [if_pos c3, if_pos hbt]
            have := key (some (a, (Q.bs l a d).1)) (fun p e => by obtain rfl : (a, (Q.bs l a d).1) = p := (by simpa using e); exact ⟨by simp only; omega, c2⟩)
            simpa [encF] using this
          · have hbt : ¬ Q.better a p.1 := by unfold Q.better; omega
            rw [if_neg c3, if_neg hbt]
            have := key (some p) hb1
            simpa [encF] using this
      · have := key b hb1
        simp only [c1, c2, decide_true, decide_false, if_true, Bool.false_eq_true, if_false]
        exact this
    · have e : Q.step l d b a = b := by unfold Q.step; rw [if_neg c1]
      have := key b hb1
      simp only [c1, decide_false, Bool.false_eq_true, if_false]
      by_cases c2 : Q.Coord a
      · simp only [c2, decide_true, if_true, List.foldl_cons]
        rw [e]
        exact this
      · simp only [c2, decide_false, Bool.false_eq_true, if_false]
        exact this

end Go.Proofs.Ytjpghfjaloglhaa.PQuot
