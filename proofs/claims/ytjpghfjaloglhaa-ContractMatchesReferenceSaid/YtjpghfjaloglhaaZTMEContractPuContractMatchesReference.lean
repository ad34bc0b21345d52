/-
ContractMatchesReference is true: all functions on contracts return what the reference returns.
Conditions: none.
-/
import Derived.Test.YtjpghfjaloglhaaRows
import Derived.WalkKit
import Derived.ProofKit
import Derived.ShutString
import Derived.ChangeOld
import Derived.Below
import Derived.SizedLaws
import Derived.ChangeSame
import Derived.JoinedOf
import Derived.JoinedAt
import Derived.RowKit3
import Derived.Carry
import Derived.ChangeSlices
import Derived.Test.YtjpghfjaloglhaaZTMEContractCurveM
import Derived.Test.YtjpghfjaloglhaaZTMPContractx0
import Derived.Test.YtjpghfjaloglhaaZTMPContractx11
import Derived.Test.YtjpghfjaloglhaaZTMPContractx9
import Derived.Test.YtjpghfjaloglhaaZTMEContractCurveF
import Derived.Test.YtjpghfjaloglhaaZTMPContractx12
import Derived.Test.YtjpghfjaloglhaaZTMPContractx13
import Derived.Test.YtjpghfjaloglhaaZTMEContractHead38
import Derived.Test.YtjpghfjaloglhaaZTMPContractx16
import Derived.Test.YtjpghfjaloglhaaZTMPContractx17
import Derived.Test.YtjpghfjaloglhaaZTMPContractx14
import Derived.Test.YtjpghfjaloglhaaZTMPContractx15
import Derived.Deep.Slices
import Derived.OpenShut
import Derived.Lib.SmallJoins
import Derived.Test.YtjpghfjaloglhaaZTMPContractx7
import Derived.Test.YtjpghfjaloglhaaZTMPContractx18
namespace Go.Proofs.Ytjpghfjaloglhaa.PContract
set_option linter.unusedSimpArgs false
open Go.RowKit Go.Proofs.YtjpghfjaloglhaaW.PrintWords
def VB (a b d : Int) : Bool := decide ((1 ≤ d ∧ d ≤ 16) ∧ Q.Coord a ∧ Q.Coord b)
theorem VB_iff {a b d : Int} : VB a b d = true ↔ (Q.Quo.mk a b d).Ok := by unfold VB Q.Quo.Ok; simp
theorem rcoord_f (a : Int) : formeref01_Coord.f a = some (decide (Q.Coord a)) := by
 unfold formeref01_Coord.f Q.Coord
 by_cases c : a ≥ -1000000000
 ·rw [if_pos c]
  simp [c]
 ·rw [if_neg c]
  simp [show ¬ -1000000000 ≤ a by omega]
theorem rvalid_f (a b d : Int) : formeref01_Valid.f a b d = some (VB a b d) := by
 unfold formeref01_Valid.f VB
 rw [rcoord_f, rcoord_f]
 by_cases h1 : d ≥ 1
 ·by_cases h2 : d ≤ 16 <;> by_cases h3 : Q.Coord a <;> simp [h2, h3, show 1 ≤ d from h1]
 ·simp [show ¬ 1 ≤ d from h1]
theorem numer {a b n : Int} (ha : Q.Coord a) (hb : Q.Coord b) (hn : 0 ≤ n ∧ n ≤ 4001) : wrap64 (wrap64 (a * n) + b) = a * n + b ∧ -4002000000000 ≤ a * n + b ∧ a * n + b ≤ 4002000000000 := by
 obtain ⟨a1, a2⟩ := ha
 obtain ⟨b1, b2⟩ := hb
 have p := mul_le (a := a) (b := n) (A := 1000000000) (B := 4001) (by omega) (by omega) (by omega) (by omega)
 rw [wrap_in (x := a * n) (by omega) (by omega), wrap_in (x := a * n + b) (by omega) (by omega)]
 exact ⟨rfl, by omega, by omega⟩
theorem rfloor_f' {a d : Int} (h1 : 1 ≤ d ∧ d ≤ 1000000) (h2 : -100000000000000 ≤ a ∧ a ≤ 100000000000000) : formeref01_Floor.f a d = some (a / d) := by
 unfold formeref01_Floor.f
 rw [if_neg (by omega)]
 have hd := Int.mul_ediv_add_emod a d
 have he := Int.emod_nonneg a (show d ≠ 0 by omega)
 have hl := Int.emod_lt_of_pos a (show 0 < d by omega)
 have hb : -100000000000000 ≤ a / d ∧ a / d ≤ 100000000000000 := by
  refine ⟨?_, ?_⟩
  ·rw [Int.le_ediv_iff_mul_le (by omega)]
   omega
  ·have : a / d < 100000000000001 := by
    rw [Int.ediv_lt_iff_lt_mul (by omega)]
    omega
   omega
 by_cases c : 0 ≤ a
 ·rw [if_neg (by rw [Int.tmod_eq_emod_of_nonneg c]; omega), Int.tdiv_eq_ediv_of_nonneg c, wrap_in (by omega) (by omega)]
 ·have ht := Int.mul_tdiv_add_tmod a d
  have hs : a.tdiv d = -((-a) / d) := by
   have := Int.neg_tdiv (a := -a) (b := d)
   rw [Int.neg_neg, Int.tdiv_eq_ediv_of_nonneg (show 0 ≤ -a by omega)] at this
   exact this
  have h3 := Int.mul_ediv_add_emod (-a) d
  have h4 := Int.emod_nonneg (-a) (show d ≠ 0 by omega)
  have h5 := Int.emod_lt_of_pos (-a) (show 0 < d by omega)
  have h6 : a.tmod d = -((-a) % d) := by
   rw [hs, Int.mul_neg] at ht
   omega
  have hb2 : 0 ≤ (-a) / d ∧ (-a) / d ≤ 100000000000000 := ⟨Int.ediv_nonneg (by omega) (by omega), Int.le_trans (Int.ediv_le_self _ (by omega)) (by omega)⟩
  by_cases c2 : a.tmod d < 0
  ·rw [if_pos c2, hs]
   have e : a / d = -((-a) / d) - 1 := by
    apply Int.le_antisymm
    ·have : a / d < -((-a) / d) := by
      rw [Int.ediv_lt_iff_lt_mul (by omega), Int.neg_mul, Int.mul_comm ((-a) / d) d]
      omega
     omega
    ·rw [Int.le_ediv_iff_mul_le (by omega), Int.sub_mul, Int.neg_mul, Int.mul_comm ((-a) / d) d]
     omega
   rw [wrap_in (x := -((-a) / d)) (by omega) (by omega), ← e, wrap_in (by omega) (by omega)]
  ·rw [if_neg c2, hs]
   have e : a / d = -((-a) / d) := by
    apply Int.le_antisymm
    ·have : a / d < -((-a) / d) + 1 := by
      rw [Int.ediv_lt_iff_lt_mul (by omega), Int.add_mul, Int.neg_mul, Int.mul_comm ((-a) / d) d]
      omega
     omega
    ·rw [Int.le_ediv_iff_mul_le (by omega), Int.neg_mul, Int.mul_comm ((-a) / d) d]
     omega
   rw [← e, wrap_in (by omega) (by omega)]
def val (a b d n : Int) : Int := (a * n + b) / d
theorem rvalue_f {a b d n : Int} (h : VB a b d = true) (hn : 0 ≤ n ∧ n ≤ 4001) : formeref01_Value.f a b d n = some (val a b d n) := by
 obtain ⟨h1, h2, h3⟩ := VB_iff.1 h
 obtain ⟨e, p1, p2⟩ := numer h2 h3 hn
 unfold formeref01_Value.f
 simp only at e p1 p2 h1
 rw [e, rfloor_f' (by omega) (by omega)]
 rfl
theorem rabs_f {a : Int} (h : -1000000000000 ≤ a ∧ a ≤ 1000000000000) : formeref01_abs.f a = some (Q.iabs a) := by
 unfold formeref01_abs.f Q.iabs
 rw [wrap_in (by omega) (by omega), mx_max]
theorem least_l0 (l : List Int) (a d : Int) (ha : -40000000000 ≤ a ∧ a ≤ 40000000000) (hd : 1 ≤ d ∧ d ≤ 16) (hl : l.length ≤ 4000) (hco : ∀ x ∈ l, Q.Coord x) :
  ∀ (m k i : Nat) (lo hi : Int), i + m = l.length → m < k →
  formeref01_least.l0 k l a d lo hi (i : Int) = some ((Q.lohi a d i (lo, hi) (l.drop i)).1, decide ((Q.lohi a d i (lo, hi) (l.drop i)).1 ≤ (Q.lohi a d i (lo, hi) (l.drop i)).2))
 | 0, k, i, lo, hi, hm, hk => by
  obtain ⟨k, rfl⟩ : ∃ m, k = m + 1 := ⟨k - 1, by omega⟩
  have e : l.drop i = [] := List.drop_eq_nil_of_le (by omega)
  rw [e]
  unfold formeref01_least.l0
  rw [if_neg (by omega)]
  rfl
 | m + 1, k, i, lo, hi, hm, hk => by
  obtain ⟨k, rfl⟩ : ∃ m, k = m + 1 := ⟨k - 1, by omega⟩
  have hi1 : i < l.length := by omega
  have hv := hco _ (rd_mem hi1)
  unfold formeref01_least.l0
  rw [if_pos (by omega), if_pos (by omega), rd_drop hi1]
  generalize rd l (i : Int) = v at *
  obtain ⟨v1, v2⟩ := hv
  have p1 := mul_le (a := d) (b := v) (A := 16) (B := 1000000000) (by omega) (by omega) (by omega) (by omega)
  have p2 := mul_le (a := a) (b := (i : Int)) (A := 40000000000) (B := 4000) (by omega) (by omega) (by omega) (by omega)
  rw [wrap_in (x := d * v) (by omega) (by omega), wrap_in (x := a * (i : Int)) (by omega) (by omega), wrap_in (x := d * v - a * (i : Int)) (by omega) (by omega),
   wrap_in (x := d * v + d) (by omega) (by omega), wrap_in (x := d * v + d - 1) (by omega) (by omega), wrap_in (x := d * v + d - 1 - a * (i : Int)) (by omega) (by omega), wrap_in (x := (i : Int) + 1) (by omega) (by omega), mx_max, mn_min]
  have e1 : (i : Int) + 1 = ((i + 1 : Nat) : Int) := by omega
  have e2 : d * v + d - 1 - a * (i : Int) = d * v - a * (i : Int) + d - 1 := by omega
  rw [e1, e2, least_l0 l a d ha hd hl hco m k (i + 1) _ _ (by omega) (by omega)]
  rfl
theorem least_f {k : Nat} (hk : 5000 ≤ k) (l : List Int) (a d : Int) (ha : -40000000000 ≤ a ∧ a ≤ 40000000000) (hd : 1 ≤ d ∧ d ≤ 16) (hl : l.length ≤ 4000) (hco : ∀ x ∈ l, Q.Coord x) :
  formeref01_least.f k l a d = some ((Q.bs l a d).1, decide ((Q.bs l a d).1 ≤ (Q.bs l a d).2)) := by
 have h := least_l0 l a d ha hd hl hco l.length k 0 (-1000000000) 1000000000 (by omega) (by omega)
 unfold formeref01_least.f
 exact h
theorem ints_cons {lo hi : Int} (h : lo ≤ hi) : Q.ints lo hi = lo :: Q.ints (lo + 1) hi := by
 unfold Q.ints
 rw [show (hi + 1 - lo).toNat = (hi + 1 - (lo + 1)).toNat + 1 by omega, List.range_succ_eq_map, List.map_cons, List.map_map]
 congr 1
 ·simp
 ·apply List.map_congr_left
  intro i _
  simp only [Function.comp]
  omega
theorem ints_nil {lo hi : Int} (h : hi < lo) : Q.ints lo hi = [] := by
 unfold Q.ints
 rw [show (hi + 1 - lo).toNat = 0 by omega]
 rfl
def encF (b : Option (Int × Int)) (d : Int) : Int × Int × Int × Bool :=
 match b with
 | none => (0, 0, 0, false)
 | some p => (p.1, p.2, d, true)
theorem first_l0 (l : List Int) (d hi : Int) (hd : 1 ≤ d ∧ d ≤ 16) (hl : l.length ≤ 4000) (hco : ∀ x ∈ l, Q.Coord x) (hhi : hi ≤ 33000000000) :
  ∀ (m k : Nat) (a : Int) (b : Option (Int × Int)), a + m = hi + 1 → -33000000000 ≤ a → m + 5000 < k → (∀ p, b = some p → p.1 < a ∧ Q.Coord p.1) →
  formeref01_first.l0 k l d hi (encF b d).2.2.2 a (encF b d).1 (encF b d).2.1 (encF b d).2.2.1 = some (encF (((Q.ints a hi).filter fun a => decide (Q.Coord a)).foldl (Q.step l d) b) d)
 | 0, k, a, b, hm, ha, hk, hb => by
  obtain ⟨k, rfl⟩ : ∃ m, k = m + 1 := ⟨k - 1, by omega⟩
  unfold formeref01_first.l0
  rw [if_neg (by omega), ints_nil (by omega)]
  rfl
 | m + 1, k, a, b, hm, ha, hk, hb => by
  obtain ⟨k, rfl⟩ : ∃ m, k = m + 1 := ⟨k - 1, by omega⟩
  unfold formeref01_first.l0
  rw [if_pos (by omega), ints_cons (by omega), least_f (by omega) l a d (by omega) hd hl hco, wrap_in (x := a + 1) (by omega) (by omega), rcoord_f, rabs_f (by omega)]
  simp only [Option.bind_some, List.filter_cons]
  have key : ∀ b' : Option (Int × Int), (∀ p, b' = some p → p.1 < a + 1 ∧ Q.Coord p.1) →
    formeref01_first.l0 k l d hi (encF b' d).2.2.2 (a + 1) (encF b' d).1 (encF b' d).2.1 (encF b' d).2.2.1 = some (encF (((Q.ints (a + 1) hi).filter fun a => decide (Q.Coord a)).foldl (Q.step l d) b') d) :=
   fun b' hb' => first_l0 l d hi hd hl hco hhi m k (a + 1) b' (by omega) (by omega) (by omega) hb'
  have hb1 : ∀ p, b = some p → p.1 < a + 1 ∧ Q.Coord p.1 := fun p e => ⟨by have := (hb p e).1; omega, (hb p e).2⟩
  by_cases c1 : (Q.bs l a d).1 ≤ (Q.bs l a d).2
  ·by_cases c2 : Q.Coord a
   ·simp only [c1, c2, decide_true, if_true, List.foldl_cons]
    cases b with
    | none =>
     have e : Q.step l d none a = some (a, (Q.bs l a d).1) := by unfold Q.step; rw [if_pos c1]
     rw [e]
     have := key (some (a, (Q.bs l a d).1)) (fun p e => by obtain rfl : (a, (Q.bs l a d).1) = p := (by simpa using e); exact ⟨by simp only; omega, c2⟩)
     simpa [encF] using this
    | some p =>
     obtain ⟨hp1, hp2⟩ := hb p rfl
     have hpc := hp2
     obtain ⟨q1, q2⟩ := hp2
     have e : Q.step l d (some p) a = if Q.better a p.1 then some (a, (Q.bs l a d).1) else some p := by unfold Q.step; rw [if_pos c1]
     rw [e]
     simp only [encF, if_true]
     rw [rabs_f (by omega)]
     simp only [Option.bind_some]
     by_cases c3 : Q.iabs a < Q.iabs p.1
     ·have hbt : Q.better a p.1 := .inl c3
      rw [if_pos c3, if_pos hbt]
      have := key (some (a, (Q.bs l a d).1)) (fun p e => by obtain rfl : (a, (Q.bs l a d).1) = p := (by simpa using e); exact ⟨by simp only; omega, c2⟩)
      simpa [encF] using this
     ·have hbt : ¬ Q.better a p.1 := by unfold Q.better; omega
      rw [if_neg c3, if_neg hbt]
      have := key (some p) hb1
      simpa [encF] using this
   ·have := key b hb1
    simp only [c1, c2, decide_true, decide_false, if_true, Bool.false_eq_true, if_false]
    exact this
  ·have e : Q.step l d b a = b := by unfold Q.step; rw [if_neg c1]
   have := key b hb1
   simp only [c1, decide_false, Bool.false_eq_true, if_false]
   by_cases c2 : Q.Coord a
   ·simp only [c2, decide_true, if_true, List.foldl_cons]
    rw [e]
    exact this
   ·simp only [c2, decide_false, Bool.false_eq_true, if_false]
    exact this
theorem coord_all {l : List Int} (h : l.all (fun x => decide (Q.Coord x)) = true) : ∀ x ∈ l, Q.Coord x := by simpa using h
def valuesB (l : List Int) : Bool := l.all (fun x => decide (Q.Coord x)) && decide (1 ≤ l.length ∧ l.length ≤ 4000)
theorem rvalues_l0 (l : List Int) (hl : l.length ≤ 100000) : ∀ (m k i : Nat), i + m = l.length → m < k →
  formeref01_Values.l0 k l (i : Int) = some ((l.drop i).all (fun x => decide (Q.Coord x)) && decide (1 ≤ l.length ∧ l.length ≤ 4000))
 | 0, k, i, hm, hk => by
  obtain ⟨k, rfl⟩ : ∃ m, k = m + 1 := ⟨k - 1, by omega⟩
  have e : l.drop i = [] := List.drop_eq_nil_of_le (by omega)
  rw [e]
  unfold formeref01_Values.l0
  rw [if_neg (by omega)]
  by_cases c : (l.length : Int) ≥ 1
  ·rw [if_pos c]
   have h1 : 1 ≤ l.length := by omega
   have h2 : ((l.length : Int) ≤ 4000) ↔ l.length ≤ 4000 := by omega
   simp [h1, h2]
  ·rw [if_neg c]
   have : ¬ 1 ≤ l.length := by omega
   simp [this]
 | m + 1, k, i, hm, hk => by
  obtain ⟨k, rfl⟩ : ∃ m, k = m + 1 := ⟨k - 1, by omega⟩
  have hi1 : i < l.length := by omega
  unfold formeref01_Values.l0
  rw [if_pos (by omega), if_pos (by omega), rcoord_f, wrap_in (x := (i : Int) + 1) (by omega) (by omega), rd_drop hi1]
  have e1 : (i : Int) + 1 = ((i + 1 : Nat) : Int) := by omega
  rw [e1, rvalues_l0 l hl m k (i + 1) (by omega) (by omega)]
  simp only [Option.bind_some, List.all_cons]
  by_cases c : Q.Coord (rd l (i : Int)) <;> simp [c]
theorem rvalues_f {k : Nat} (l : List Int) (hl : l.length ≤ 100000) (hk : l.length < k) : formeref01_Values.f k l = some (valuesB l) := by
 have h := rvalues_l0 l hl l.length k 0 (by omega) (by omega)
 unfold formeref01_Values.f
 exact h
theorem bestD_one {l : List Int} (h : l.length = 1) (d : Int) : Q.bestD l d = if (Q.bs l 0 d).1 ≤ (Q.bs l 0 d).2 then some (0, (Q.bs l 0 d).1) else none := by
 unfold Q.bestD Q.cands
 rw [if_pos h]
 simp only [List.foldl_cons, List.foldl_nil, Q.step]
theorem first_f {k : Nat} (l : List Int) (d : Int) (hk : 6000 ≤ k) (hd : 1 ≤ d ∧ d ≤ 16) (h1 : 1 ≤ l.length) (hl : l.length ≤ 4000) (hco : ∀ x ∈ l, Q.Coord x) :
  ∃ r, formeref01_first.f k l d = some r ∧ (∀ p, Q.bestD l d = some p → r = (p.1, p.2, d, true)) ∧ (Q.bestD l d = none → r.2.2.2 = false) := by
 unfold formeref01_first.f
 by_cases c1 : l.length = 1
 ·rw [if_pos (by omega), least_f (by omega) l 0 d (by omega) hd hl hco]
  simp only [Option.bind_some]
  refine ⟨_, rfl, ?_⟩
  rw [bestD_one c1]
  by_cases c2 : (Q.bs l 0 d).1 ≤ (Q.bs l 0 d).2
  ·rw [if_pos c2]
   simp [c2]
  ·rw [if_neg c2]
   simp [c2]
 ·have en : wrap64 ((l.length : Int) - 1) = (l.length : Int) - 1 := wrap_in (by omega) (by omega)
  rw [if_neg (by omega), en, if_pos (by omega), if_pos (by omega), if_pos (by omega)]
  have hb0 : Q.Coord (rd l 0) := hco _ (rd_mem (i := 0) (by omega))
  have hbn : Q.Coord (rd l ((l.length : Int) - 1)) := by
   have := rd_mem (l := l) (i := l.length - 1) (by omega)
   rw [show ((l.length - 1 : Nat) : Int) = (l.length : Int) - 1 by omega] at this
   exact hco _ this
  have hr : Q.rise l d = d * (rd l ((l.length : Int) - 1) - rd l 0) := by
   unfold Q.rise rd
   rw [show ((l.length : Int) - 1).toNat = l.length - 1 by omega]
   rfl
  generalize rd l 0 = x0 at *
  generalize rd l ((l.length : Int) - 1) = xn at *
  obtain ⟨u1, u2⟩ := hb0
  obtain ⟨u3, u4⟩ := hbn
  have p1 := mul_le (a := d) (b := xn - x0) (A := 16) (B := 2000000000) (by omega) (by omega) (by omega) (by omega)
  rw [wrap_in (x := xn - x0) (by omega) (by omega), wrap_in (x := d * (xn - x0)) (by omega) (by omega), ← hr]
  rw [← hr] at p1
  clear hr
  obtain ⟨R, hR⟩ : ∃ R, Q.rise l d = R := ⟨_, rfl⟩
  rw [hR] at p1 ⊢
  rw [wrap_in (x := R - d) (by omega) (by omega), wrap_in (x := R - d + 1) (by omega) (by omega), wrap_in (x := -(R - d + 1)) (by omega) (by omega), wrap_in (x := R + d) (by omega) (by omega), wrap_in (x := R + d - 1) (by omega) (by omega)]
  rw [rfloor_f' (by omega) (by omega), rfloor_f' (by omega) (by omega)]
  simp only [Option.bind_some]
  have hpos : 0 < (l.length : Int) - 1 := by omega
  obtain ⟨q, hq⟩ : ∃ q, (-(R - d + 1)) / ((l.length : Int) - 1) = q := ⟨_, rfl⟩
  obtain ⟨h, hh⟩ : ∃ h, (R + d - 1) / ((l.length : Int) - 1) = h := ⟨_, rfl⟩
  have hlo : Q.loA l d = -q := by unfold Q.loA; rw [hR, ← hq, show -(R - d + 1) = d - 1 - R by omega]
  have hhi : Q.hiA l d = h := by unfold Q.hiA; rw [hR, hh]
  have q1 : q * ((l.length : Int) - 1) ≤ -(R - d + 1) := (Int.le_ediv_iff_mul_le hpos).1 (by omega)
  have q4 : h * ((l.length : Int) - 1) ≤ R + d - 1 := (Int.le_ediv_iff_mul_le hpos).1 (by omega)
  have q2 : -33000000000 ≤ q := by rw [← hq, Int.le_ediv_iff_mul_le hpos]; omega
  have q3 : q ≤ 33000000000 := by
   have : q < 33000000000 := by rw [← hq, Int.ediv_lt_iff_lt_mul hpos]; omega
   omega
  have q5 : h ≤ 32900000000 := by
   have : h < 32900000000 := by rw [← hh, Int.ediv_lt_iff_lt_mul hpos]; omega
   omega
  have q6 : h + q ≤ 30 := by
   have e : (h + q) * ((l.length : Int) - 1) ≤ 30 := by rw [Int.add_mul]; omega
   have e2 : ¬ (31 ≤ h + q) := fun c => by
    have := Int.mul_le_mul_of_nonneg_right c (show 0 ≤ (l.length : Int) - 1 by omega)
    omega
   omega
  rw [hq, hh, wrap_in (x := -q) (by omega) (by omega)]
  by_cases c2 : -q ≤ h + 1
  ·have hf := first_l0 l d h hd hl hco (by omega) (h + 1 + q).toNat k (-q) none (by omega) (by omega) (by omega) (fun p e => by simp at e)
   have hbd : Q.bestD l d = ((Q.ints (-q) h).filter fun a => decide (Q.Coord a)).foldl (Q.step l d) none := by
    unfold Q.bestD Q.cands
    rw [if_neg c1, hlo, hhi]
   rw [← hbd] at hf
   refine ⟨_, hf, ?_⟩
   cases Q.bestD l d with
   | none => simp [encF]
   | some p => simp [encF]
  ·exfalso
   have c3 : ¬ (-q - 1 ≤ h) := by omega
   have e1 : -q - 1 ≤ h ↔ (-q - 1) * ((l.length : Int) - 1) ≤ R + d - 1 := by rw [← hh]; exact Int.le_ediv_iff_mul_le hpos
   rw [e1, Int.sub_mul, Int.neg_mul, Int.one_mul] at c3
   have e2 : q + 1 ≤ q ↔ (q + 1) * ((l.length : Int) - 1) ≤ -(R - d + 1) := by
    have := Int.le_ediv_iff_mul_le (a := q + 1) (b := -(R - d + 1)) hpos
    rw [hq] at this
    exact this
   have c4 : ¬ (q + 1 ≤ q) := by omega
   rw [e2, Int.add_mul, Int.one_mul] at c4
   omega
def foundOut (o : Option Q.Quo) : Int × Int × Int × Bool × Int :=
 match o with
 | none => (0, 0, 0, false, 0)
 | some q => (q.A, q.B, q.D, true, 0)
theorem rfit_l0 (l : List Int) (h1 : 1 ≤ l.length) (hl : l.length ≤ 4000) (hco : ∀ x ∈ l, Q.Coord x) : ∀ (m k : Nat) (d : Int), 1 ≤ d → d + m = 17 → m + 6000 < k →
  formeref01_Fit.l0 k l d = some (foundOut (Q.findD l m d))
 | 0, k, d, hd, hm, hk => by
  obtain ⟨k, rfl⟩ : ∃ m, k = m + 1 := ⟨k - 1, by omega⟩
  unfold formeref01_Fit.l0
  rw [if_neg (by omega)]
  rfl
 | m + 1, k, d, hd, hm, hk => by
  obtain ⟨k, rfl⟩ : ∃ m, k = m + 1 := ⟨k - 1, by omega⟩
  unfold formeref01_Fit.l0
  obtain ⟨r, hr, hs, hn⟩ := first_f (k := k) l d (by omega) (by omega) h1 hl hco
  rw [if_pos (by omega), hr, wrap_in (x := d + 1) (by omega) (by omega)]
  simp only [Option.bind_some, Q.findD]
  cases hb : Q.bestD l d with
  | none =>
   rw [hn hb]
   simp only [Bool.false_eq_true, if_false]
   exact rfit_l0 l h1 hl hco m k (d + 1) (by omega) (by omega) (by omega)
  | some p =>
   rw [hs p hb]
   simp [foundOut]
theorem rfit_f {k : Nat} (hk : 10000 ≤ k) (l : List Int) (hl : l.length ≤ 100000) : formeref01_Fit.f k l = some (fitOut l) := by
 unfold formeref01_Fit.f fitOut
 by_cases c1 : l.length > 4000
 ·rw [if_pos (by omega), if_pos c1]
 ·rw [if_neg (by omega), if_neg c1, rvalues_f l hl (by omega)]
  simp only [Option.bind_some]
  unfold valuesB
  cases c2 : l.all (fun x => decide (Q.Coord x)) with
  | false => simp
  | true =>
   have hco := coord_all c2
   by_cases c3 : l.length = 0
   ·have : ¬ 1 ≤ l.length := by omega
    simp [c3]
   ·have h1 : 1 ≤ l.length := by omega
    have h2 : l.length ≤ 4000 := by omega
    simp only [h1, h2, and_self, decide_true, Bool.and_self, if_true, Bool.true_eq_false, if_false, c3]
    rw [rfit_l0 l h1 h2 hco 16 k 1 (by omega) (by omega) (by omega)]
    rfl
end Go.Proofs.Ytjpghfjaloglhaa.PContract
namespace Go.Proofs.Ytjpghfjaloglhaa.PContract
set_option linter.unusedSimpArgs false
open Go.RowKit Go.Proofs.YtjpghfjaloglhaaW.PrintWords
theorem partsF_more : ∀ (f g : Nat) (a : Int) (l : List Int), l.length ≤ f → l.length ≤ g → (∀ x ∈ l, Q.Coord x) → partsF f a l = partsF g a l
 | f, g, a, [], _, _, _ => by rw [partsF_nil f a [] rfl, partsF_nil g a [] rfl]
 | 0, g, a, v :: l, h, _, _ => by simp at h
 | f + 1, 0, a, v :: l, _, h, _ => by simp at h
 | f + 1, g + 1, a, v :: l, h1, h2, hco => by
  have hl1 : 1 ≤ (v :: l).length := by simp
  have hl := (longN_long hl1 hco).one
  rw [partsF_cons hl1, partsF_cons hl1]
  generalize hw : v :: l = w at *
  rw [partsF_more f g _ (w.drop (longN w)) (by rw [List.length_drop]; omega) (by rw [List.length_drop]; omega) (drops_coord hco _)]
theorem rfit_out {k : Nat} (hk : 10000 ≤ k) {l : List Int} (h1 : 1 ≤ l.length) (hl : l.length ≤ 4000) (hco : ∀ x ∈ l, Q.Coord x) : formeref01_Fit.f k l = some (foQ (Q.fitL l)) := by
 rw [rfit_f hk l (by omega)]
 have := fit_out h1 hl hco
 unfold quot_Fit.f at this
 exact this
theorem rsplit_l1 {a : Int} {l : List Int} (hl : l.length ≤ 4000) (hco : ∀ x ∈ l, Q.Coord x) (ha : 0 ≤ a ∧ a ≤ 4001) {acc : List SP} (hacc : acc.length ≤ 10000) {s : Nat} (hs : s < l.length) {n : Nat} (hn : IsLong (l.drop s) n) {q : Q.Quo} (hq : Q.fitL ((l.drop s).take n) = some q) {res : List SP} {K : Nat} (hK : 10000 ≤ K)
  (hnext : ∀ k, K ≤ k → formeref02_split.l0 k a l (acc ++ [⟨a + (s : Int), a + (s : Int) + (n : Int), toS q⟩]) ((s + n : Nat) : Int) = some res) :
  ∀ (d k j : Nat) (r : Q.Quo), j + d = n → 1 ≤ j → K + d + 1 ≤ k → Q.fitL ((l.drop s).take j) = some r → formeref02_split.l1 k a l acc (s : Int) ((s + j : Nat) : Int) r.A r.B r.D = some res
 | d, k, j, r, hd, hj, hk, hr => by
  obtain ⟨k, rfl⟩ : ∃ t, k = t + 1 := ⟨k - 1, by omega⟩
  have hdl : (l.drop s).length = l.length - s := List.length_drop
  have h2 := hn.le
  have hmost := hn.most
  have hfin : j = n → (if acc.length < 3518437208883 then (formeref02_split.l0 k a l (acc ++ [(⟨wrap64 (a + (s : Int)), wrap64 (a + ((s + j : Nat) : Int)), (⟨r.A, r.B, r.D⟩ : SQ)⟩ : SP)]) ((s + j : Nat) : Int)) else (none)) = some res := fun e => by
   subst e
   rw [hq] at hr
   obtain rfl := Option.some.inj hr
   rw [if_pos (by omega), wrap_in (x := a + (s : Int)) (by omega) (by omega), wrap_in (x := a + ((s + j : Nat) : Int)) (by omega) (by omega)]
   have := hnext k (by omega)
   rw [show a + (s : Int) + (j : Int) = a + ((s + j : Nat) : Int) by omega] at this
   exact this
  rw [formeref02_split.l1]
  by_cases c : s + j < l.length
  ·have hseg : (l.take (s + j + 1)).drop s = (l.drop s).take (j + 1) := by rw [List.drop_take]; congr 1; omega
   rw [if_pos (by omega), wrap_in (x := ((s + j : Nat) : Int) + 1) (by omega) (by omega), show ((s + j : Nat) : Int) + 1 = ((s + j + 1 : Nat) : Int) by omega]
   rw [if_pos (by omega), if_pos (by omega), if_pos (by omega), Int.toNat_natCast, Int.toNat_natCast, hseg]
   rw [rfit_out (by omega) (by rw [List.length_take]; omega) (by rw [List.length_take]; omega) (takes_coord (drops_coord hco s) _)]
   simp only [Option.bind_some]
   by_cases e : j = n
   ·have hz : Q.fitL ((l.drop s).take (j + 1)) = none := by rw [e]; exact hmost (by omega)
    rw [hz]
    simp only [foQ, Bool.false_eq_true, if_false]
    exact hfin e
   ·obtain ⟨d, rfl⟩ : ∃ t, d = t + 1 := ⟨d - 1, by omega⟩
    have hf := fit_less (l := l.drop s) (m := j + 1) (n := n) (by omega) (by omega) h2 hn.fits
    cases e2 : Q.fitL ((l.drop s).take (j + 1)) with
    | none => rw [e2] at hf; cases hf
    | some r2 =>
     simp only [foQ, if_true]
     exact rsplit_l1 hl hco ha hacc hs hn hq hK hnext d k (j + 1) r2 (by omega) (by omega) (by omega) e2
  ·rw [if_neg (by omega)]
   exact hfin (by omega)
theorem rsplit_l0 {a : Int} {l : List Int} (hl : l.length ≤ 4000) (hco : ∀ x ∈ l, Q.Coord x) (ha : 0 ≤ a ∧ a ≤ 4001) : ∀ (m k s : Nat) (acc : List SP), s + m = l.length → acc.length ≤ s → 10000 + 3 * m + 3 ≤ k →
  formeref02_split.l0 k a l acc (s : Int) = some (acc ++ partsF m (a + (s : Int)) (l.drop s))
 | m, k, s, acc, hm, hacc, hk => by
  obtain ⟨k, rfl⟩ : ∃ t, k = t + 1 := ⟨k - 1, by omega⟩
  rw [formeref02_split.l0]
  have hdl : (l.drop s).length = l.length - s := List.length_drop
  by_cases c : s < l.length
  ·obtain ⟨m, rfl⟩ : ∃ t, m = t + 1 := ⟨m - 1, by omega⟩
   have hco2 := drops_coord hco s
   have hlong := longN_long (l := l.drop s) (by omega) hco2
   obtain ⟨q, e, hq, hqf⟩ := longN_fits (l := l.drop s) (by omega) hco2
   have g1 := hlong.one
   have g2 := hlong.le
   rw [partsF_cons (by omega), e]
   simp only [Option.getD_some]
   have hseg : (l.take (s + 1)).drop s = (l.drop s).take 1 := by rw [List.drop_take]; congr 1; omega
   rw [if_pos (by omega), wrap_in (x := (s : Int) + 1) (by omega) (by omega), if_pos (by omega), if_pos (by omega), if_pos (by omega), show (s : Int) + 1 = ((s + 1 : Nat) : Int) by omega, Int.toNat_natCast, Int.toNat_natCast, hseg]
   rw [rfit_out (by omega) (by rw [List.length_take]; omega) (by rw [List.length_take]; omega) (takes_coord hco2 _)]
   simp only [Option.bind_some]
   have hf := fit_first (l := l.drop s) (by omega) hco2
   cases e1 : Q.fitL ((l.drop s).take 1) with
   | none => rw [e1] at hf; cases hf
   | some r1 =>
    simp only [foQ]
    generalize hN : longN (l.drop s) = n at *
    have hdd : (l.drop s).drop n = l.drop (s + n) := List.drop_drop
    refine rsplit_l1 hl hco ha (by omega) c hlong e (K := 10000 + 3 * m + 3 - (n - 1)) (by omega) (fun k' hk' => ?_) (n - 1) k 1 r1 (by omega) (by omega) (by omega) e1
    obtain ⟨m2, hm2⟩ : ∃ t, s + n + t = l.length := ⟨l.length - (s + n), by omega⟩
    have := rsplit_l0 hl hco ha m2 k' (s + n) (acc ++ [⟨a + (s : Int), a + (s : Int) + (n : Int), toS q⟩]) hm2 (by rw [List.length_append, List.length_singleton]; omega) (by omega)
    rw [this, List.append_assoc, hdd, show a + ((s + n : Nat) : Int) = a + (s : Int) + (n : Int) by omega]
    congr 2
    rw [List.singleton_append]
    congr 1
    exact partsF_more m2 m _ _ (by rw [List.length_drop]; omega) (by rw [List.length_drop]; omega) (drops_coord hco _)
  ·rw [if_neg (by omega), partsF_nil _ _ _ (by omega), List.append_nil]
termination_by m => m
theorem rsplit_f {k : Nat} {a : Int} {l : List Int} (hk : 30000 ≤ k) (hl : l.length ≤ 4000) (hco : ∀ x ∈ l, Q.Coord x) (ha : 0 ≤ a ∧ a ≤ 4001) : formeref02_split.f k a l = some (parts a l) := by
 unfold formeref02_split.f parts
 have := rsplit_l0 hl hco ha l.length k 0 [] (by omega) (by simp) (by omega)
 simpa using this
end Go.Proofs.Ytjpghfjaloglhaa.PContract
namespace Go.Proofs.Ytjpghfjaloglhaa.PContract
open Go.RowKit Go.Proofs.YtjpghfjaloglhaaW.PrintWords
theorem same_l0 (l m : List SP) (he : l.length = m.length) (hl : l.length ≤ 9223372036854775806) : ∀ (f k i : Nat), l.length - i ≤ f → f < k → i ≤ l.length →
  formeref02_Same.l0 k l m (i : Int) = some (decide (l.drop i = m.drop i))
 | f, k, i, hf, hk, hi => by
  obtain ⟨k, rfl⟩ : ∃ n, k = n + 1 := ⟨k - 1, by omega⟩
  rw [formeref02_Same.l0]
  by_cases c : i < l.length
  ·obtain ⟨f, rfl⟩ : ∃ n, f = n + 1 := ⟨f - 1, by omega⟩
   rw [if_pos (by omega), if_pos (by omega), if_pos (by omega), rdP_drop c, rdP_drop (show i < m.length by omega)]
   rw [wrap_in (x := (i : Int) + 1) (by omega) (by omega)]
   have ih := same_l0 l m he hl f k (i + 1) (by omega) (by omega) (by omega)
   rw [show ((i : Int) + 1) = ((i + 1 : Nat) : Int) by omega, ih]
   generalize rd_T61 l (i : Int) = p
   generalize rd_T61 m (i : Int) = q
   obtain ⟨p0, p1, ⟨a0, a1, a2⟩⟩ := p
   obtain ⟨q0, q1, ⟨b0, b1, b2⟩⟩ := q
   by_cases e : (⟨p0, p1, ⟨a0, a1, a2⟩⟩ : SP) = ⟨q0, q1, ⟨b0, b1, b2⟩⟩
   ·injection e with e1 e2 e3
    injection e3 with e3 e4 e5
    subst e1 e2 e3 e4 e5
    simp
   ·have e' : ¬ (p0 = q0 ∧ p1 = q1 ∧ a0 = b0 ∧ a1 = b1 ∧ a2 = b2) := by
     rintro ⟨rfl, rfl, rfl, rfl, rfl⟩
     exact e rfl
    rw [if_pos]
    ·rw [decide_eq_false]
     intro h
     injection h with h _
     exact e h
    ·simp only [Bool.or_eq_true, Bool.not_eq_true', beq_eq_false_iff_ne, ne_eq]
     omega
  ·rw [if_neg (by omega), List.drop_eq_nil_of_le (by omega), List.drop_eq_nil_of_le (by omega)]
   rfl
theorem same_f {k : Nat} {l m : List SP} (hl : l.length ≤ 9223372036854775806) (hk : l.length < k) : formeref02_Same.f k l m = some (decide (l = m)) := by
 unfold formeref02_Same.f
 by_cases c : l.length = m.length
 ·rw [if_pos (by omega)]
  have := same_l0 l m c hl l.length k 0 (by omega) (by omega) (by omega)
  simpa using this
 ·rw [if_neg (by omega), decide_eq_false (fun e => c (by rw [e]))]
end Go.Proofs.Ytjpghfjaloglhaa.PContract
namespace Go.Proofs.Ytjpghfjaloglhaa.PContract
set_option linter.unusedSimpArgs false
open Go.RowKit Go.Proofs.YtjpghfjaloglhaaW.PrintWords
def allFin (acc : List Int) (rest : List SP) (a : Int) : List Int × Bool :=
 match chain a rest with
 | none => ([], false)
 | some _ => if coordsB (valsOf rest) = true then (acc ++ valsOf rest, decide (1 ≤ (acc ++ valsOf rest).length ∧ (acc ++ valsOf rest).length ≤ 4000)) else ([], false)
theorem valsP_get (p : SP) {m n : Nat} (h : m < n) : (valsP p n).drop m = qval p.f2 (m : Int) :: (valsP p n).drop (m + 1) := by
 rw [List.drop_eq_getElem_cons (by rw [valsP_len]; exact h)]
 congr 1
 unfold valsP
 simp
theorem rall_l1 {ps : List SP} {acc : List Int} {i : Nat} {p : SP} (hi : i < 60) (hok : okPart p = true) (hacc : acc.length ≤ 1000000) {res : List Int × Bool} {K : Nat}
  (hnext : ∀ k, K ≤ k → formeref02_all.l0 k ps (acc ++ valsP p (cntOf p)) ((i + 1 : Nat) : Int) = some res) :
  ∀ (d k m : Nat), m + d = cntOf p → K + d + 1 ≤ k → formeref02_all.l1 k ps (acc ++ valsP p m) (i : Int) (p.f0 + (m : Int)) p.f0 p.f1 p.f2.f0 p.f2.f1 p.f2.f2 = some (if coordsB ((valsP p (cntOf p)).drop m) = true then res else ([], false))
 | d, k, m, hd, hk => by
  obtain ⟨k, rfl⟩ : ∃ t, k = t + 1 := ⟨k - 1, by omega⟩
  have hok' := hok
  unfold okPart at hok'
  simp only [Bool.and_eq_true, decide_eq_true_eq] at hok'
  obtain ⟨h1, h2, h3, h4⟩ := hok'
  have hcnt : (cntOf p : Int) = p.f1 - p.f0 := by unfold cntOf; omega
  rw [formeref02_all.l1]
  by_cases c : m < cntOf p
  ·obtain ⟨d, rfl⟩ : ∃ t, d = t + 1 := ⟨d - 1, by omega⟩
   rw [if_pos (by omega), wrap_in (x := p.f0 + (m : Int) - p.f0) (by omega) (by omega), show p.f0 + (m : Int) - p.f0 = (m : Int) by omega, rvalue_f (by unfold VB; exact decide_eq_true h1) (by omega)]
   simp only [Option.bind_some]
   rw [rcoord_f]
   simp only [Option.bind_some]
   rw [valsP_get p c]
   have hv : val p.f2.f0 p.f2.f1 p.f2.f2 (m : Int) = qval p.f2 (m : Int) := rfl
   rw [hv]
   by_cases cc : Q.Coord (qval p.f2 (m : Int))
   ·rw [decide_eq_true cc, if_pos rfl, if_pos (by rw [List.length_append, valsP_len]; omega), wrap_in (x := p.f0 + (m : Int) + 1) (by omega) (by omega), List.append_assoc, ← valsP_succ, show p.f0 + (m : Int) + 1 = p.f0 + ((m + 1 : Nat) : Int) by omega]
    rw [rall_l1 hi hok hacc hnext d k (m + 1) (by omega) (by omega)]
    congr 2
    unfold coordsB
    simp [cc]
   ·rw [decide_eq_false cc, if_neg (by simp), if_neg]
    unfold coordsB
    simp [cc]
  ·obtain rfl : m = cntOf p := by omega
   rw [if_neg (by omega), wrap_in (x := (i : Int) + 1) (by omega) (by omega), show (i : Int) + 1 = ((i + 1 : Nat) : Int) by omega, hnext k (by omega), List.drop_eq_nil_of_le (by rw [valsP_len]; exact Nat.le_refl _)]
   rfl
set_option maxRecDepth 100000 in
theorem rall_l0 {ps : List SP} (hps : ps.length < 50) : ∀ (m k i : Nat) (acc : List Int) (a : Int), i + m = ps.length → acc.length ≤ i * 4001 → m * 4010 + 10 ≤ k → (i = 0 → a = (rd_T61 ps 0).f0) → (0 < i → a = (rd_T61 ps ((i : Int) - 1)).f1) →
  formeref02_all.l0 k ps acc (i : Int) = some (allFin acc (ps.drop i) a)
 | m, k, i, acc, a, hm, hacc, hk, ha0, ha1 => by
  obtain ⟨k, rfl⟩ : ∃ t, k = t + 2 := ⟨k - 2, by omega⟩
  rw [formeref02_all.l0]
  by_cases c : i < ps.length
  ·obtain ⟨m, rfl⟩ : ∃ t, m = t + 1 := ⟨m - 1, by omega⟩
   rw [if_pos (by omega), if_pos (by omega), rdP_drop c]
   have ha0' := ha0
   generalize hp : rd_T61 ps (i : Int) = p at *
   have hbad : ∀ b, b = true → ¬ (okPart p = true ∧ p.f0 = a) → formeref02_all.j1 (k + 1) ps acc (i : Int) b p.f0 p.f1 p.f2.f0 p.f2.f1 p.f2.f2 = some (allFin acc (p :: ps.drop (i + 1)) a) := fun b hb hn => by
    rw [formeref02_all.j1, if_pos hb]
    unfold allFin chain
    rw [if_neg hn]
   rw [rvalid_f]
   simp only [Option.bind_some]
   by_cases c1 : VB p.f2.f0 p.f2.f1 p.f2.f2 = true
   ·rw [c1, if_pos rfl]
    by_cases c2 : p.f0 < 0
    ·rw [if_pos c2]
     exact hbad _ rfl (fun h => by have := h.1; unfold okPart at this; simp only [Bool.and_eq_true, decide_eq_true_eq] at this; omega)
    ·rw [if_neg c2]
     by_cases c3 : p.f1 ≤ p.f0
     ·rw [if_pos c3]
      exact hbad _ rfl (fun h => by have := h.1; unfold okPart at this; simp only [Bool.and_eq_true, decide_eq_true_eq] at this; omega)
     ·rw [if_neg c3]
      by_cases c4 : p.f1 > 4001
      ·rw [if_pos c4]
       exact hbad _ rfl (fun h => by have := h.1; unfold okPart at this; simp only [Bool.and_eq_true, decide_eq_true_eq] at this; omega)
      ·rw [if_neg c4]
       have hok : okPart p = true := by
        unfold okPart
        unfold VB at c1
        rw [c1, decide_eq_true (show 0 ≤ p.f0 ∧ p.f0 < p.f1 ∧ p.f1 ≤ 4001 by omega)]
        rfl
       have hgood : ∀ b, b = false → p.f0 = a → formeref02_all.j1 (k + 1) ps acc (i : Int) b p.f0 p.f1 p.f2.f0 p.f2.f1 p.f2.f2 = some (allFin acc (p :: ps.drop (i + 1)) a) := fun b hb he => by
        rw [formeref02_all.j1, if_neg (by rw [hb]; simp)]
        have hcn : cntOf p ≤ 4001 := by unfold cntOf; omega
        have hnx : ∀ k', m * 4010 + 10 ≤ k' → formeref02_all.l0 k' ps (acc ++ valsP p (cntOf p)) ((i + 1 : Nat) : Int) = some (allFin (acc ++ valsP p (cntOf p)) (ps.drop (i + 1)) p.f1) := fun k' hk' =>
         rall_l0 hps m k' (i + 1) _ _ (by omega) (by rw [List.length_append, valsP_len]; omega) hk' (fun h => by omega) (fun _ => by rw [show ((i + 1 : Nat) : Int) - 1 = (i : Int) by omega, hp])
        have := rall_l1 (ps := ps) (acc := acc) (i := i) (by omega) hok (by omega) hnx (cntOf p) k 0 (by omega) (by omega)
        rw [show valsP p 0 = [] from rfl, List.append_nil, show p.f0 + ((0 : Nat) : Int) = p.f0 by omega, List.drop_zero] at this
        rw [this]
        congr 1
        unfold allFin
        rw [show chain a (p :: ps.drop (i + 1)) = chain p.f1 (ps.drop (i + 1)) by rw [chain, if_pos ⟨hok, he⟩]]
        cases chain p.f1 (ps.drop (i + 1)) with
        | none => simp
        | some e =>
         simp only
         rw [valsOf_cons]
         unfold coordsB
         rw [List.all_append, List.append_assoc]
         cases h1 : (valsP p (cntOf p)).all fun x => decide (Q.Coord x) <;> cases h2 : (valsOf (ps.drop (i + 1))).all fun x => decide (Q.Coord x) <;> simp
       by_cases c5 : (i : Int) > 0
       ·rw [if_pos c5, wrap_in (x := (i : Int) - 1) (by omega) (by omega), if_pos (by omega), if_pos (by omega), ← ha1 (by omega)]
        by_cases c6 : p.f0 = a
        ·exact hgood _ (by simp [c6]) c6
        ·exact hbad _ (by simp [c6]) (fun h => c6 h.2)
       ·rw [if_neg c5]
        obtain rfl : i = 0 := by omega
        exact hgood _ rfl (by rw [ha0 rfl, ← hp]; rfl)
   ·rw [if_neg c1]
    exact hbad _ rfl (fun h => c1 (by have := h.1; unfold okPart at this; simp only [Bool.and_eq_true] at this; exact this.1))
  ·rw [if_neg (by omega), List.drop_eq_nil_of_le (by omega)]
   unfold allFin chain
   rw [show valsOf [] = [] from rfl, List.append_nil, show coordsB [] = true from rfl]
   simp only [if_true]
   by_cases c2 : (acc.length : Int) ≥ 1
   ·rw [if_pos c2]
    congr 2
    exact decide_eq_decide.2 (by omega)
   ·rw [if_neg c2, decide_eq_false (by omega)]
termination_by m => m
end Go.Proofs.Ytjpghfjaloglhaa.PContract
namespace Go.Proofs.Ytjpghfjaloglhaa.PContract
set_option linter.unusedSimpArgs false
open Go.RowKit Go.Proofs.YtjpghfjaloglhaaW.PrintWords
theorem rall_f {k : Nat} (hk : 250000 ≤ k) {ps : List SP} (h : ps.length < 50) : formeref02_all.f k ps = some (allFin [] ps (rd_T61 ps 0).f0) := by
 unfold formeref02_all.f
 have := rall_l0 h ps.length k 0 [] (rd_T61 ps 0).f0 (by omega) (by simp) (by omega) (fun _ => rfl) (fun h => by omega)
 simpa using this
theorem joinedB_eq {ps : List SP} (h : 0 < ps.length) : joinedB ps = (match chain (rd_T61 ps 0).f0 ps with | none => false | some e => decide (e - (rd_T61 ps 0).f0 ≤ 4000)) := by
 match ps, h with
 | p :: l, _ => rfl
theorem rvalid_c {k : Nat} (hk : 300000 ≤ k) {ps : List SP} (h : ps.length < 50) : formeref02_Valid.f k ps = some (validB ps) := by
 unfold formeref02_Valid.f
 rw [rall_f (by omega) h]
 simp only [Option.bind_some]
 by_cases h0 : ps.length = 0
 ·obtain rfl : ps = [] := List.eq_nil_of_length_eq_zero h0
  rfl
 ·have hj := joinedB_eq (ps := ps) (by omega)
  have hv : validB ps = (joinedB ps && decide (makeOut (rd_T61 ps 0).f0 (valsOf ps) = (ps, 0))) := rfl
  unfold allFin
  cases hc : chain (rd_T61 ps 0).f0 ps with
  | none =>
   rw [hc] at hj
   rw [hv, hj]
   rfl
  | some e =>
   obtain ⟨g1, g2, g3, g4, g5⟩ := chain_facts _ _ _ hc
   have hok := g1 (rd_T61 ps 0) (by unfold rd_T61; rw [List.getD_eq_getElem?_getD, List.getElem?_eq_getElem (by simp; omega), Option.getD_some]; exact List.getElem_mem _)
   unfold okPart at hok
   simp only [Bool.and_eq_true, decide_eq_true_eq] at hok
   rw [hc] at hj
   simp only at hj
   simp only [List.nil_append]
   cases hb : coordsB (valsOf ps) with
   | false =>
    simp only [Bool.false_eq_true, if_false]
    rw [hv, decide_eq_false, Bool.and_false]
    intro he
    have := (make_ok_good (a := (rd_T61 ps 0).f0) (l := valsOf ps) (by rw [he])).co
    rw [coordsB_iff.2 this] at hb
    cases hb
   | true =>
    rw [if_pos rfl]
    by_cases c1 : 1 ≤ (valsOf ps).length ∧ (valsOf ps).length ≤ 4000
    ·simp only [decide_eq_true c1, if_true]
     have hg : Good (rd_T61 ps 0).f0 (valsOf ps) := ⟨c1.1, c1.2, by omega, by have := g4 (by omega); omega, coordsB_iff.1 hb⟩
     rw [if_pos (by omega), rsplit_f (by omega) c1.2 hg.co (by omega)]
     simp only [Option.bind_some]
     have hlen := (joined_facts (parts_joined hg)).2.2
     rw [(parts_spec hg.co hg.zero hg.far).2] at hlen
     rw [same_f (by omega) (by omega)]
     simp only [Option.bind_some]
     rw [hv, hj, make_good hg, decide_eq_true (show e - (rd_T61 ps 0).f0 ≤ 4000 by omega), Bool.true_and]
     congr 1
     exact decide_eq_decide.2 ⟨fun e => by rw [e], fun e => by injection e⟩
    ·simp only [decide_eq_false c1, Bool.false_eq_true, if_false]
     rw [hv]
     cases hjj : joinedB ps with
     | false => rfl
     | true =>
      have := joined_facts hjj
      exact absurd ⟨this.2.2.2.1, this.2.2.1⟩ c1
theorem rat_l0 {ps : List SP} (hok : ∀ p ∈ ps, okPart p = true) (n : Int) (hl : ps.length ≤ 100000) : ∀ (m k i : Nat), i + m = ps.length → m < k →
  formeref02_At.l0 k ps n (i : Int) = some (match (ps.drop i).find? (hasN n) with | none => (0, 1) | some p => (qval p.f2 (n - p.f0), 0))
 | m, k, i, hm, hk => by
  obtain ⟨k, rfl⟩ : ∃ t, k = t + 1 := ⟨k - 1, by omega⟩
  rw [formeref02_At.l0]
  by_cases c : i < ps.length
  ·obtain ⟨m, rfl⟩ : ∃ t, m = t + 1 := ⟨m - 1, by omega⟩
   have hp := hok (rd_T61 ps (i : Int)) (by unfold rd_T61; rw [List.getD_eq_getElem?_getD, List.getElem?_eq_getElem (by simpa using c), Option.getD_some]; exact List.getElem_mem _)
   rw [if_pos (by omega), if_pos (by omega), rdP_drop c, wrap_in (x := (i : Int) + 1) (by omega) (by omega)]
   have ih := rat_l0 hok n hl m k (i + 1) (by omega) (by omega)
   rw [show (i : Int) + 1 = ((i + 1 : Nat) : Int) by omega, ih]
   generalize rd_T61 ps (i : Int) = p at *
   unfold okPart at hp
   simp only [Bool.and_eq_true, decide_eq_true_eq] at hp
   by_cases c1 : p.f0 ≤ n
   ·rw [if_pos c1]
    by_cases c2 : n < p.f1
    ·rw [if_pos c2, wrap_in (x := n - p.f0) (by omega) (by omega), rvalue_f (by unfold VB; exact decide_eq_true hp.1) (by omega), List.find?_cons_of_pos (by unfold hasN; simp [c1, c2])]
     rfl
    ·rw [if_neg c2, List.find?_cons_of_neg (by unfold hasN; simp; omega)]
   ·rw [if_neg c1, List.find?_cons_of_neg (by unfold hasN; simp; omega)]
  ·rw [if_neg (by omega), List.drop_eq_nil_of_le (by omega)]
   rfl
theorem rat_f {k : Nat} (hk : 300000 ≤ k) {ps : List SP} (h : ps.length < 50) (n : Int) : formeref02_At.f k ps n = some (atOut ps n) := by
 unfold formeref02_At.f atOut
 rw [rvalid_c hk h]
 simp only [Option.bind_some]
 cases hv : validB ps with
 | false =>
  rw [if_neg (by simp)]
  cases ps.find? (hasN n) with
  | none => rfl
  | some p => simp
 | true =>
  rw [if_pos rfl]
  have := rat_l0 (joined_facts (valid_joined hv)).2.1 n (by omega) ps.length k 0 (by omega) (by omega)
  rw [show ((0 : Nat) : Int) = 0 from rfl, List.drop_zero] at this
  rw [this]
  cases ps.find? (hasN n) with
  | none => rfl
  | some p => simp
theorem rvals_f {k : Nat} (hk : 300000 ≤ k) {ps : List SP} (h : ps.length < 50) : formeref02_Values.f k ps = some (valuesOut ps) := by
 unfold formeref02_Values.f valuesOut
 rw [rvalid_c hk h]
 simp only [Option.bind_some]
 cases hv : validB ps with
 | false => simp
 | true =>
  obtain ⟨hg, he⟩ := valid_parts hv
  have hs := (parts_spec hg.co hg.zero hg.far).1
  rw [← he] at hs
  rw [if_pos rfl, if_pos rfl, rall_f (by omega) h]
  unfold allFin
  rw [hs]
  simp only [Option.bind_some]
  rw [coordsB_iff.2 hg.co, if_pos rfl]
  rfl
end Go.Proofs.Ytjpghfjaloglhaa.PContract
namespace Go.Proofs.Ytjpghfjaloglhaa.PContract
open Go.RowKit Go.Proofs.YtjpghfjaloglhaaW.PrintWords
theorem few38 {k : Nat} (hk : 110 ≤ k) (n m : Int) (l : List SP) : ∃ b, formeref38_Few.f k n m l = some b := by
 obtain ⟨b, hb⟩ := few_f hk l
 refine ⟨b, ?_⟩
 unfold formeref38_Few.f
 rw [hb]
 rfl
theorem head38 : formelaw38_head.f = some true := rfl
end Go.Proofs.Ytjpghfjaloglhaa.PContract
namespace Go.Proofs.Ytjpghfjaloglhaa.PContract
set_option linter.unusedSimpArgs false
open Go.RowKit Go.Proofs.YtjpghfjaloglhaaW.PrintWords
theorem judge_cases (n m : Int) (l : List SP) (an ch cg la : Int) (fr : Bool) (xn xw xk xh : Int) :
  (contract_Judge.f n m l an ch cg la fr xn xw xk xh = some (0, 0, 0, 0, false, 0, false, 1)) ∨
  (cvalidB n m l = true ∧ accB an ⟨ch, cg, la, fr⟩ = true ∧ ansB xn xw xk xh = true ∧ an = n ∧ xn = n ∧ contract_Judge.f n m l an ch cg la fr xn xw xk xh = some (n, (enterA ⟨ch, cg, la, fr⟩ xk xh (promI l xw) m).ch, (enterA ⟨ch, cg, la, fr⟩ xk xh (promI l xw) m).cg, (enterA ⟨ch, cg, la, fr⟩ xk xh (promI l xw) m).la, (enterA ⟨ch, cg, la, fr⟩ xk xh (promI l xw) m).fr, promI l xw, decide (promI l xw < xh), 0)) := by
 by_cases c : cvalidB n m l = true ∧ accB an ⟨ch, cg, la, fr⟩ = true ∧ ansB xn xw xk xh = true ∧ an = n ∧ xn = n
 ·refine .inr ⟨c.1, c.2.1, c.2.2.1, c.2.2.2.1, c.2.2.2.2, ?_⟩
  unfold contract_Judge.f judgeOut
  rw [if_pos c]
 ·refine .inl ?_
  unfold contract_Judge.f judgeOut
  rw [if_neg c]
theorem ans_ok {n w k h : Int} (c : ansB n w k h = true) : (1 ≤ n ∧ n ≤ 1000000) ∧ HOk w ∧ HOk h ∧ (k = 1 ∨ (k = 2 ∨ k = 3) ∧ h = 0) := by
 unfold ansB at c
 simp only [Bool.and_eq_true, decide_eq_true_eq] at c
 obtain ⟨⟨c1, c2⟩, c3⟩ := c
 by_cases k1 : k = 1
 ·rw [if_pos k1] at c3
  exact ⟨c1, c2, of_decide_eq_true c3, .inl k1⟩
 ·rw [if_neg k1] at c3
  by_cases k2 : k = 2 ∨ k = 3
  ·rw [if_pos k2] at c3
   have c4 := of_decide_eq_true c3
   exact ⟨c1, c2, by rw [c4]; exact ⟨by omega, by omega⟩, .inr ⟨k2, c4⟩⟩
  ·rw [if_neg k2] at c3
   cases c3
theorem promised_cases (n m : Int) (l : List SP) (w : Int) :
  ((¬ cvalidB n m l = true ∨ ¬ HOk w) ∧ contract_Promised.f n m l w = some (0, 1)) ∨ (cvalidB n m l = true ∧ HOk w ∧ contract_Promised.f n m l w = some (promI l w, 0)) := by
 unfold contract_Promised.f contract_Valid.f
 rw [isHeight_f]
 cases c1 : cvalidB n m l with
 | false => exact .inl ⟨.inl (by simp), rfl⟩
 | true =>
  by_cases c2 : HOk w
  ·rw [decide_eq_true c2, promised_f (cvalid_valid c1)]
   exact .inr ⟨rfl, c2, rfl⟩
  ·rw [decide_eq_false c2]
   exact .inl ⟨.inr c2, rfl⟩
theorem course_cases (n m : Int) (l : List SP) (xs : List SA) :
  (contract_Course.f n m l xs = some (0, 0, 0, 0, false, [], 1)) ∨ (contract_Course.f n m l xs = some (0, 0, 0, 0, false, [], 2)) ∨
  (cvalidB n m l = true ∧ xs.length ≤ 500 ∧ (∀ x ∈ xs, strangeB n x = false) ∧ contract_Course.f n m l xs = some (n, (runA m l ⟨0, 0, 0, false⟩ xs).ch, (runA m l ⟨0, 0, 0, false⟩ xs).cg, (runA m l ⟨0, 0, 0, false⟩ xs).la, (runA m l ⟨0, 0, 0, false⟩ xs).fr, xs.map fun x => promI l x.f1, 0)) := by
 unfold contract_Course.f courseOut
 cases c1 : cvalidB n m l with
 | false =>
  rw [if_pos rfl]
  exact .inl rfl
 | true =>
  rw [if_neg (by simp)]
  by_cases c2 : xs.length > 500
  ·rw [if_pos c2]
   exact .inr (.inl rfl)
  ·rw [if_neg c2]
   cases c3 : xs.any (strangeB n) with
   | true =>
    rw [if_pos rfl]
    exact .inl rfl
   | false =>
    rw [if_neg (by simp)]
    refine .inr (.inr ⟨rfl, by omega, fun x hx => ?_, rfl⟩)
    have := List.any_eq_false.1 c3 x hx
    simpa using this
theorem rdA_get {xs : List SA} {i : Nat} (h : i < xs.length) : rd_T78 xs (i : Int) = xs[i] := by
 unfold rd_T78
 simp [h]
theorem not_strange {n : Int} {x : SA} (h : strangeB n x = false) : ansB x.f0 x.f1 x.f2 x.f3 = true ∧ x.f0 = n := by
 unfold strangeB at h
 simp only [Bool.or_eq_false_iff, Bool.not_eq_false', decide_eq_false_iff_not, ne_eq, Decidable.not_not] at h
 exact h
theorem runA_take (m : Int) (l : List SP) (a : Acc) (xs : List SA) {k : Nat} (h : k < xs.length) : runA m l a (xs.take (k + 1)) = enterA (runA m l a (xs.take k)) xs[k].f2 xs[k].f3 (promI l xs[k].f1) m := by
 rw [List.take_succ_eq_append_getElem h]
 unfold runA
 rw [List.foldl_append]
 rfl
theorem runA_ok {n m : Int} {l : List SP} (hl : cvalidB n m l = true) : ∀ (xs : List SA) (a : Acc), a.Ok → (∀ x ∈ xs, strangeB n x = false) → (runA m l a xs).Ok
 | [], a, ha, _ => ha
 | x :: xs, a, ha, h => by
  unfold runA
  rw [List.foldl_cons]
  exact runA_ok hl xs _ (enter_ok ha (ans_ok (not_strange (h x (by simp))).1).2.2.1 (prom_ok hl _)) (fun y hy => h y (by simp [hy]))
theorem zero_ok : (⟨0, 0, 0, false⟩ : Acc).Ok := ⟨by decide, by decide, by decide⟩
end Go.Proofs.Ytjpghfjaloglhaa.PContract
namespace Go.Proofs.Ytjpghfjaloglhaa.PContract
set_option linter.unusedSimpArgs false
open Go.RowKit Go.Proofs.YtjpghfjaloglhaaW.PrintWords
theorem few_len' {k : Nat} {n m : Int} {l : List SP} (h : formeref38_Few.f k n m l = some true) : l.length < 50 := by
 unfold formeref38_Few.f at h
 obtain ⟨b, hb, he⟩ := Option.bind_eq_some_iff.mp h
 obtain rfl : b = true := by simpa using he
 exact few_len hb
theorem rin_f (n a b : Int) : formeref38_in.f n a b = some (decide (a ≤ n ∧ n ≤ b)) := by
 unfold formeref38_in.f
 by_cases c : a ≤ n <;> simp [c]
theorem rheight_f (a : Int) : formeref38_height.f a = some (decide (HOk a)) := by
 unfold formeref38_height.f HOk
 rw [rin_f]
 rfl
theorem rid_f (a : Int) : formeref38_id.f a = some (decide (1 ≤ a ∧ a ≤ 1000000)) := by
 unfold formeref38_id.f
 rw [rin_f]
 rfl
theorem rvalid38_l0 (l : List Int) (hl : l.length ≤ 1000000) : ∀ (d k i : Nat), i + d = l.length → d < k → formeref38_Valid.l0 k l (i : Int) = some (hgtsB (l.drop i))
 | 0, k, i, hd, hk => by
  obtain ⟨k, rfl⟩ : ∃ t, k = t + 1 := ⟨k - 1, by omega⟩
  rw [formeref38_Valid.l0, if_neg (by omega), List.drop_eq_nil_of_le (by omega)]
  rfl
 | d + 1, k, i, hd, hk => by
  obtain ⟨k, rfl⟩ : ∃ t, k = t + 1 := ⟨k - 1, by omega⟩
  have hi : i < l.length := by omega
  rw [formeref38_Valid.l0, if_pos (by omega), if_pos (by omega), rheight_f, rd_drop hi]
  simp only [Option.bind_some]
  unfold hgtsB
  rw [List.all_cons]
  by_cases c : HOk (rd l (i : Int))
  ·rw [decide_eq_true c, if_pos rfl, wrap_in (x := (i : Int) + 1) (by omega) (by omega)]
   have := rvalid38_l0 l hl d k (i + 1) (by omega) (by omega)
   rw [show ((i : Int) + 1) = ((i + 1 : Nat) : Int) by omega, this]
   rfl
  ·rw [decide_eq_false c, if_neg (by simp)]
   rfl
theorem rvalid38_f {k : Nat} (hk : 310000 ≤ k) (n m : Int) {l : List SP} (h : l.length < 50) : formeref38_Valid.f k n m l = some (cvalidB n m l) := by
 obtain ⟨K, rfl⟩ : ∃ t, k = t + 1 := ⟨k - 1, by omega⟩
 unfold formeref38_Valid.f
 rw [rid_f, rin_f, rvals_f (by omega) h]
 simp only [Option.bind_some]
 have hj : ∀ x, formeref38_Valid.j0 (K + 1) x true = some false := fun x => by rw [formeref38_Valid.j0, if_pos rfl]
 rw [hj]
 unfold cvalidB valuesOut
 by_cases c1 : 1 ≤ n ∧ n ≤ 1000000
 ·rw [decide_eq_true c1, if_pos rfl]
  by_cases c2 : 0 ≤ m ∧ m ≤ 100
  ·rw [decide_eq_true c2, if_pos rfl]
   cases hv : validB l with
   | false =>
    rw [if_neg (by simp)]
    exact hj _
   | true =>
    rw [if_pos rfl, formeref38_Valid.j0, if_neg (by simp)]
    have hg := (joined_facts (valid_joined hv)).2.2.1
    have := rvalid38_l0 (valsOf l) (by omega) (valsOf l).length K 0 (by omega) (by omega)
    rw [show ((0 : Nat) : Int) = 0 from rfl] at this
    rw [this]
    simp
  ·rw [decide_eq_false c2, if_neg (by simp)]
   simp
 ·rw [decide_eq_false c1, if_neg (by simp)]
  simp
theorem rpromised_f {k : Nat} (hk : 310000 ≤ k) {n m : Int} {l : List SP} (h : l.length < 50) (hv : validB l = true) (w : Int) : formeref38_promised.f k n m l w = some (promI l w) := by
 rw [← promised_f (n := n) (m := m) hv w]
 unfold formeref38_promised.f contract_promised.f curve_At.f
 rw [rat_f (by omega) h]
theorem rPromised_f {k : Nat} (hk : 320000 ≤ k) (n m : Int) {l : List SP} (h : l.length < 50) (w : Int) : formeref38_Promised.f k n m l w = contract_Promised.f n m l w := by
 unfold formeref38_Promised.f contract_Promised.f contract_Valid.f
 rw [rvalid38_f (by omega) n m h, rheight_f, isHeight_f]
 simp only [Option.bind_some]
 cases c1 : cvalidB n m l with
 | false => rfl
 | true =>
  rw [if_pos rfl, if_pos rfl, rpromised_f (by omega) h (cvalid_valid c1), promised_f (cvalid_valid c1)]
end Go.Proofs.Ytjpghfjaloglhaa.PContract
namespace Go.Proofs.Ytjpghfjaloglhaa.PContract
open Go.ChangeShapes Go.WideShapes Go.RowKit Go.Joins Go.Proofs.YtjpghfjaloglhaaW.PrintWords
def partWf (p : SP) : Prop := (Lit.int .i64 p.f0).wf = true ∧ (Lit.int .i64 p.f1).wf = true ∧ (Lit.int .i64 p.f2.f0).wf = true ∧ (Lit.int .i64 p.f2.f1).wf = true ∧ (Lit.int .i64 p.f2.f2).wf = true
section
variable {H : Type} {enc : TypeId × Value → H} {w : World} {base : Nat} {spare : Nat → Bool} {held : Bool}
theorem list3 {α : Type} {l : List α} (h : l.length = 3) : ∃ a b c, l = [a, b, c] := by
 match l, h with
 | [a, b, c], _ => exact ⟨a, b, c, rfl⟩
theorem list5 {α : Type} {l : List α} (h : l.length = 5) : ∃ a b c d e, l = [a, b, c, d, e] := by
 match l, h with
 | [a, b, c, d, e], _ => exact ⟨a, b, c, d, e, rfl⟩
theorem cellsPart : Try.prog.cellsOf 61 = 5 := by kernel_rfl
theorem cellsQuot : Try.prog.cellsOf 23 = 3 := by kernel_rfl
theorem cellsInt : Try.prog.cellsOf 3 = 1 := by kernel_rfl
theorem open_quot {n : Nat} {cs : List Value} {y : DataW H × List MemPlace} (h : DataW.trod enc Try.prog w base spare held n 23 cs = some y) : ∃ q : SQ, cs = [.int .i64 q.f0, .int .i64 q.f1, .int .i64 q.f2] ∧ (Lit.int .i64 q.f0).wf = true ∧ (Lit.int .i64 q.f1).wf = true ∧ (Lit.int .i64 q.f2).wf = true := by
 obtain ⟨xs, k, _, _, hlen, hxl, hf⟩ := DataW.trod_struct Try.underlying23 h
 rw [cellsQuot] at hlen
 replace hxl : xs.length = 3 := hxl
 obtain ⟨y0, y1, y2, rfl⟩ := list3 hxl
 obtain ⟨v0, v1, v2, rfl⟩ := list3 hlen
 have g0 : DataW.trod enc Try.prog w base spare held k 3 ((List.drop 0 [v0, v1, v2]).take (Try.prog.cellsOf 3)) = some y0 := hf 0 _ rfl
 have g1 : DataW.trod enc Try.prog w base spare held k 3 ((List.drop 1 [v0, v1, v2]).take (Try.prog.cellsOf 3)) = some y1 := hf 1 _ rfl
 have g2 : DataW.trod enc Try.prog w base spare held k 3 ((List.drop 2 [v0, v1, v2]).take (Try.prog.cellsOf 3)) = some y2 := hf 2 _ rfl
 rw [cellsInt] at g0 g1 g2
 obtain ⟨a0, e0, -, w0⟩ := DataW.trod_int Try.underlying3 g0
 obtain ⟨a1, e1, -, w1⟩ := DataW.trod_int Try.underlying3 g1
 obtain ⟨a2, e2, -, w2⟩ := DataW.trod_int Try.underlying3 g2
 simp at e0 e1 e2
 subst e0 e1 e2
 exact ⟨⟨a0, a1, a2⟩, rfl, w0, w1, w2⟩
theorem open_part {n : Nat} {cs : List Value} {y : DataW H × List MemPlace} (h : DataW.trod enc Try.prog w base spare held n 61 cs = some y) : ∃ p : SP, cs = [.int .i64 p.f0, .int .i64 p.f1, .int .i64 p.f2.f0, .int .i64 p.f2.f1, .int .i64 p.f2.f2] ∧ partWf p := by
 obtain ⟨xs, k, _, _, hlen, hxl, hf⟩ := DataW.trod_struct Try.underlying61 h
 rw [cellsPart] at hlen
 replace hxl : xs.length = 3 := hxl
 obtain ⟨y0, y1, y2, rfl⟩ := list3 hxl
 obtain ⟨v0, v1, v2, v3, v4, rfl⟩ := list5 hlen
 have g0 : DataW.trod enc Try.prog w base spare held k 3 ((List.drop 0 [v0, v1, v2, v3, v4]).take (Try.prog.cellsOf 3)) = some y0 := hf 0 _ rfl
 have g1 : DataW.trod enc Try.prog w base spare held k 3 ((List.drop 1 [v0, v1, v2, v3, v4]).take (Try.prog.cellsOf 3)) = some y1 := hf 1 _ rfl
 have g2 : DataW.trod enc Try.prog w base spare held k 23 ((List.drop 2 [v0, v1, v2, v3, v4]).take (Try.prog.cellsOf 23)) = some y2 := hf 2 _ rfl
 rw [cellsInt] at g0 g1
 rw [cellsQuot] at g2
 obtain ⟨a0, e0, -, w0⟩ := DataW.trod_int Try.underlying3 g0
 obtain ⟨a1, e1, -, w1⟩ := DataW.trod_int Try.underlying3 g1
 obtain ⟨q, e2, w2, w3, w4⟩ := open_quot g2
 simp at e0 e1 e2
 obtain ⟨rfl, rfl, rfl⟩ := e2
 subst e0 e1
 exact ⟨⟨a0, a1, q⟩, rfl, w0, w1, w2, w3, w4⟩
theorem open_parts {A : Option Addr} {len cap : Nat} {d : DataW H} {ps : List MemPlace} (h : DataW.Trod enc Try.prog w base spare held 51 (.slice A len cap) d ps) : ∃ l : List SP, len = l.length ∧ Kd.C k61 w A l.length l ∧ l.length ≤ cap ∧ ∀ p ∈ l, partWf p := by
 obtain ⟨fuel, hf⟩ := h
 rcases Deep.open_slice Try.underlying51 hf with ⟨hcs, -⟩ | ⟨a, len', cap', m, n, D, Pl, hcs, -, hl, hm, hmm, -, hx⟩
 ·simp [Value.cells] at hcs
  obtain ⟨rfl, rfl, rfl⟩ := hcs
  exact ⟨[], rfl, ⟨rfl, by simp, fun h => absurd h (by simp)⟩, by simp, by simp⟩
 ·simp [Value.cells] at hcs
  obtain ⟨rfl, rfl, rfl⟩ := hcs
  have hlm : len ≤ m := by rw [hmm]; split <;> omega
  have each : ∀ i, i < len → ∃ p : SP, (∀ j u, [Value.int .i64 p.f0, .int .i64 p.f1, .int .i64 p.f2.f0, .int .i64 p.f2.f1, .int .i64 p.f2.f2][j]? = some u → w.cell? (a.add (i * 5 + j)) = some u) ∧ partWf p := by
   intro i hi
   obtain ⟨cs', h1, h2⟩ := hx i (by omega)
   rw [cellsPart] at h1
   obtain ⟨_, hlen, hcell⟩ := World.cells?_some h1
   obtain ⟨p, rfl, hp⟩ := open_part h2
   refine ⟨p, fun j u hu => ?_, hp⟩
   have hj : j < 5 := by
    obtain ⟨h, -⟩ := List.getElem?_eq_some_iff.1 hu
    simpa using h
   have := hcell j hj
   rw [Deep.add_add] at this
   rw [this, hu]
  have hne : Nonempty SP := ⟨z61⟩
  let f : Nat → SP := fun i => if hi : i < len then Classical.choose (each i hi) else z61
  have hfs : ∀ i, i < len → (∀ j u, [Value.int .i64 (f i).f0, .int .i64 (f i).f1, .int .i64 (f i).f2.f0, .int .i64 (f i).f2.f1, .int .i64 (f i).f2.f2][j]? = some u → w.cell? (a.add (i * 5 + j)) = some u) ∧ partWf (f i) := fun i hi => by
   have := Classical.choose_spec (each i hi)
   simp only [f, dif_pos hi]
   exact this
  have hmax : maxLen = 9223372036854775807 := rfl
  refine ⟨(List.range len).map f, by simp, ⟨rfl, by simp; omega, fun _ => ⟨a, rfl, fun j p hj => ?_⟩⟩, by simp; omega, fun p hp => ?_⟩
  ·obtain ⟨h1, h2⟩ := List.getElem?_eq_some_iff.1 hj
   have hjl : j < len := by simpa using h1
   have hp : f j = p := by simpa using h2
   subst hp
   exact ⟨_, rfl, k61_mk w (f j), (hfs j hjl).1⟩
  ·obtain ⟨i, hi, rfl⟩ := List.mem_map.1 hp
   exact (hfs i (List.mem_range.1 hi)).2
end
end Go.Proofs.Ytjpghfjaloglhaa.PContract
namespace Go.Proofs.Ytjpghfjaloglhaa.PContract
open Go.ChangeShapes Go.WideShapes Go.RowKit Go.Joins Go.Proofs.YtjpghfjaloglhaaW.PrintWords
section
variable {H : Type} {enc : TypeId × Value → H} {w : World} {base : Nat} {spare : Nat → Bool} {held : Bool}
theorem list4 {α : Type} {l : List α} (h : l.length = 4) : ∃ a b c d, l = [a, b, c, d] := by
 match l, h with
 | [a, b, c, d], _ => exact ⟨a, b, c, d, rfl⟩
theorem cellsContract : Try.prog.cellsOf 69 = 3 := by kernel_rfl
theorem cellsAccount : Try.prog.cellsOf 71 = 5 := by kernel_rfl
theorem cellsAnswer : Try.prog.cellsOf 78 = 4 := by kernel_rfl
theorem cellsBool : Try.prog.cellsOf 4 = 1 := by kernel_rfl
theorem open_parts_cell {n : Nat} {v : Value} {y : DataW H × List MemPlace} (h : DataW.trod enc Try.prog w base spare held n 51 [v] = some y) : ∃ (A : Option Addr) (c : Nat) (l : List S61), v = .slice A l.length c ∧ Kd.C k61 w A l.length l ∧ l.length ≤ c ∧ ∀ p ∈ l, partWf p := by
 rcases Deep.open_slice Try.underlying51 h with ⟨hcs, -⟩ | ⟨a, len', cap', m, n, D, Pl, hcs, -⟩
 ·simp at hcs
  subst hcs
  exact ⟨none, 0, [], rfl, ⟨rfl, by simp, fun h => absurd h (by simp)⟩, by simp, by simp⟩
 ·simp at hcs
  subst hcs
  obtain ⟨l, rfl, h1, h2, h3⟩ := open_parts (d := y.1) (ps := y.2) ⟨_, h⟩
  exact ⟨_, _, l, rfl, h1, h2, h3⟩
set_option maxRecDepth 100000 in
theorem open_contract {r : Reach} {b0 : Nat} {v : Value} {d : DataW H} {p : List MemPlace} (hv : Value.okWide Try.prog w r b0 69 v) (h : DataW.Trod enc Try.prog w base spare held 69 v d p) :
  ∃ (n m : Int) (A : Option Addr) (c : Nat) (l : List S61), v = .agg #[.int .i64 n, .int .i64 m, .slice A l.length c] ∧ Kd.C k61 w A l.length l ∧ l.length ≤ c := by
 obtain ⟨c0, c1, c2, y0, y1, y2, k, rfl, -, -, h0, h1, h2⟩ := open_agg3 Try.underlying69 (by kernel_rfl) cellsContract hv h
 obtain ⟨a0, e0, -, -⟩ := DataW.trod_int Try.underlying3 h0
 obtain ⟨a1, e1, -, -⟩ := DataW.trod_int Try.underlying3 h1
 obtain ⟨A, c, l, rfl, g1, g2, -⟩ := open_parts_cell h2
 simp at e0 e1
 subst e0 e1
 exact ⟨a0, a1, A, c, l, rfl, g1, g2⟩
set_option maxRecDepth 100000 in
theorem open_account {r : Reach} {b0 : Nat} {v : Value} {d : DataW H} {p : List MemPlace} (hv : Value.okWide Try.prog w r b0 71 v) (h : DataW.Trod enc Try.prog w base spare held 71 v d p) :
  ∃ (n ch cg la : Int) (fr : Bool), v = .agg #[.int .i64 n, .int .i64 ch, .int .i64 cg, .int .i64 la, .bool fr] := by
 obtain ⟨cs, rfl, hsz⟩ := okWide_struct Try.underlying71 hv
 obtain ⟨fuel, hf⟩ := h
 obtain ⟨xs, k, _, _, hlen, hxl, hf⟩ := DataW.trod_struct Try.underlying71 hf
 replace hxl : xs.length = 5 := hxl
 obtain ⟨y0, y1, y2, y3, y4, rfl⟩ := list5 hxl
 rw [cellsAccount] at hsz
 obtain ⟨l, hl⟩ : ∃ l, cs = l.toArray := ⟨cs.toList, by simp⟩
 subst hl
 obtain ⟨v0, v1, v2, v3, v4, rfl⟩ := list5 (l := l) (by simpa using hsz)
 have g0 : DataW.trod enc Try.prog w base spare held k 3 ((List.drop 0 [v0, v1, v2, v3, v4]).take (Try.prog.cellsOf 3)) = some y0 := hf 0 _ rfl
 have g1 : DataW.trod enc Try.prog w base spare held k 3 ((List.drop 1 [v0, v1, v2, v3, v4]).take (Try.prog.cellsOf 3)) = some y1 := hf 1 _ rfl
 have g2 : DataW.trod enc Try.prog w base spare held k 3 ((List.drop 2 [v0, v1, v2, v3, v4]).take (Try.prog.cellsOf 3)) = some y2 := hf 2 _ rfl
 have g3 : DataW.trod enc Try.prog w base spare held k 3 ((List.drop 3 [v0, v1, v2, v3, v4]).take (Try.prog.cellsOf 3)) = some y3 := hf 3 _ rfl
 have g4 : DataW.trod enc Try.prog w base spare held k 4 ((List.drop 4 [v0, v1, v2, v3, v4]).take (Try.prog.cellsOf 4)) = some y4 := hf 4 _ rfl
 rw [cellsInt] at g0 g1 g2 g3
 rw [cellsBool] at g4
 obtain ⟨a0, e0, -, -⟩ := DataW.trod_int Try.underlying3 g0
 obtain ⟨a1, e1, -, -⟩ := DataW.trod_int Try.underlying3 g1
 obtain ⟨a2, e2, -, -⟩ := DataW.trod_int Try.underlying3 g2
 obtain ⟨a3, e3, -, -⟩ := DataW.trod_int Try.underlying3 g3
 obtain ⟨a4, e4, -⟩ := DataW.trod_bool Try.underlying4 g4
 simp at e0 e1 e2 e3 e4
 subst e0 e1 e2 e3 e4
 exact ⟨_, _, _, _, _, rfl⟩
theorem open_answer_cells {n : Nat} {cs : List Value} {y : DataW H × List MemPlace} (h : DataW.trod enc Try.prog w base spare held n 78 cs = some y) : ∃ p : S78, cs = [.int .i64 p.f0, .int .i64 p.f1, .int .i64 p.f2, .int .i64 p.f3] := by
 obtain ⟨xs, k, _, _, hlen, hxl, hf⟩ := DataW.trod_struct Try.underlying78 h
 rw [cellsAnswer] at hlen
 replace hxl : xs.length = 4 := hxl
 obtain ⟨y0, y1, y2, y3, rfl⟩ := list4 hxl
 obtain ⟨v0, v1, v2, v3, rfl⟩ := list4 hlen
 have g0 : DataW.trod enc Try.prog w base spare held k 3 ((List.drop 0 [v0, v1, v2, v3]).take (Try.prog.cellsOf 3)) = some y0 := hf 0 _ rfl
 have g1 : DataW.trod enc Try.prog w base spare held k 3 ((List.drop 1 [v0, v1, v2, v3]).take (Try.prog.cellsOf 3)) = some y1 := hf 1 _ rfl
 have g2 : DataW.trod enc Try.prog w base spare held k 3 ((List.drop 2 [v0, v1, v2, v3]).take (Try.prog.cellsOf 3)) = some y2 := hf 2 _ rfl
 have g3 : DataW.trod enc Try.prog w base spare held k 3 ((List.drop 3 [v0, v1, v2, v3]).take (Try.prog.cellsOf 3)) = some y3 := hf 3 _ rfl
 rw [cellsInt] at g0 g1 g2 g3
 obtain ⟨a0, e0, -, -⟩ := DataW.trod_int Try.underlying3 g0
 obtain ⟨a1, e1, -, -⟩ := DataW.trod_int Try.underlying3 g1
 obtain ⟨a2, e2, -, -⟩ := DataW.trod_int Try.underlying3 g2
 obtain ⟨a3, e3, -, -⟩ := DataW.trod_int Try.underlying3 g3
 simp at e0 e1 e2 e3
 subst e0 e1 e2 e3
 exact ⟨⟨a0, a1, a2, a3⟩, rfl⟩
theorem open_answers {A : Option Addr} {len cap : Nat} {d : DataW H} {ps : List MemPlace} (h : DataW.Trod enc Try.prog w base spare held 72 (.slice A len cap) d ps) : ∃ l : List S78, len = l.length ∧ Kd.C k78 w A l.length l ∧ l.length ≤ cap := by
 obtain ⟨fuel, hf⟩ := h
 rcases Deep.open_slice Try.underlying72 hf with ⟨hcs, -⟩ | ⟨a, len', cap', m, n, D, Pl, hcs, -, hl, hm, hmm, -, hx⟩
 ·simp [Value.cells] at hcs
  obtain ⟨rfl, rfl, rfl⟩ := hcs
  exact ⟨[], rfl, ⟨rfl, by simp, fun h => absurd h (by simp)⟩, by simp⟩
 ·simp [Value.cells] at hcs
  obtain ⟨rfl, rfl, rfl⟩ := hcs
  have hlm : len ≤ m := by rw [hmm]; split <;> omega
  have each : ∀ i, i < len → ∃ p : S78, ∀ j u, [Value.int .i64 p.f0, .int .i64 p.f1, .int .i64 p.f2, .int .i64 p.f3][j]? = some u → w.cell? (a.add (i * 4 + j)) = some u := by
   intro i hi
   obtain ⟨cs', h1, h2⟩ := hx i (by omega)
   rw [cellsAnswer] at h1
   obtain ⟨_, hlen, hcell⟩ := World.cells?_some h1
   obtain ⟨p, rfl⟩ := open_answer_cells h2
   refine ⟨p, fun j u hu => ?_⟩
   have hj : j < 4 := by
    obtain ⟨h, -⟩ := List.getElem?_eq_some_iff.1 hu
    simpa using h
   have := hcell j hj
   rw [Deep.add_add] at this
   rw [this, hu]
  have hne : Nonempty S78 := ⟨z78⟩
  let f : Nat → S78 := fun i => if hi : i < len then Classical.choose (each i hi) else z78
  have hfs : ∀ i, i < len → ∀ j u, [Value.int .i64 (f i).f0, .int .i64 (f i).f1, .int .i64 (f i).f2, .int .i64 (f i).f3][j]? = some u → w.cell? (a.add (i * 4 + j)) = some u := fun i hi => by
   have := Classical.choose_spec (each i hi)
   simp only [f, dif_pos hi]
   exact this
  have hmax : maxLen = 9223372036854775807 := rfl
  refine ⟨(List.range len).map f, by simp, ⟨rfl, by simp; omega, fun _ => ⟨a, rfl, fun j p hj => ?_⟩⟩, by simp; omega⟩
  obtain ⟨h1, h2⟩ := List.getElem?_eq_some_iff.1 hj
  have hjl : j < len := by simpa using h1
  have hp : f j = p := by simpa using h2
  subst hp
  exact ⟨_, rfl, k78_mk w (f j), hfs j hjl⟩
end
end Go.Proofs.Ytjpghfjaloglhaa.PContract
namespace Go.Proofs.Ytjpghfjaloglhaa.PContract
set_option linter.unusedSimpArgs false
open Go.RowKit Go.Proofs.YtjpghfjaloglhaaW.PrintWords
theorem rmore_f {n : Int} (h1 : 0 ≤ n) (h2 : n ≤ 1000000000) : formeref38_more.f n = some (moreI n) := by
 unfold formeref38_more.f moreI
 rw [wrap_in (x := n + 1) (by omega) (by omega), mn_min]
 split <;> congr 1 <;> omega
theorem raccount_f (n : Int) (a : Acc) : formeref38_Account.f n a.ch a.cg a.la a.fr = some (accB n a) := by
 unfold formeref38_Account.f accB
 rw [rid_f, rin_f, rin_f, rin_f]
 simp only [Option.bind_some]
 by_cases c1 : 1 ≤ n ∧ n ≤ 1000000
 ·rw [decide_eq_true c1, if_pos rfl]
  by_cases c2 : 0 ≤ a.ch ∧ a.ch ≤ 1000000000
  ·rw [decide_eq_true c2, if_pos rfl]
   by_cases c3 : 0 ≤ a.cg ∧ a.cg ≤ 1000000000
   ·rw [decide_eq_true c3, if_pos rfl]
    congr 1
    simp only [Bool.true_and]
    refine decide_eq_decide.2 ⟨fun h => ⟨c2, c3, h⟩, fun h => h.2.2⟩
   ·rw [decide_eq_false c3, if_neg (by simp), decide_eq_false (fun h => c3 h.2.1)]
    rfl
  ·rw [decide_eq_false c2, if_neg (by simp), decide_eq_false (fun h => c2 h.1)]
   rfl
 ·rw [decide_eq_false c1, if_neg (by simp)]
  rfl
theorem ranswer_f (n w k h : Int) : formeref38_Answer.f n w k h = some (ansB n w k h) := by
 unfold formeref38_Answer.f ansB
 rw [rid_f, rheight_f, rin_f, rheight_f]
 simp only [Option.bind_some]
 by_cases c1 : 1 ≤ n ∧ n ≤ 1000000
 ·rw [decide_eq_true c1, if_pos rfl]
  by_cases c2 : HOk w
  ·rw [decide_eq_true c2, if_pos rfl]
   by_cases c3 : 1 ≤ k ∧ k ≤ 3
   ·rw [decide_eq_true c3, if_pos rfl]
    by_cases c5 : HOk h
    ·rw [decide_eq_true c5, if_pos rfl]
     by_cases c4 : k = 1
     ·rw [if_pos c4, if_pos c4]
      rfl
     ·rw [if_neg c4, if_neg c4, if_pos (show k = 2 ∨ k = 3 by omega)]
      rfl
    ·rw [decide_eq_false c5, if_neg (by simp)]
     by_cases c4 : k = 1
     ·rw [if_pos c4]
      rfl
     ·have hz : h ≠ 0 := fun e => c5 (by rw [e]; exact ⟨by omega, by omega⟩)
      rw [if_neg c4, if_pos (show k = 2 ∨ k = 3 by omega), decide_eq_false hz]
      rfl
   ·rw [decide_eq_false c3, if_neg (by simp), if_neg (show ¬ k = 1 by omega), if_neg (show ¬ (k = 2 ∨ k = 3) by omega)]
    rfl
  ·rw [decide_eq_false c2, if_neg (by simp)]
   rfl
 ·rw [decide_eq_false c1, if_neg (by simp)]
  rfl
theorem rjudge_f {k : Nat} (hk : 320000 ≤ k) {n m : Int} {l : List SP} (h : l.length < 50) (hv : cvalidB n m l = true) (an : Int) (a : Acc) (ha : a.Ok) (xn xw xk xh : Int) (hx : HOk xh) :
  formeref38_judge.f k n m l an a.ch a.cg a.la a.fr xn xw xk xh = some (an, (enterA a xk xh (promI l xw) m).ch, (enterA a xk xh (promI l xw) m).cg, (enterA a xk xh (promI l xw) m).la, (enterA a xk xh (promI l xw) m).fr) := by
 obtain ⟨ch, cg, la, fr⟩ := a
 obtain ⟨⟨a1, a2⟩, ⟨a3, a4⟩, a5, a6⟩ := ha
 simp only at a1 a2 a3 a4 a5 a6
 have hp := prom_ok hv xw
 obtain ⟨b1, b2⟩ := hx
 obtain ⟨b3, b4⟩ := hp
 obtain ⟨K, rfl⟩ : ∃ t, k = t + 1 := ⟨k - 1, by omega⟩
 unfold formeref38_judge.f
 simp only
 cases fr with
 | true =>
  have e : enterA ⟨ch, cg, la, true⟩ xk xh (promI l xw) m = ⟨ch, cg, la, true⟩ := by
   unfold enterA
   rw [if_pos rfl]
  rw [e, if_pos rfl]
 | false =>
  have en : enterA ⟨ch, cg, la, false⟩ xk xh (promI l xw) m = if xk = 1 then
    if xh - promI l xw = la then (if xh - promI l xw = 0 then ⟨ch, cg, la, decide (m < cg)⟩ else ⟨moreI ch, cg, la, decide (m < cg)⟩)
    else (if xh - promI l xw = 0 then ⟨ch, moreI cg, xh - promI l xw, decide (m < moreI cg)⟩ else ⟨moreI ch, moreI cg, xh - promI l xw, decide (m < moreI cg)⟩)
   else if xk = 2 then ⟨moreI ch, cg, la, decide (m < cg)⟩ else ⟨ch, cg, la, decide (m < cg)⟩ := by
   unfold enterA
   simp only [Bool.false_eq_true, if_false]
  have fin : ∀ b : Acc, enterA ⟨ch, cg, la, false⟩ xk xh (promI l xw) m = b → ∀ q : Option (Int × Int × Int × Int × Bool), q = some (an, b.ch, b.cg, b.la, b.fr) → q = some (an, (enterA ⟨ch, cg, la, false⟩ xk xh (promI l xw) m).ch, (enterA ⟨ch, cg, la, false⟩ xk xh (promI l xw) m).cg, (enterA ⟨ch, cg, la, false⟩ xk xh (promI l xw) m).la, (enterA ⟨ch, cg, la, false⟩ xk xh (promI l xw) m).fr) := fun b hb q hq => by
   rw [hb]
   exact hq
  rw [if_neg (by simp)]
  by_cases c1 : xk = 2
  ·refine fin ⟨moreI ch, cg, la, decide (m < cg)⟩ (by rw [en, if_neg (show ¬ xk = 1 by omega), if_pos c1]) _ ?_
   rw [if_pos c1, rmore_f a1 a2]
   simp only [Option.bind_some]
   rw [formeref38_judge.j0, if_neg (show ¬ xk = 1 by omega)]
   all_goals rfl
  ·rw [if_neg c1, formeref38_judge.j0]
   by_cases c2 : xk = 1
   ·rw [if_pos c2, rpromised_f (by omega) h (cvalid_valid hv)]
    simp only [Option.bind_some]
    rw [wrap_in (x := xh - promI l xw) (by omega) (by omega), rmore_f a1 a2, rmore_f a3 a4]
    simp only [Option.bind_some]
    by_cases c3 : xh - promI l xw = 0
    ·rw [if_pos c3]
     by_cases c4 : xh - promI l xw = la
     ·refine fin ⟨ch, cg, la, decide (m < cg)⟩ (by rw [en, if_pos c2, if_pos c4, if_pos c3]) _ ?_
      rw [if_pos c4]
      all_goals rfl
     ·refine fin ⟨ch, moreI cg, xh - promI l xw, decide (m < moreI cg)⟩ (by rw [en, if_pos c2, if_neg c4, if_pos c3]) _ ?_
      rw [if_neg c4]
      all_goals rfl
    ·rw [if_neg c3]
     by_cases c4 : xh - promI l xw = la
     ·refine fin ⟨moreI ch, cg, la, decide (m < cg)⟩ (by rw [en, if_pos c2, if_pos c4, if_neg c3]) _ ?_
      rw [if_pos c4]
      all_goals rfl
     ·refine fin ⟨moreI ch, moreI cg, xh - promI l xw, decide (m < moreI cg)⟩ (by rw [en, if_pos c2, if_neg c4, if_neg c3]) _ ?_
      rw [if_neg c4]
      all_goals rfl
   ·refine fin ⟨ch, cg, la, decide (m < cg)⟩ (by rw [en, if_neg c2, if_neg c1]) _ ?_
    rw [if_neg c2]
    all_goals rfl
theorem rJudge_f {k : Nat} (hk : 330000 ≤ k) (n m : Int) {l : List SP} (h : l.length < 50) (an ch cg la : Int) (fr : Bool) (xn xw xk xh : Int) :
  formeref38_Judge.f k n m l an ch cg la fr xn xw xk xh = contract_Judge.f n m l an ch cg la fr xn xw xk xh := by
 obtain ⟨K, rfl⟩ : ∃ t, k = t + 1 := ⟨k - 1, by omega⟩
 have hno : formeref38_Judge.j0 (K + 1) true n m l an ch cg la fr xn xw xk xh = some (0, 0, 0, 0, false, 0, false, 1) := by rw [formeref38_Judge.j0, if_pos rfl]
 have hacc := raccount_f an ⟨ch, cg, la, fr⟩
 simp only at hacc
 unfold formeref38_Judge.f
 rw [rvalid38_f (by omega) n m h, hacc, ranswer_f]
 simp only [Option.bind_some]
 rw [hno]
 rcases judge_cases n m l an ch cg la fr xn xw xk xh with e | ⟨h1, h2, h3, h4, h5, e⟩
 ·rw [e]
  by_cases c1 : cvalidB n m l = true
  ·by_cases c2 : accB an ⟨ch, cg, la, fr⟩ = true
   ·by_cases c3 : ansB xn xw xk xh = true
    ·by_cases c4 : an = n
     ·by_cases c5 : xn = n
      ·unfold contract_Judge.f judgeOut at e
       rw [if_pos ⟨c1, c2, c3, c4, c5⟩] at e
       simp at e
      ·rw [if_pos c1, if_pos c2, if_pos c3, if_pos c4, show (xn != n) = true by simpa using c5, hno]
     ·rw [if_pos c1, if_pos c2, if_pos c3, if_neg c4]
    ·rw [if_pos c1, if_pos c2, if_neg c3]
   ·rw [if_pos c1, if_neg c2]
  ·rw [if_neg c1]
 ·have hok : (Acc.mk ch cg la fr).Ok := by
   unfold accB at h2
   simp only [Bool.and_eq_true, decide_eq_true_eq] at h2
   exact h2.2
  obtain ⟨g1, g2, g3, g4⟩ := ans_ok h3
  have hj := rjudge_f (k := K) (by omega) h h1 an ⟨ch, cg, la, fr⟩ hok xn xw xk xh g3
  simp only at hj
  have hp := prom_ok h1 xw
  have hp1 := hp.1
  rw [if_pos h1, if_pos h2, if_pos h3, if_pos h4, show (xn != n) = false by simpa using h5, formeref38_Judge.j0, if_neg (by simp), rpromised_f (by omega) h (cvalid_valid h1)]
  simp only [Option.bind_some]
  rw [hj, e]
  simp only [Option.bind_some]
  by_cases c : xk = 1
  ·rw [if_pos c, h4]
   all_goals rfl
  ·have hz : xh = 0 := (g4.resolve_left c).2
   rw [if_neg c, h4, decide_eq_false (p := promI l xw < xh) (by omega)]
theorem rcourse_l0 {n m : Int} {l : List SP} (h : l.length < 50) (hv : cvalidB n m l = true) {xs : List SA} (hlen : xs.length ≤ 500) : ∀ (d k i : Nat), i + d = xs.length → 330000 + 2 * d + 2 ≤ k → (∀ x ∈ xs.take i, strangeB n x = false) →
  formeref38_Course.l0 k xs ((xs.take i).map fun x => promI l x.f1) (i : Int) n m l n (runA m l ⟨0, 0, 0, false⟩ (xs.take i)).ch (runA m l ⟨0, 0, 0, false⟩ (xs.take i)).cg (runA m l ⟨0, 0, 0, false⟩ (xs.take i)).la (runA m l ⟨0, 0, 0, false⟩ (xs.take i)).fr =
   some (if (xs.drop i).any (strangeB n) = true then (0, 0, 0, 0, false, [], 1) else (n, (runA m l ⟨0, 0, 0, false⟩ xs).ch, (runA m l ⟨0, 0, 0, false⟩ xs).cg, (runA m l ⟨0, 0, 0, false⟩ xs).la, (runA m l ⟨0, 0, 0, false⟩ xs).fr, xs.map (fun x => promI l x.f1), 0))
 | 0, k, i, hd, hk, hpre => by
  obtain ⟨k, rfl⟩ : ∃ t, k = t + 1 := ⟨k - 1, by omega⟩
  rw [formeref38_Course.l0, if_neg (by omega), List.drop_eq_nil_of_le (by omega), List.take_of_length_le (by omega)]
  all_goals rfl
 | d + 1, k, i, hd, hk, hpre => by
  obtain ⟨k, rfl⟩ : ∃ t, k = t + 2 := ⟨k - 2, by omega⟩
  have hi : i < xs.length := by omega
  rw [formeref38_Course.l0, if_pos (by omega), if_pos (by omega), rdA_get hi, ranswer_f, List.drop_eq_getElem_cons hi, List.any_cons]
  simp only [Option.bind_some]
  have hbad : ∀ x y z v fr, formeref38_Course.j1 (k + 1) xs ((xs.take i).map fun x => promI l x.f1) (i : Int) true n m l x y z v fr = some (0, 0, 0, 0, false, [], 1) := fun x y z v fr => by rw [formeref38_Course.j1, if_pos rfl]
  cases c : ansB xs[i].f0 xs[i].f1 xs[i].f2 xs[i].f3 with
  | false =>
   have hst : strangeB n xs[i] = true := by unfold strangeB; rw [c]; rfl
   rw [if_neg (by simp), hbad, hst]
   all_goals rfl
  | true =>
   rw [if_pos rfl]
   by_cases e : xs[i].f0 = n
   ·have hst : strangeB n xs[i] = false := by unfold strangeB; rw [c]; simp [e]
    have hok := runA_ok hv (xs.take i) _ zero_ok hpre
    have hj := rjudge_f (k := k) (by omega) h hv n (runA m l ⟨0, 0, 0, false⟩ (xs.take i)) hok xs[i].f0 xs[i].f1 xs[i].f2 xs[i].f3 (ans_ok c).2.2.1
    rw [show (xs[i].f0 != n) = false by simpa using e, formeref38_Course.j1, if_neg (by simp), if_pos (by omega), if_pos (by omega), rdA_get hi, hj]
    simp only [Option.bind_some]
    rw [rpromised_f (by omega) h (cvalid_valid hv)]
    simp only [Option.bind_some]
    rw [if_pos (by rw [List.length_map, List.length_take]; omega), wrap_in (x := (i : Int) + 1) (by omega) (by omega), show (i : Int) + 1 = ((i + 1 : Nat) : Int) by omega, hst]
    have ih := rcourse_l0 h hv hlen d k (i + 1) (by omega) (by omega) (fun x hx => by
     rw [List.take_succ_eq_append_getElem hi] at hx
     rcases List.mem_append.1 hx with hx | hx
     ·exact hpre x hx
     ·obtain rfl : x = xs[i] := by simpa using hx
      exact hst)
    rw [runA_take m l _ xs hi, List.take_succ_eq_append_getElem hi, List.map_append] at ih
    rw [Bool.false_or]
    exact ih
   ·have hst : strangeB n xs[i] = true := by unfold strangeB; rw [c]; simp [e]
    rw [show (xs[i].f0 != n) = true by simpa using e, hbad, hst]
    all_goals rfl
theorem rCourse_f {k : Nat} (hk : 340000 ≤ k) (n m : Int) {l : List SP} (h : l.length < 50) (xs : List SA) : formeref38_Course.f k n m l xs = contract_Course.f n m l xs := by
 unfold formeref38_Course.f contract_Course.f courseOut
 rw [rvalid38_f (by omega) n m h]
 simp only [Option.bind_some]
 cases hv : cvalidB n m l with
 | false => rfl
 | true =>
  rw [if_pos rfl, if_neg (show ¬ (true = false) by simp)]
  by_cases c : xs.length > 500
  ·rw [if_pos (by omega), if_pos c]
  ·rw [if_neg (by omega), if_neg c]
   have := rcourse_l0 h hv (xs := xs) (by omega) xs.length k 0 (by omega) (by omega) (by simp)
   rw [List.take_zero, List.drop_zero] at this
   rw [show (([] : List SA).map fun x => promI l x.f1) = [] from rfl, show ((0 : Nat) : Int) = 0 from rfl] at this
   have e : formeref38_Course.l0 k xs [] 0 n m l n 0 0 0 false = _ := this
   rw [e]
   cases xs.any (strangeB n) <;> rfl
end Go.Proofs.Ytjpghfjaloglhaa.PContract
namespace Go.Proofs.Ytjpghfjaloglhaa.PContract
set_option linter.unusedSimpArgs false
open Go.RowKit Go.Proofs.YtjpghfjaloglhaaW.PrintWords
theorem matches_j1 {K : Nat} (hK : 350000 ≤ K) {n m : Int} {l : List SP} (h : l.length < 50) (xs : List SA) (an ch cg la : Int) (fr : Bool) :
  formelaw38_ContractMatchesReference.j1 (K + 1) xs true n m l an ch cg la fr = some true := by
 have hs : ∀ hs : List Int, hs.length ≤ 500 → formeref02_SameInts.f K hs hs = some true := fun hs h => by rw [sameInts_f (by omega) (by omega)]; simp
 have hcl : ∀ r1 r2 r3 r4 r5 hs r7, contract_Course.f n m l xs = some (r1, r2, r3, r4, r5, hs, r7) → hs.length ≤ 500 := fun r1 r2 r3 r4 r5 hs r7 e => by
  rcases course_cases n m l xs with c | c | ⟨-, hl, -, c⟩
  ·rw [c] at e
   obtain ⟨-, -, -, -, -, rfl, -⟩ := by simpa using e
   simp
  ·rw [c] at e
   obtain ⟨-, -, -, -, -, rfl, -⟩ := by simpa using e
   simp
  ·rw [c] at e
   simp only [Option.some.injEq, Prod.mk.injEq] at e
   obtain ⟨-, -, -, -, -, rfl, -⟩ := e
   rw [List.length_map]
   exact hl
 obtain ⟨⟨c1, c2, c3, c4, c5, c6, c7⟩, hc⟩ : ∃ r, contract_Course.f n m l xs = some r := ⟨_, rfl⟩
 have h6 := hs c6 (hcl _ _ _ _ _ _ _ hc)
 rw [formelaw38_ContractMatchesReference.j1]
 by_cases c : (xs.length : Int) > 0
 ·obtain ⟨⟨d1, d2, d3, d4, d5, d6, d7, d8⟩, hd⟩ : ∃ r, contract_Judge.f n m l an ch cg la fr (rd_T78 xs 0).f0 (rd_T78 xs 0).f1 (rd_T78 xs 0).f2 (rd_T78 xs 0).f3 = some r := ⟨_, rfl⟩
  rw [if_pos c, if_pos (by omega), rJudge_f (by omega) n m h, hd, rCourse_f (by omega) n m h, hc]
  simp only [Option.bind_some, beq_self_eq_true, Bool.and_self, if_true]
  rw [h6]
  simp
 ·rw [if_neg c, rCourse_f (by omega) n m h, hc]
  simp only [Option.bind_some, beq_self_eq_true, Bool.and_self, if_true]
  rw [h6]
  simp
theorem matches_true {K : Nat} (hK : 400000 ≤ K) (a0_0 a0_1 : Int) (l0_2 : List SP) (a1_0 a1_1 a1_2 a1_3 : Int) (a1_4 : Bool) (l2 : List SA) (a3 : Int) : formelaw38_ContractMatchesReference.f (K + 2) a0_0 a0_1 l0_2 a1_0 a1_1 a1_2 a1_3 a1_4 l2 a3 = some true := by
 obtain ⟨b, hb⟩ := few38 (k := K + 2) (by omega) a0_0 a0_1 l0_2
 have hj : formelaw38_ContractMatchesReference.j0 (K + 2) l2 a3 true true a0_0 a0_1 l0_2 a1_0 a1_1 a1_2 a1_3 a1_4 = some true := by
  rw [formelaw38_ContractMatchesReference.j0, if_pos rfl]
 have hgo : l0_2.length < 50 → formelaw38_ContractMatchesReference.j0 (K + 2) l2 a3 true false a0_0 a0_1 l0_2 a1_0 a1_1 a1_2 a1_3 a1_4 = some true := fun h => by
  obtain ⟨⟨p1, p2⟩, hp⟩ : ∃ r, contract_Promised.f a0_0 a0_1 l0_2 a3 = some r := by
   rcases promised_cases a0_0 a0_1 l0_2 a3 with ⟨_, e⟩ | ⟨_, _, e⟩ <;> exact ⟨_, e⟩
  rw [formelaw38_ContractMatchesReference.j0, if_neg (by simp), rPromised_f (by omega) a0_0 a0_1 h, hp, rvalid38_f (by omega) a0_0 a0_1 h]
  unfold contract_Valid.f
  simp only [Option.bind_some, beq_self_eq_true, if_true]
  exact matches_j1 (K := K) (by omega) h l2 _ _ _ _ _
 unfold formelaw38_ContractMatchesReference.f
 rw [head38, hb]
 simp only [Option.bind_some]
 cases b with
 | false => rw [if_neg (by simp)]; exact hj
 | true =>
  have h := few_len' hb
  rw [if_pos rfl]
  by_cases c : (l2.length : Int) > 40
  ·rw [if_pos c]
   by_cases c2 : (l2.length : Int) ≤ 500
   ·rw [decide_eq_true c2]
    exact hj
   ·rw [decide_eq_false c2]
    exact hgo h
  ·rw [if_neg c]
   exact hgo h
theorem ContractMatchesReference_true (a0_0 a0_1 : Int) (l0_2 : List SP) (a1_0 a1_1 a1_2 a1_3 : Int) (a1_4 : Bool) (l2 : List SA) (a3 : Int) (_ : (Lit.int .i64 a3).wf = true) : ∃ k, formelaw38_ContractMatchesReference.f k a0_0 a0_1 l0_2 a1_0 a1_1 a1_2 a1_3 a1_4 l2 a3 = some true :=
 ⟨_, matches_true (Nat.le_refl 400000) a0_0 a0_1 l0_2 a1_0 a1_1 a1_2 a1_3 a1_4 l2 a3⟩
end Go.Proofs.Ytjpghfjaloglhaa.PContract
namespace Go.Proofs.Ytjpghfjaloglhaa.contractMatchesReference
open Go.ChangeShapes Go.WideShapes Go.ChangeAt Go.RowKit Go.Joins Go.Proofs.YtjpghfjaloglhaaW.PrintWords
set_option linter.unusedVariables false
theorem own : ownKnob Try.prog.godebug = none := by kernel_rfl
theorem laidOut : laidOutB Try.prog = true := by kernel_rfl
set_option maxRecDepth 100000 in
theorem lifted (os : Os) (started : os.Started) (H : Type) (enc : TypeId × Value → H) :
    ReturnsInHanded {} Try.checked os 16 .any (Rows.contractMatchesReferenceSpec.pre6 enc Try.prog Try.f16 Rows.contractMatchesReferenceRow.domain false) (Rows.contractMatchesReferenceSpec.post enc Try.prog Try.f16 false true false false) := by
  refine returnsInHanded_of_change_sized (C := Try.checked) own started (by kernel_rfl) Try.func16
    (ChangeSpec.witness6 (enc := enc) (C := Try.checked) false ⟨#[], #[.agg #[.int .i64 0, .int .i64 0, .slice none 0 0], .agg #[.int .i64 0, .int .i64 0, .int .i64 0, .int .i64 0, .bool false], .slice none 0 0, .int .i64 0], []⟩ 8 (by kernel_rfl) (by kernel_rfl) (by kernel_rfl) (by kernel_rfl)) ?_
  intro W base args ds gs before hval0 hW hcnd hsz0 _
  have hsz : (DataW.weightsEach Try.prog (Try.f16.params.toList ++ Rows.contractMatchesReferenceSpec.plain.varTypes Try.prog) (ds ++ gs)).all (· ≤ reachBytes) = true := hsz0
  have hval : ∀ (j : Nat) t v, Try.f16.params[j]? = some t → args[j]? = some v → Value.okWide Try.prog W .any base t v := hval0
  have hW' := hW
  obtain ⟨p, q, hA0, hV, rfl, hfz, hnd⟩ := hW
  have hA : DataW.TrodAll enc Try.prog W 0 (fun _ => true) true Try.f16.params.toList args.toList ds p := hA0
  rw [Try.params16] at hA hval hsz
  obtain ⟨v0, vs0, d0, ds0, p0, q0, hargs, rfl, rfl, h0, r0⟩ := trodAll_cons hA
  obtain ⟨v1, vs1, d1, ds1, p1, q1, rfl, rfl, rfl, h1, r1⟩ := trodAll_cons r0
  obtain ⟨v2, vs2, d2, ds2, p2, q2, rfl, rfl, rfl, h2, r2⟩ := trodAll_cons r1
  obtain ⟨v3, vs3, d3, ds3, p3, q3, rfl, rfl, rfl, h3, r3⟩ := trodAll_cons r2
  obtain ⟨rfl, rfl, rfl⟩ := trodAll_nil r3
  obtain rfl : args = #[v0, v1, v2, v3] := by cases args; simp_all
  obtain ⟨rfl, rfl⟩ := trodVars_none hV
  have k0 := h0
  have lt0 : ∀ x ∈ p0, x.block < W.heap.size := by obtain ⟨m, hm⟩ := k0; exact DataW.trod_lt m _ _ _ hm
  obtain ⟨a0_0, a0_1, A0_2, c0_2, l0_2, rfl, hr0, hc0⟩ := PContract.open_contract (hval 0 69 v0 rfl rfl) h0
  have k1 := h1
  have lt1 : ∀ x ∈ p1, x.block < W.heap.size := by obtain ⟨m, hm⟩ := k1; exact DataW.trod_lt m _ _ _ hm
  obtain ⟨a1_0, a1_1, a1_2, a1_3, a1_4, rfl⟩ := PContract.open_account (hval 1 71 v1 rfl rfl) h1
  have k2 := h2
  have lt2 : ∀ x ∈ p2, x.block < W.heap.size := by obtain ⟨m, hm⟩ := k2; exact DataW.trod_lt m _ _ _ hm
  obtain ⟨a2, len2, cap2, rfl⟩ := okWide_slice Try.underlying72 (hval 2 72 v2 rfl rfl)
  obtain ⟨l2, rfl, hr2, hc2⟩ := PContract.open_answers h2
  obtain ⟨a3, rfl, rfl, rfl, w3⟩ := open_int Try.underlying3 (hval 3 3 v3 rfl rfl) h3
  clear hA0 hval0 hsz0 hsz
  obtain ⟨k, h⟩ := PContract.ContractMatchesReference_true a0_0 a0_1 l0_2 a1_0 a1_1 a1_2 a1_3 a1_4 l2 a3 w3
  refine (PContract.formelaw38_ContractMatchesReference.calls k a0_0 a0_1 _ _ l0_2 a1_0 a1_1 a1_2 a1_3 a1_4 _ _ l2 a3 true W hr0 hc0 hr2 hc2 h).mono fun e W' ⟨he, bel⟩ => ?_
  subst he
  exact ⟨_, rfl, _, _, _, [], _, [], hW', trodAll_mk1 (shut_bool Try.underlying4 _), (trodAll_cons_mk (Below.trod laidOut (by kernel_rfl) (of_decide_eq_true (by kernel_rfl)) k0 bel lt0) (trodAll_cons_mk (Below.trod laidOut (by kernel_rfl) (of_decide_eq_true (by kernel_rfl)) k1 bel lt1) (trodAll_cons_mk (Below.trod laidOut (by kernel_rfl) (of_decide_eq_true (by kernel_rfl)) k2 bel lt2) (trodAll_cons_mk (shut_int Try.underlying3 w3) trodAll_mk0)))), rfl, bel.frame _, fun h => by cases h⟩
end Go.Proofs.Ytjpghfjaloglhaa.contractMatchesReference
