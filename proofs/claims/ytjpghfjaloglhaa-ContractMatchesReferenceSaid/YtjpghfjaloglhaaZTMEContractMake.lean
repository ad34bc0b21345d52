import Derived.WalkKit
import Derived.Lib.Hide
import Derived.IntWalk
import Derived.Test.YtjpghfjaloglhaaZTMEContractCurveM
import Derived.Test.YtjpghfjaloglhaaZTMPContractx0
import Derived.Test.YtjpghfjaloglhaaZTMPContractx6
/-
curve.Make returns the parts of the values, or says what is wrong: at every number and list.
Conditions: none.
-/
namespace Go.Proofs.Ytjpghfjaloglhaa.PContract
open Go.RowKit Go.Proofs.YtjpghfjaloglhaaW.PrintWords Go.Proofs.YtjpghfjaloglhaaW.PrintLast Go.Proofs.YtjpghfjaloglhaaW.PrintMore
set_option linter.unusedVariables false
set_option linter.unusedSimpArgs false
theorem make1_f (a : Int) : curve_Make_1.f a = some (!decide (Q.Coord a)) := by
 unfold curve_Make_1.f curve_isValue.f Q.Coord
 by_cases c : -1000000000 ≤ a <;> simp [c]
set_option maxHeartbeats 400000 in
theorem idxMake_none (A : Option Addr) (c : Nat) (l : List Int) (w : World) (hr : Kd.C (Kd.int .i64) w A l.length l) (hl : l.length ≤ 9223372036854775807) (hall : ∀ i : Nat, i < l.length → Q.Coord (rd l i)) :
  Calls Try.prog 119 #[.slice A l.length c, .func (.func 80) #[] #[]] w fun e w' => e = .returned (.int .i64 (-1)) ∧ Drawn0 w w' := by
 have Hall := Lib.hid hall
 clear hall
 go_enter Try.func119, Try.ntmps119
 go_wp2
 go_loopw [8] (fun i wr => ∃ k : Nat, k ≤ l.length ∧ i = .int .i64 k ∧ Drawn0 w wr) (fun i _ => l.length - (intOf i).toNat)
 case atStart => exact ⟨0, Nat.zero_le _, rfl, Drawn0.refl _⟩
 case round =>
  obtain ⟨k, hk, rfl, hd⟩ := hrel
  obtain ⟨nd0, rfl⟩ := hd.out
  by_cases hkm : k < l.length
  ·obtain ⟨ad, rfl, hc⟩ := row_cell hr hkm
   have hc1 : (w.drewN nd0).cell? (ad.add k) = some (.int .i64 (rd l (k : Int))) := hc
   have hf := make1_f (rd l (k : Int))
   rw [decide_eq_true (Hall.out k hkm)] at hf
   clear hd
   go_wp2_with (go_at_call 80; (with_reducible refine (curve_Make_1.calls _ false _ hf).mono ?_); rintro e w2 ⟨rfl, ⟨nd, rfl⟩⟩)
   go_roundw
   case rel => exact ⟨k + 1, by omega, by go_num, by repeat (first | exact Drawn0.refl _ | apply Drawn0.step)⟩
   case measure => simp [intOf]; omega
  ·obtain rfl : k = l.length := by omega
   go_wp2
   go_ret
   exact ⟨rfl, hd⟩
set_option maxHeartbeats 400000 in
theorem idxMake_some (A : Option Addr) (c : Nat) (l : List Int) (w : World) (hr : Kd.C (Kd.int .i64) w A l.length l) (hl : l.length ≤ 9223372036854775807) (m : Nat) (hm : m < l.length) (hbad : ¬ Q.Coord (rd l m)) (hall : ∀ i : Nat, i < m → Q.Coord (rd l i)) :
  Calls Try.prog 119 #[.slice A l.length c, .func (.func 80) #[] #[]] w fun e w' => e = .returned (.int .i64 m) ∧ Drawn0 w w' := by
 have Hall := Lib.hid hall
 clear hall
 go_enter Try.func119, Try.ntmps119
 go_wp2
 go_loopw [8] (fun i wr => ∃ k : Nat, k ≤ m ∧ i = .int .i64 k ∧ Drawn0 w wr) (fun i _ => m - (intOf i).toNat)
 case atStart => exact ⟨0, Nat.zero_le _, rfl, Drawn0.refl _⟩
 case round =>
  obtain ⟨k, hk, rfl, hd⟩ := hrel
  obtain ⟨nd0, rfl⟩ := hd.out
  have hkl : k < l.length := by omega
  obtain ⟨ad, rfl, hc⟩ := row_cell hr hkl
  have hc1 : (w.drewN nd0).cell? (ad.add k) = some (.int .i64 (rd l (k : Int))) := hc
  have hf := make1_f (rd l (k : Int))
  by_cases hkm : k < m
  ·rw [decide_eq_true (Hall.out k hkm)] at hf
   clear hd
   go_wp2_with (go_at_call 80; (with_reducible refine (curve_Make_1.calls _ false _ hf).mono ?_); rintro e w2 ⟨rfl, ⟨nd, rfl⟩⟩)
   go_roundw
   case rel => exact ⟨k + 1, by omega, by go_num, by repeat (first | exact Drawn0.refl _ | apply Drawn0.step)⟩
   case measure => simp [intOf]; omega
  ·obtain rfl : k = m := by omega
   rw [decide_eq_false hbad] at hf
   clear hd
   go_wp2_with (go_at_call 80; (with_reducible refine (curve_Make_1.calls _ true _ hf).mono ?_); rintro e w2 ⟨rfl, ⟨nd, rfl⟩⟩)
   go_ret
   exact ⟨rfl, by repeat (first | exact Drawn0.refl _ | apply Drawn0.step)⟩
theorem hasMake (A : Option Addr) (c : Nat) (l : List Int) (w : World) (hr : Kd.C (Kd.int .i64) w A l.length l) (r : Bool) (h : r = !coordsB l) :
  Calls Try.prog 82 #[.slice A l.length c, .func (.func 80) #[] #[]] w fun e w' => e = .returned (.bool r) ∧ Drawn0 w w' := by
 have hl := hr.2.1
 by_cases hall : ∀ i : Nat, i < l.length → Q.Coord (rd l i)
 ·obtain rfl : r = false := by
   have : coordsB l = true := coordsB_iff.2 fun x hx => by
    obtain ⟨i, hi, rfl⟩ := List.getElem_of_mem hx
    have := hall i hi
    unfold rd at this
    simpa [List.getD_eq_getElem?_getD, hi] using this
   rw [h, this]
   rfl
  clear h
  go_enter Try.func82, Try.ntmps82
  go_wp2_with (go_at_call 119; (with_reducible refine (idxMake_none _ _ l _ hr hl hall).mono ?_); rintro e w2 ⟨rfl, ⟨nd, rfl⟩⟩)
  go_ret
  exact ⟨rfl, by repeat (first | exact Drawn0.refl _ | apply Drawn0.step)⟩
 ·have hex : ∃ m, m < l.length ∧ ¬ Q.Coord (rd l (m : Nat)) := by
   false_or_by_contra
   rename_i hno
   exact hall fun i hi => by
    false_or_by_contra
    rename_i hc
    exact hno ⟨i, hi, hc⟩
  obtain ⟨m, ⟨hm1, hm2⟩, hmin⟩ := exists_least hex
  obtain rfl : r = true := by
   have : ¬ coordsB l = true := fun hc => hm2 (coordsB_iff.1 hc _ (rd_mem hm1))
   rw [h]
   simpa using this
  have hbef : ∀ i : Nat, i < m → Q.Coord (rd l i) := fun i hi => by
   by_cases hc : Q.Coord (rd l (i : Nat))
   ·exact hc
   ·have := hmin i ⟨by omega, hc⟩
    omega
  clear hall hex hmin h
  go_enter Try.func82, Try.ntmps82
  go_wp2_with (go_at_call 119; (with_reducible refine (idxMake_some _ _ l _ hr hl m hm1 hm2 hbef).mono ?_); rintro e w2 ⟨rfl, ⟨nd, rfl⟩⟩)
  go_ret
  exact ⟨rfl, by repeat (first | exact Drawn0.refl _ | apply Drawn0.step)⟩
def curve_Make.f (a0 : Int) (l1 : List Int) : Option (List SP × Int) := some (makeOut a0 l1)
def MakePost (w : World) (r1 : List SP) (r2 : Int) (e : Ending) (w' : World) : Prop :=
 ∃ v0_ : Value, e = .returned (.tuple #[v0_, .int .i64 r2]) ∧ Kd.R k61 61 w' w.heap.size (fun _ => True) v0_ r1 ∧ Below w.heap.size w w'
set_option maxHeartbeats 400000 in
theorem make_long (a : Int) (A : Option Addr) (c len : Nat) (w : World) (h1 : 4000 < len) (h2 : len ≤ 9223372036854775807) : Calls Try.prog 42 #[.int .i64 a, .slice A len c] w (MakePost w [] 2) := by
 go_enter Try.func42, Try.ntmps42
 go_wp2
 go_ret2
 exact ⟨_, rfl, Kd.R_nil _ _ _ _ _, Below.refl _ _⟩
set_option maxHeartbeats 400000 in
theorem make_empty (a : Int) (A : Option Addr) (c : Nat) (w : World) : Calls Try.prog 42 #[.int .i64 a, .slice A 0 c] w (MakePost w [] 1) := by
 have hund : undef = Value.tuple #[] := rfl
 go_enter Try.func42, Try.ntmps42
 go_wp2
 go_ret2
 exact ⟨_, rfl, Kd.R_nil _ _ _ _ _, Below.refl _ _⟩
set_option maxHeartbeats 400000 in
theorem make_neg (a : Int) (A : Option Addr) (c len : Nat) (w : World) (h1 : 1 ≤ len) (h2 : len ≤ 4000) (ha : a < 0) : Calls Try.prog 42 #[.int .i64 a, .slice A len c] w (MakePost w [] 1) := by
 have hund : undef = Value.tuple #[] := rfl
 have h3 : ((len : Int) == 0) = false := by simp; omega
 go_enter Try.func42, Try.ntmps42
 go_wp2
 go_ret2
 exact ⟨_, rfl, Kd.R_nil _ _ _ _ _, Below.refl _ _⟩
set_option maxHeartbeats 400000 in
theorem make_far (a : Int) (A : Option Addr) (c len : Nat) (w : World) (h1 : 1 ≤ len) (h2 : len ≤ 4000) (ha : 0 ≤ a) (ha2 : 4001 - (len : Int) < a) : Calls Try.prog 42 #[.int .i64 a, .slice A len c] w (MakePost w [] 1) := by
 have hund : undef = Value.tuple #[] := rfl
 have h3 : ((len : Int) == 0) = false := by simp; omega
 have h4 : decide (a < 0) = false := by simp; omega
 go_enter Try.func42, Try.ntmps42
 go_wp2
 go_ret2
 exact ⟨_, rfl, Kd.R_nil _ _ _ _ _, Below.refl _ _⟩
set_option maxHeartbeats 400000 in
theorem make_bad (a : Int) (A : Option Addr) (c : Nat) (l : List Int) (w : World) (hr : Kd.C (Kd.int .i64) w A l.length l) (h1 : 1 ≤ l.length) (h2 : l.length ≤ 4000) (ha : 0 ≤ a) (ha2 : a ≤ 4001 - (l.length : Int)) (hb : true = !coordsB l) :
  Calls Try.prog 42 #[.int .i64 a, .slice A l.length c] w (MakePost w [] 1) := by
 have Hb := Lib.hid hb
 clear hb
 have h3 : ((l.length : Int) == 0) = false := beq_eq_false_iff_ne.2 (by omega)
 have h4 : decide (a < 0) = false := by simp; omega
 have h5 : decide (4001 - (l.length : Int) < a) = false := decide_eq_false (by omega)
 go_enter Try.func42, Try.ntmps42
 go_wp2_with (go_at_call 82; (with_reducible refine (hasMake _ _ l _ hr true Hb.out).mono ?_); rintro e w2 ⟨rfl, ⟨nd, rfl⟩⟩)
 go_ret2
 exact ⟨_, rfl, Kd.R_nil _ _ _ _ _, by repeat (first | exact Below.refl _ _ | apply pw_below_drewN)⟩
set_option maxHeartbeats 400000 in
theorem make_ok (a : Int) (A : Option Addr) (c : Nat) (l : List Int) (w : World) (hr : Kd.C (Kd.int .i64) w A l.length l) (hc : l.length ≤ c) (h1 : 1 ≤ l.length) (h2 : l.length ≤ 4000) (ha : 0 ≤ a) (ha2 : a ≤ 4001 - (l.length : Int)) (hb : false = !coordsB l) :
  Calls Try.prog 42 #[.int .i64 a, .slice A l.length c] w (MakePost w (parts a l) 0) := by
 have hco : ∀ x ∈ l, Q.Coord x := coordsB_iff.1 (by simpa using hb.symm)
 have hs := split_f (k := 12000) (Nat.le_refl _) h2 hco ha (by omega)
 have Hb := Lib.hid hb
 have Hco := Lib.hid hco
 clear hb hco
 have h3 : ((l.length : Int) == 0) = false := beq_eq_false_iff_ne.2 (by omega)
 have h4 : decide (a < 0) = false := by simp; omega
 have h5 : decide (4001 - (l.length : Int) < a) = false := decide_eq_false (by omega)
 have HS := Aside0.mk hs
 clear hs
 go_enter Try.func42, Try.ntmps42
 go_wp2_with (first
  | (go_at_call 82; (with_reducible refine (hasMake _ _ l _ hr false Hb.out).mono ?_); rintro e w2 ⟨rfl, ⟨nd, rfl⟩⟩; have hV := Kd.V_mk (e := 3) (base := (w.drewN nd).heap.size) hc (Kd.C_F (Kd.heap_int .i64) (Kd.C_drewN hr nd)))
  | (go_at_call 83; (with_reducible refine (curve_split.calls 12000 _ _ _ _ l _ _ hV HS.out).mono ?_); rintro e w3 ⟨v0, rfl, hR, hB⟩; obtain ⟨A0, c0, rfl, hc0, hC0⟩ := Kd.R_reads hR))
 go_ret2
 exact ⟨_, rfl, Kd.R_mono hR (fun _ _ => trivial), (pw_below_drewN (Below.refl w.heap.size w) nd).trans hB⟩
theorem curve_Make.calls (a0 : Int) (A1 : Option Addr) (c1 : Nat) (l1 : List Int) (r1 : List SP) (r2 : Int) (w : World) (hr1 : Kd.C (Kd.int .i64) w A1 l1.length l1) (hc1 : l1.length ≤ c1) (h : curve_Make.f a0 l1 = some (r1, r2)) :
  Calls Try.prog 42 #[.int .i64 a0, .slice A1 l1.length c1] w fun e w' => ∃ v0_ : Value, e = .returned (.tuple #[v0_, .int .i64 r2]) ∧ Kd.R k61 61 w' w.heap.size (fun _ => True) v0_ r1 ∧ Below w.heap.size w w' := by
 show Calls Try.prog 42 #[.int .i64 a0, .slice A1 l1.length c1] w (MakePost w r1 r2)
 unfold curve_Make.f makeOut at h
 by_cases c1' : l1.length > 4000
 ·rw [if_pos c1'] at h
  obtain ⟨rfl, rfl⟩ : [] = r1 ∧ 2 = r2 := by simpa using h
  exact make_long a0 A1 c1 _ w c1' hr1.2.1
 ·rw [if_neg c1'] at h
  by_cases c2 : l1.length = 0
  ·rw [if_pos (.inl c2)] at h
   obtain ⟨rfl, rfl⟩ : [] = r1 ∧ 1 = r2 := by simpa using h
   rw [c2]
   exact make_empty a0 A1 c1 w
  ·by_cases c3 : a0 < 0
   ·rw [if_pos (.inr (.inl c3))] at h
    obtain ⟨rfl, rfl⟩ : [] = r1 ∧ 1 = r2 := by simpa using h
    exact make_neg a0 A1 c1 _ w (by omega) (by omega) c3
   ·by_cases c4 : a0 > 4001 - (l1.length : Int)
    ·rw [if_pos (.inr (.inr (.inl c4)))] at h
     obtain ⟨rfl, rfl⟩ : [] = r1 ∧ 1 = r2 := by simpa using h
     exact make_far a0 A1 c1 _ w (by omega) (by omega) (by omega) (by omega)
    ·cases c5 : coordsB l1 with
     | false =>
      rw [if_pos (.inr (.inr (.inr c5)))] at h
      obtain ⟨rfl, rfl⟩ : [] = r1 ∧ 1 = r2 := by simpa using h
      exact make_bad a0 A1 c1 l1 w hr1 (by omega) (by omega) (by omega) (by omega) (by rw [c5]; rfl)
     | true =>
      rw [if_neg (by simp [c2, c3, c4, c5])] at h
      obtain ⟨rfl, rfl⟩ : parts a0 l1 = r1 ∧ 0 = r2 := by simpa using h
      exact make_ok a0 A1 c1 l1 w hr1 hc1 (by omega) (by omega) (by omega) (by omega) (by rw [c5]; rfl)
end Go.Proofs.Ytjpghfjaloglhaa.PContract

