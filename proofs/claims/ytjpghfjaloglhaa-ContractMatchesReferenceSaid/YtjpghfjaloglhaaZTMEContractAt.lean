import Derived.WalkKit
import Derived.Lib.Hide
import Derived.IntWalk
import Derived.Laws.EntriesVeiled
import Derived.Test.YtjpghfjaloglhaaZTMEContractValid
/-
curve.At returns the value of a function at a number, or says that there is none: at every list of parts and every number.
Conditions: none.
-/
namespace Go.Proofs.Ytjpghfjaloglhaa.PContract
open Go.RowKit Go.Proofs.YtjpghfjaloglhaaW.PrintWords Go.Proofs.YtjpghfjaloglhaaW.PrintLast Go.Proofs.YtjpghfjaloglhaaW.PrintMore
set_option linter.unusedVariables false
set_option linter.unusedSimpArgs false
def hasN (n : Int) (p : SP) : Bool := decide (p.f0 ≤ n) && decide (n < p.f1)
set_option maxHeartbeats 400000 in
theorem at1_calls (p : SP) (n : Int) (B : Nat) (w : World) (hB : w.cell? ⟨B, 0, none⟩ = some (.int .i64 n)) (r : Bool) (h : hasN n p = r) :
  Calls Try.prog 88 #[.agg #[.int .i64 p.f0, .int .i64 p.f1, .int .i64 p.f2.f0, .int .i64 p.f2.f1, .int .i64 p.f2.f2], .pointer (some ⟨B, 0, none⟩)] w fun e w' => e = .returned (.bool r) ∧ Below w.heap.size w w' := by
 have hu61 := Try.underlying61
 have hu23 := Try.underlying23
 have B1 := (Below.refl w.heap.size w).alloc (Nat.le_refl _) (.cells #[.int .i64 p.f0, .int .i64 p.f1, .int .i64 p.f2.f0, .int .i64 p.f2.f1, .int .i64 p.f2.f2] 61)
 have hB2 := pw_cell_below B1 hB
 clear hB
 unfold hasN at h
 by_cases c1 : p.f0 ≤ n
 ·rw [decide_eq_true c1] at h
  have hd := decide_eq_true c1
  have hr : decide (n < p.f1) = r := by simpa using h
  clear h c1
  go_enter Try.func88, Try.ntmps88
  go_wp2
  go_ret
  exact ⟨rfl, B1⟩
 ·rw [decide_eq_false c1] at h
  have hd := decide_eq_false c1
  obtain rfl : false = r := by simpa using h
  clear h c1
  go_enter Try.func88, Try.ntmps88
  go_wp2
  go_ret
  exact ⟨rfl, B1⟩
set_option maxHeartbeats 400000 in
theorem idxAt_none (A : Option Addr) (c : Nat) (l : List SP) (n : Int) (B : Nat) (w : World) (hB : w.cell? ⟨B, 0, none⟩ = some (.int .i64 n)) (hr : Kd.C k61 w A l.length l) (hall : ∀ i : Nat, i < l.length → hasN n (rd_T61 l i) = false) :
  Calls Try.prog 89 #[.slice A l.length c, .func (.func 88) #[] #[.pointer (some ⟨B, 0, none⟩)]] w fun e w' => e = .returned (.int .i64 (-1)) ∧ Below w.heap.size w w' := by
 have hl := hr.2.1
 have hu61 := Try.underlying61
 have hu23 := Try.underlying23
 have Hall := Lib.hid hall
 clear hall
 go_enter Try.func89, Try.ntmps89
 go_wp2
 go_loopw [8] (fun i wr => ∃ k : Nat, k ≤ l.length ∧ i = .int .i64 k ∧ Below w.heap.size w wr) (fun i _ => l.length - (intOf i).toNat)
 case atStart => exact ⟨0, Nat.zero_le _, rfl, Below.refl _ _⟩
 case round =>
  obtain ⟨k, hk, rfl, hb⟩ := hrel
  by_cases hkm : k < l.length
  ·obtain ⟨ad, rfl, x0, x1, x2, x3, x4⟩ := at_T61 (Kd.C_below hr hb) (k : Int) (by omega) (by omega)
   rw [Int.toNat_natCast] at x0 x1 x2 x3 x4
   have hBk := pw_cell_below hb hB
   have hf := Lib.hid (Hall.out k hkm)
   generalize rd_T61 l (k : Int) = p at *
   go_wp2_with (go_at_call 88; (with_reducible refine (at1_calls p n B _ hBk false hf.out).mono ?_); rintro e w2 ⟨rfl, hb2⟩)
   go_roundw
   case rel => exact ⟨k + 1, by omega, by go_num, hb.trans (hb2.mono hb.size)⟩
   case measure => simp [intOf]; omega
  ·obtain rfl : k = l.length := by omega
   go_wp2
   go_ret
   exact ⟨rfl, hb⟩
set_option maxHeartbeats 400000 in
theorem idxAt_some (A : Option Addr) (c : Nat) (l : List SP) (n : Int) (B : Nat) (w : World) (hB : w.cell? ⟨B, 0, none⟩ = some (.int .i64 n)) (hr : Kd.C k61 w A l.length l) (m : Nat) (hm : m < l.length) (hhas : hasN n (rd_T61 l m) = true) (hall : ∀ i : Nat, i < m → hasN n (rd_T61 l i) = false) :
  Calls Try.prog 89 #[.slice A l.length c, .func (.func 88) #[] #[.pointer (some ⟨B, 0, none⟩)]] w fun e w' => e = .returned (.int .i64 m) ∧ Below w.heap.size w w' := by
 have hl := hr.2.1
 have hu61 := Try.underlying61
 have hu23 := Try.underlying23
 have Hall := Lib.hid hall
 have Hhas := Lib.hid hhas
 clear hall hhas
 go_enter Try.func89, Try.ntmps89
 go_wp2
 go_loopw [8] (fun i wr => ∃ k : Nat, k ≤ m ∧ i = .int .i64 k ∧ Below w.heap.size w wr) (fun i _ => m - (intOf i).toNat)
 case atStart => exact ⟨0, Nat.zero_le _, rfl, Below.refl _ _⟩
 case round =>
  obtain ⟨k, hk, rfl, hb⟩ := hrel
  obtain ⟨ad, rfl, x0, x1, x2, x3, x4⟩ := at_T61 (Kd.C_below hr hb) (k : Int) (by omega) (by omega)
  rw [Int.toNat_natCast] at x0 x1 x2 x3 x4
  have hBk := pw_cell_below hb hB
  have hkl : k < l.length := by omega
  by_cases hkm : k < m
  ·have hf := Lib.hid (Hall.out k hkm)
   generalize rd_T61 l (k : Int) = p at *
   go_wp2_with (go_at_call 88; (with_reducible refine (at1_calls p n B _ hBk false hf.out).mono ?_); rintro e w2 ⟨rfl, hb2⟩)
   go_roundw
   case rel => exact ⟨k + 1, by omega, by go_num, hb.trans (hb2.mono hb.size)⟩
   case measure => simp [intOf]; omega
  ·obtain rfl : k = m := by omega
   generalize rd_T61 l (k : Int) = p at *
   go_wp2_with (go_at_call 88; (with_reducible refine (at1_calls p n B _ hBk true Hhas.out).mono ?_); rintro e w2 ⟨rfl, hb2⟩)
   go_ret
   exact ⟨rfl, hb.trans (hb2.mono hb.size)⟩
def atOut (l : List SP) (n : Int) : Int × Int :=
 match l.find? (hasN n) with
 | none => (0, 1)
 | some p => if validB l = true then (qval p.f2 (n - p.f0), 0) else (0, 1)
def curve_At.f (l0 : List SP) (a1 : Int) : Option (Int × Int) := some (atOut l0 a1)
def AtPost (w : World) (r1 r2 : Int) (e : Ending) (w' : World) : Prop := e = .returned (.tuple #[.int .i64 r1, .int .i64 r2]) ∧ Below w.heap.size w w'
theorem at_none (A : Option Addr) (c : Nat) (l : List SP) (n : Int) (w : World) (hr : Kd.C k61 w A l.length l) (hall : ∀ i : Nat, i < l.length → hasN n (rd_T61 l i) = false) :
  Calls Try.prog 46 #[.slice A l.length c, .int .i64 n] w (AtPost w 0 1) := by
 have hund : undef = Value.tuple #[] := rfl
 have B1 := (Below.refl w.heap.size w).alloc (Nat.le_refl _) (.cells #[.int .i64 n] 3)
 have K := idxAt_none A c l n w.heap.size _ ((blk_cell (blk_new w (.cells #[.int .i64 n] 3)) 0).trans rfl) (Kd.C_below hr B1) hall
 go_enter Try.func46, Try.ntmps46
 go_wp2_with (go_at_call 89; (with_reducible refine K.mono ?_); rintro e w2 ⟨rfl, hb⟩)
 go_ret2
 exact ⟨rfl, B1.trans (hb.mono B1.size)⟩
set_option maxHeartbeats 400000 in
theorem at_inv (A : Option Addr) (c : Nat) (l : List SP) (n : Int) (w : World) (hr : Kd.C k61 w A l.length l) (hc : l.length ≤ c) (m : Nat) (hm : m < l.length) (hhas : hasN n (rd_T61 l m) = true) (hall : ∀ i : Nat, i < m → hasN n (rd_T61 l i) = false) (h : curve_Valid.f l = some false) :
  Calls Try.prog 46 #[.slice A l.length c, .int .i64 n] w (AtPost w 0 1) := by
 have hl := hr.2.1
 have B1 := (Below.refl w.heap.size w).alloc (Nat.le_refl _) (.cells #[.int .i64 n] 3)
 have hr1 := Kd.C_below hr B1
 have K := idxAt_some A c l n w.heap.size _ ((blk_cell (blk_new w (.cells #[.int .i64 n] 3)) 0).trans rfl) hr1 m hm hhas hall
 clear hall hhas
 have hlt : decide ((m : Int) < 0) = false := decide_eq_false (by omega)
 have H := Lib.hid h
 clear h
 go_enter Try.func46, Try.ntmps46
 go_wp2_with (first
  | (go_at_call 89; (with_reducible refine K.mono ?_); rintro e w2 ⟨rfl, hb⟩; have B2 := B1.trans (hb.mono B1.size); have hr2 := Kd.C_below hr B2)
  | (go_at_call 44; (with_reducible refine (curve_Valid.calls _ _ l false _ hr2 hc H.out).mono ?_); rintro e w3 ⟨rfl, hb3⟩))
 go_ret2
 exact ⟨rfl, B2.trans (hb3.mono B2.size)⟩
set_option maxHeartbeats 1000000 in
theorem at_ok (A : Option Addr) (c : Nat) (l : List SP) (n : Int) (w : World) (hr : Kd.C k61 w A l.length l) (hc : l.length ≤ c) (m : Nat) (hm : m < l.length) (hhas : hasN n (rd_T61 l m) = true) (hall : ∀ i : Nat, i < m → hasN n (rd_T61 l i) = false) (h : curve_Valid.f l = some true) (hj : joinedB l = true) :
  Calls Try.prog 46 #[.slice A l.length c, .int .i64 n] w (AtPost w (qval (rd_T61 l m).f2 (n - (rd_T61 l m).f0)) 0) := by
 have hl := hr.2.1
 have hu61 := Try.underlying61
 have hu23 := Try.underlying23
 have B1 := (Below.refl w.heap.size w).alloc (Nat.le_refl _) (.cells #[.int .i64 n] 3)
 have hr1 := Kd.C_below hr B1
 have hn0 := blk_new w (.cells #[.int .i64 n] 3)
 have K := idxAt_some A c l n w.heap.size _ ((blk_cell (blk_new w (.cells #[.int .i64 n] 3)) 0).trans rfl) hr1 m hm hhas hall
 have hok := (joined_facts hj).2.1 (rd_T61 l m) (by unfold rd_T61; simp [hm])
 clear hall hj
 have hlt : decide ((m : Int) < 0) = false := decide_eq_false (by omega)
 have H := Lib.hid h
 clear h
 obtain ⟨ad, rfl, -⟩ := at_T61 hr (m : Int) (by omega) (by omega)
 have hC3 : ∀ w3, Below w.heap.size w w3 → _ := fun w3 hb => at_T61 (Kd.C_below hr hb) (m : Int) (by omega) (by omega)
 generalize hp : rd_T61 l (m : Int) = p at *
 have Hp := Lib.hid hp
 clear hp
 obtain ⟨hp1, hp2⟩ : ((1 ≤ p.f2.f2 ∧ p.f2.f2 ≤ 16) ∧ Q.Coord p.f2.f0 ∧ Q.Coord p.f2.f1) ∧ (0 ≤ p.f0 ∧ p.f0 < p.f1 ∧ p.f1 ≤ 4001) := by
  unfold okPart at hok
  simpa only [Bool.and_eq_true, decide_eq_true_eq] using hok
 have hn : p.f0 ≤ n ∧ n < p.f1 := by
  unfold hasN at hhas
  simpa using hhas
 clear hok hhas
 have hat := qval_at hp1 (n := n - p.f0) (by omega) (by omega)
 have Hat := Lib.hid hat
 clear hat
 have hm0 : (0 : Int) ≤ (m : Int) := by omega
 have hm1 : (m : Int) < (l.length : Int) := by omega
 have hsub : IntKind.i64.wrap (n - p.f0) = n - p.f0 := IntWalk.i64_in _ (by omega)
 go_enter Try.func46, Try.ntmps46
 go_wp2_with (first
  | (go_at_call 89; (with_reducible refine K.mono ?_); rintro e w2 ⟨rfl, hb⟩; have B2 := B1.trans (hb.mono B1.size); have hr2 := Kd.C_below hr B2)
  | (go_at_call 44; (with_reducible refine (curve_Valid.calls _ _ l true _ hr2 hc H.out).mono ?_); rintro e w3 ⟨rfl, hb3⟩; have B3 := B2.trans (hb3.mono B2.size); have hn3 := blk_below (blk_below hn0 hb) hb3))
 obtain ⟨ad', e', x0, x1, x2, x3, x4⟩ := hC3 _ B3
 obtain rfl : ad = ad' := Option.some.inj e'
 rw [Int.toNat_natCast] at x0 x1 x2 x3 x4
 clear e' hC3 x1
 have y0 := (blk_cell hn3 0).trans rfl
 go_region_held3 (fun w' => w'.cell? ⟨w.heap.size, 0, none⟩ = some (.int .i64 n) ∧ w'.cell? (ad.add (m * 5)) = some (.int .i64 p.f0) ∧ w'.cell? ⟨(ad.add (m * 5)).block, (ad.add (m * 5)).off + 2, none⟩ = some (.int .i64 p.f2.f0) ∧ w'.cell? ⟨(ad.add (m * 5)).block, (ad.add (m * 5)).off + 3, none⟩ = some (.int .i64 p.f2.f1) ∧ w'.cell? ⟨(ad.add (m * 5)).block, (ad.add (m * 5)).off + 4, none⟩ = some (.int .i64 p.f2.f2)) (first | (refine ⟨?_, ?_, ?_, ?_, ?_⟩ <;> assumption)) ((go_at_call 24; (with_reducible refine (quot_At.calls _ _ _ _ _ _ _ Hat.out).mono ?_); rintro e w4 ⟨rfl, hb4⟩; have z0 := pw_cell_below hb4 y0; have z1 := pw_cell_below hb4 x0; have z2 := pw_cell_below hb4 x2; have z3 := pw_cell_below hb4 x3; have z4 := pw_cell_below hb4 x4))
 go_wp2
 go_ret2
 exact ⟨rfl, B3.drew.trans (hb4.mono B3.drew.size)⟩
theorem find_first {l : List SP} {n : Int} {m : Nat} (hm : m < l.length) (hhas : hasN n (rd_T61 l m) = true) (hall : ∀ i : Nat, i < m → hasN n (rd_T61 l i) = false) : l.find? (hasN n) = some (rd_T61 l m) := by
 have hrd : ∀ (i : Nat) (hi : i < l.length), rd_T61 l (i : Int) = l[i] := fun i hi => by unfold rd_T61; simp [hi]
 rw [List.find?_eq_some_iff_getElem]
 refine ⟨hhas, m, hm, by rw [hrd m hm], fun j hj => ?_⟩
 have := hall j hj
 rw [hrd j (by omega)] at this
 simpa using this
theorem find_none {l : List SP} {n : Int} (hall : ∀ i : Nat, i < l.length → hasN n (rd_T61 l i) = false) : l.find? (hasN n) = none := by
 rw [List.find?_eq_none]
 intro p hp
 obtain ⟨i, hi, rfl⟩ := List.getElem_of_mem hp
 have := hall i hi
 unfold rd_T61 at this
 simpa [hi] using this
theorem curve_At.calls (A0 : Option Addr) (c0 : Nat) (l0 : List SP) (a1 : Int) (r1 : Int) (r2 : Int) (w : World) (hr0 : Kd.C k61 w A0 l0.length l0) (hc0 : l0.length ≤ c0) (h : curve_At.f l0 a1 = some (r1, r2)) :
  Calls Try.prog 46 #[.slice A0 l0.length c0, .int .i64 a1] w fun e w' => e = .returned (.tuple #[.int .i64 r1, .int .i64 r2]) ∧ Below w.heap.size w w' := by
 show Calls Try.prog 46 #[.slice A0 l0.length c0, .int .i64 a1] w (AtPost w r1 r2)
 unfold curve_At.f atOut at h
 by_cases hall : ∀ i : Nat, i < l0.length → hasN a1 (rd_T61 l0 i) = false
 ·rw [find_none hall] at h
  obtain ⟨rfl, rfl⟩ : 0 = r1 ∧ 1 = r2 := by simpa using h
  exact at_none A0 c0 l0 a1 w hr0 hall
 ·have hex : ∃ m, m < l0.length ∧ hasN a1 (rd_T61 l0 (m : Nat)) = true := by
   false_or_by_contra
   rename_i hno
   exact hall fun i hi => by
    cases e : hasN a1 (rd_T61 l0 (i : Nat)) with
    | false => rfl
    | true => exact absurd ⟨i, hi, e⟩ hno
  obtain ⟨m, ⟨hm1, hm2⟩, hmin⟩ := exists_least hex
  have hbef : ∀ i : Nat, i < m → hasN a1 (rd_T61 l0 (i : Nat)) = false := fun i hi => by
   cases e : hasN a1 (rd_T61 l0 (i : Nat)) with
   | false => rfl
   | true =>
    have := hmin i ⟨by omega, e⟩
    omega
  rw [find_first hm1 hm2 hbef] at h
  cases hv : validB l0 with
  | false =>
   rw [hv] at h
   obtain ⟨rfl, rfl⟩ : 0 = r1 ∧ 1 = r2 := by simpa using h
   exact at_inv A0 c0 l0 a1 w hr0 hc0 m hm1 hm2 hbef (by unfold curve_Valid.f; rw [hv])
  | true =>
   have hj : joinedB l0 = true := by
    unfold validB at hv
    simp only [Bool.and_eq_true] at hv
    exact hv.1
   rw [hv] at h
   obtain ⟨rfl, rfl⟩ : qval (rd_T61 l0 m).f2 (a1 - (rd_T61 l0 m).f0) = r1 ∧ 0 = r2 := by simpa using h
   exact at_ok A0 c0 l0 a1 w hr0 hc0 m hm1 hm2 hbef (by unfold curve_Valid.f; rw [hv]) hj
end Go.Proofs.Ytjpghfjaloglhaa.PContract

