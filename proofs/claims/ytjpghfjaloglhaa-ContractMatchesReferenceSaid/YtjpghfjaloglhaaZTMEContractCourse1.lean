import Derived.WalkKit
import Derived.Lib.Hide
import Derived.IntWalk
import Derived.Laws.EntriesVeiled
import Derived.Test.YtjpghfjaloglhaaZTMEContractCPlain
/-
contract.Course's closure, and slices.ContainsFunc at it: is there an answer that is refused?
Conditions: those that each lemma names.
-/
namespace Go.Proofs.Ytjpghfjaloglhaa.PContract
open Go.RowKit Go.Proofs.YtjpghfjaloglhaaW.PrintWords Go.Proofs.YtjpghfjaloglhaaW.PrintLast Go.Proofs.YtjpghfjaloglhaaW.PrintMore
set_option linter.unusedVariables false
set_option linter.unusedSimpArgs false
set_option maxHeartbeats 1000000 in
theorem course1_bad (p0 p1 p2 p3 : Int) (n : Int) (B : Nat) (w : World) (hB : w.cell? ⟨B, 0, none⟩ = some (.int .i64 n)) (h : contract_rightAnswer.f 5 p0 p1 p2 p3 = some false) :
  Calls Try.prog 113 #[.agg #[.int .i64 p0, .int .i64 p1, .int .i64 p2, .int .i64 p3], .pointer (some ⟨B, 0, none⟩)] w fun e w' => e = .returned (.bool true) ∧ Below w.heap.size w w' := by
 have hund : undef = Value.tuple #[] := rfl
 have hu3 := Try.underlying78
 have hu1 := Try.underlying69
 have B1 := (Below.refl w.heap.size w).alloc (Nat.le_refl _) (.cells #[.int .i64 p0, .int .i64 p1, .int .i64 p2, .int .i64 p3] 78)
 clear hB
 go_enter Try.func113, Try.ntmps113
 go_wp2_with (go_at_call 108; (with_reducible refine (contract_rightAnswer.calls 5 p0 p1 p2 p3 false _ h).mono ?_); rintro e w2 ⟨rfl, hb2⟩)
 go_ret
 exact ⟨rfl, B1.trans (hb2.mono B1.size)⟩
set_option maxHeartbeats 1000000 in
theorem course1_good (p0 p1 p2 p3 : Int) (n : Int) (B : Nat) (w : World) (hB : w.cell? ⟨B, 0, none⟩ = some (.int .i64 n)) (h : contract_rightAnswer.f 5 p0 p1 p2 p3 = some true) (r : Bool) (hr : (p0 != n) = r) :
  Calls Try.prog 113 #[.agg #[.int .i64 p0, .int .i64 p1, .int .i64 p2, .int .i64 p3], .pointer (some ⟨B, 0, none⟩)] w fun e w' => e = .returned (.bool r) ∧ Below w.heap.size w w' := by
 have hund : undef = Value.tuple #[] := rfl
 have hu3 := Try.underlying78
 have hu1 := Try.underlying69
 have B1 := (Below.refl w.heap.size w).alloc (Nat.le_refl _) (.cells #[.int .i64 p0, .int .i64 p1, .int .i64 p2, .int .i64 p3] 78)
 have hx := blk_new w (.cells #[.int .i64 p0, .int .i64 p1, .int .i64 p2, .int .i64 p3] 78)
 have x0 := (blk_cell hx 0).trans rfl
 have y0 := pw_cell_below B1 hB
 clear hB
 go_enter Try.func113, Try.ntmps113
 go_wp2_with (go_at_call 108; (with_reducible refine (contract_rightAnswer.calls 5 p0 p1 p2 p3 true _ h).mono ?_); rintro e w2 ⟨rfl, hb2⟩; have x2 := pw_cell_below hb2 x0; have y2 := pw_cell_below hb2 y0)
 go_ret
 exact ⟨rfl, B1.trans (hb2.mono B1.size)⟩
theorem course1_calls (p : SA) (n : Int) (B : Nat) (w : World) (hB : w.cell? ⟨B, 0, none⟩ = some (.int .i64 n)) (r : Bool) (hr : strangeB n p = r) :
  Calls Try.prog 113 #[.agg #[.int .i64 p.f0, .int .i64 p.f1, .int .i64 p.f2, .int .i64 p.f3], .pointer (some ⟨B, 0, none⟩)] w fun e w' => e = .returned (.bool r) ∧ Below w.heap.size w w' := by
 have h := rightAnswer_f p.f0 p.f1 p.f2 p.f3
 unfold strangeB at hr
 cases c : ansB p.f0 p.f1 p.f2 p.f3 with
 | false =>
  rw [c] at h hr
  obtain rfl : true = r := by simpa using hr
  exact course1_bad _ _ _ _ n B w hB h
 | true =>
  rw [c] at h hr
  refine course1_good _ _ _ _ n B w hB h r ?_
  rw [← hr]
  simp [bne, Bool.beq_eq_decide_eq]
set_option maxHeartbeats 1000000 in
theorem idxAns_none (A : Option Addr) (c : Nat) (l : List SA) (n : Int) (B : Nat) (w : World) (hB : w.cell? ⟨B, 0, none⟩ = some (.int .i64 n)) (hr : Kd.C k78 w A l.length l) (hall : ∀ i : Nat, i < l.length → strangeB n (rd_T78 l i) = false) :
  Calls Try.prog 125 #[.slice A l.length c, .func (.func 113) #[] #[.pointer (some ⟨B, 0, none⟩)]] w fun e w' => e = .returned (.int .i64 (-1)) ∧ Below w.heap.size w w' := by
 have hl := hr.2.1
 have hu3 := Try.underlying78
 have Hall := Lib.hid hall
 clear hall
 go_enter Try.func125, Try.ntmps125
 go_wp2
 go_loopw [8] (fun i wr => ∃ k : Nat, k ≤ l.length ∧ i = .int .i64 k ∧ Below w.heap.size w wr) (fun i _ => l.length - (intOf i).toNat)
 case atStart => exact ⟨0, Nat.zero_le _, rfl, Below.refl _ _⟩
 case round =>
  obtain ⟨k, hk, rfl, hb⟩ := hrel
  by_cases hkm : k < l.length
  ·obtain ⟨ad, rfl, x0, x1, x2, x3⟩ := at_T78 (Kd.C_below hr hb) (k : Int) (by omega) (by omega)
   rw [Int.toNat_natCast] at x0 x1 x2 x3
   have hBk := pw_cell_below hb hB
   have hf := Lib.hid (Hall.out k hkm)
   generalize rd_T78 l (k : Int) = p at *
   go_wp2_with (go_at_call 113; (with_reducible refine (course1_calls p n B _ hBk false hf.out).mono ?_); rintro e w2 ⟨rfl, hb2⟩)
   go_roundw
   case rel => exact ⟨k + 1, by omega, by go_num, hb.trans (hb2.mono hb.size)⟩
   case measure => simp [intOf]; omega
  ·obtain rfl : k = l.length := by omega
   go_wp2
   go_ret
   exact ⟨rfl, hb⟩
set_option maxHeartbeats 1000000 in
theorem idxAns_some (A : Option Addr) (c : Nat) (l : List SA) (n : Int) (B : Nat) (w : World) (hB : w.cell? ⟨B, 0, none⟩ = some (.int .i64 n)) (hr : Kd.C k78 w A l.length l) (m : Nat) (hm : m < l.length) (hhas : strangeB n (rd_T78 l m) = true) (hall : ∀ i : Nat, i < m → strangeB n (rd_T78 l i) = false) :
  Calls Try.prog 125 #[.slice A l.length c, .func (.func 113) #[] #[.pointer (some ⟨B, 0, none⟩)]] w fun e w' => e = .returned (.int .i64 m) ∧ Below w.heap.size w w' := by
 have hl := hr.2.1
 have hu3 := Try.underlying78
 have Hall := Lib.hid hall
 have Hhas := Lib.hid hhas
 clear hall hhas
 go_enter Try.func125, Try.ntmps125
 go_wp2
 go_loopw [8] (fun i wr => ∃ k : Nat, k ≤ m ∧ i = .int .i64 k ∧ Below w.heap.size w wr) (fun i _ => m - (intOf i).toNat)
 case atStart => exact ⟨0, Nat.zero_le _, rfl, Below.refl _ _⟩
 case round =>
  obtain ⟨k, hk, rfl, hb⟩ := hrel
  obtain ⟨ad, rfl, x0, x1, x2, x3⟩ := at_T78 (Kd.C_below hr hb) (k : Int) (by omega) (by omega)
  rw [Int.toNat_natCast] at x0 x1 x2 x3
  have hBk := pw_cell_below hb hB
  have hkl : k < l.length := by omega
  by_cases hkm : k < m
  ·have hf := Lib.hid (Hall.out k hkm)
   generalize rd_T78 l (k : Int) = p at *
   go_wp2_with (go_at_call 113; (with_reducible refine (course1_calls p n B _ hBk false hf.out).mono ?_); rintro e w2 ⟨rfl, hb2⟩)
   go_roundw
   case rel => exact ⟨k + 1, by omega, by go_num, hb.trans (hb2.mono hb.size)⟩
   case measure => simp [intOf]; omega
  ·obtain rfl : k = m := by omega
   generalize rd_T78 l (k : Int) = p at *
   go_wp2_with (go_at_call 113; (with_reducible refine (course1_calls p n B _ hBk true Hhas.out).mono ?_); rintro e w2 ⟨rfl, hb2⟩)
   go_ret
   exact ⟨rfl, hb.trans (hb2.mono hb.size)⟩
theorem rdA_mem {l : List SA} {i : Nat} (h : i < l.length) : rd_T78 l (i : Int) ∈ l := by
 unfold rd_T78
 simp [h]
theorem hasAns (A : Option Addr) (c : Nat) (l : List SA) (n : Int) (B : Nat) (w : World) (hB : w.cell? ⟨B, 0, none⟩ = some (.int .i64 n)) (hr : Kd.C k78 w A l.length l) (r : Bool) (h : l.any (strangeB n) = r) :
  Calls Try.prog 114 #[.slice A l.length c, .func (.func 113) #[] #[.pointer (some ⟨B, 0, none⟩)]] w fun e w' => e = .returned (.bool r) ∧ Below w.heap.size w w' := by
 have hl := hr.2.1
 by_cases hall : ∀ i : Nat, i < l.length → strangeB n (rd_T78 l i) = false
 ·obtain rfl : false = r := by
   rw [← h]
   refine (List.any_eq_false.2 fun x hx => ?_).symm
   obtain ⟨i, hi, rfl⟩ := List.getElem_of_mem hx
   have := hall i hi
   unfold rd_T78 at this
   simpa [hi] using this
  clear h
  have K := idxAns_none A c l n B w hB hr hall
  clear hall
  go_enter Try.func114, Try.ntmps114
  go_wp2_with (go_at_call 125; (with_reducible refine K.mono ?_); rintro e w2 ⟨rfl, hb2⟩)
  go_ret
  exact ⟨rfl, hb2⟩
 ·have hex : ∃ m, m < l.length ∧ strangeB n (rd_T78 l (m : Nat)) = true := by
   false_or_by_contra
   rename_i hno
   exact hall fun i hi => by
    cases hc : strangeB n (rd_T78 l (i : Nat)) with
    | false => rfl
    | true => exact absurd ⟨i, hi, hc⟩ hno
  obtain ⟨m, ⟨hm1, hm2⟩, hmin⟩ := exists_least hex
  obtain rfl : true = r := by
   rw [← h]
   exact (List.any_eq_true.2 ⟨_, rdA_mem hm1, hm2⟩).symm
  have hbef : ∀ i : Nat, i < m → strangeB n (rd_T78 l i) = false := fun i hi => by
   cases hc : strangeB n (rd_T78 l (i : Nat)) with
   | false => rfl
   | true =>
    have := hmin i ⟨by omega, hc⟩
    omega
  have K := idxAns_some A c l n B w hB hr m hm1 hm2 hbef
  clear hall hex hmin h hm2 hbef
  go_enter Try.func114, Try.ntmps114
  go_wp2_with (go_at_call 125; (with_reducible refine K.mono ?_); rintro e w2 ⟨rfl, hb2⟩)
  go_ret
  exact ⟨rfl, hb2⟩
end Go.Proofs.Ytjpghfjaloglhaa.PContract

