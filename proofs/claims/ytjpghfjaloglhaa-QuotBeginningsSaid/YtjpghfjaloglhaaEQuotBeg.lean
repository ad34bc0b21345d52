/-
formelaw01.QuotBeginnings returns true at every quotient and numbers.
Conditions: the numbers are of their kinds.
-/
import Derived.Deep.RegionHeld3
import Derived.Test.YtjpghfjaloglhaaEQuotBegM
import Derived.Test.YtjpghfjaloglhaaEQuotHead01
namespace Go.Proofs.Ytjpghfjaloglhaa.PQuot
open Go.RowKit Go.Proofs.YtjpghfjaloglhaaW.PrintWords Go.Proofs.YtjpghfjaloglhaaW.PrintLast Go.Proofs.YtjpghfjaloglhaaW.PrintMore
set_option linter.unusedVariables false
set_option linter.unusedSimpArgs false

def formelaw01_QuotBeginnings.f (a b d n less : Int) : Option Bool := if (0 ≤ n ∧ n ≤ 65535) ∧ 0 ≤ less ∧ less ≤ 65535 then some true else none

theorem row_take {α : Type} {d : Kd α} {w : World} {A : Option Addr} {l : List α} (h : Kd.C d w A l.length l) (k : Nat) : Kd.C d w A (l.take k).length (l.take k) :=
  ⟨rfl, by have := h.2.1; rw [List.length_take]; omega, fun hn => by
    obtain ⟨ad, e, hc⟩ := h.2.2 (by rw [List.length_take] at hn; omega)
    refine ⟨ad, e, fun j p hj => hc j p ?_⟩
    rw [List.getElem?_take] at hj
    split at hj
    · exact hj
    · simp at hj⟩

set_option maxRecDepth 100000 in
set_option maxHeartbeats 400000 in
theorem beg_invalid (a b d n less : Int) (w : World) (h : formeref01_Valid.f a b d = some false) :
    Calls Try.prog 6 #[.agg #[.int .i64 a, .int .i64 b, .int .i64 d], .int .u16 n, .int .u16 less] w fun e w' => e = .returned (.bool true) ∧ Below w.heap.size w w' := by
  have B0 := (Below.refl w.heap.size w).alloc (Nat.le_refl _) (.cells #[.int .i64 a, .int .i64 b, .int .i64 d] 23)
  have hq0 := blk_new w (.cells #[.int .i64 a, .int .i64 b, .int .i64 d] 23)
  go_enter Try.func6, Try.ntmps6
  go_wp2_with fail
  (with_reducible refine (formelaw01_head.calls true _ rfl).mono ?_)
  rintro e w1 ⟨rfl, hb1⟩
  have B1 := B0.trans (hb1.mono B0.size)
  have hq1 := blk_below hq0 hb1
  have q0 : w1.cell? ⟨w.heap.size, 0, none⟩ = some (.int .i64 a) := (blk_cell hq1 0).trans rfl
  have q1 : w1.cell? ⟨w.heap.size, 1, none⟩ = some (.int .i64 b) := (blk_cell hq1 1).trans rfl
  have q2 : w1.cell? ⟨w.heap.size, 2, none⟩ = some (.int .i64 d) := (blk_cell hq1 2).trans rfl
  go_wp2_with fail
  (with_reducible refine (formeref01_Valid.calls _ _ _ false _ h).mono ?_)
  rintro e w2 ⟨rfl, hb2⟩
  go_wp2
  go_ret
  exact ⟨rfl, B1.trans (hb2.mono B1.size)⟩

set_option maxRecDepth 100000 in
set_option maxHeartbeats 400000 in
theorem beg_none (a b d n less : Int) (w : World) (hn : 0 ≤ n ∧ n ≤ 65535) (h : formeref01_Valid.f a b d = some true) (hm : formelaw01_made.f 1000 a b d (1 + n % 300) = some ([], false)) :
    Calls Try.prog 6 #[.agg #[.int .i64 a, .int .i64 b, .int .i64 d], .int .u16 n, .int .u16 less] w fun e w' => e = .returned (.bool true) ∧ Below w.heap.size w w' := by
  have B0 := (Below.refl w.heap.size w).alloc (Nat.le_refl _) (.cells #[.int .i64 a, .int .i64 b, .int .i64 d] 23)
  have hq0 := blk_new w (.cells #[.int .i64 a, .int .i64 b, .int .i64 d] 23)
  obtain ⟨hn1, hn2⟩ := hn
  go_enter Try.func6, Try.ntmps6
  go_wp2_with fail
  (with_reducible refine (formelaw01_head.calls true _ rfl).mono ?_)
  rintro e w1 ⟨rfl, hb1⟩
  have B1 := B0.trans (hb1.mono B0.size)
  have hq1 := blk_below hq0 hb1
  have q0 : w1.cell? ⟨w.heap.size, 0, none⟩ = some (.int .i64 a) := (blk_cell hq1 0).trans rfl
  have q1 : w1.cell? ⟨w.heap.size, 1, none⟩ = some (.int .i64 b) := (blk_cell hq1 1).trans rfl
  have q2 : w1.cell? ⟨w.heap.size, 2, none⟩ = some (.int .i64 d) := (blk_cell hq1 2).trans rfl
  go_wp2_with fail
  (with_reducible refine (formeref01_Valid.calls _ _ _ true _ h).mono ?_)
  rintro e w2 ⟨rfl, hb2⟩
  have B2 := B1.trans (hb2.mono B1.size)
  have hq2 := blk_below hq1 hb2
  have q0 : w2.cell? ⟨w.heap.size, 0, none⟩ = some (.int .i64 a) := (blk_cell hq2 0).trans rfl
  have q1 : w2.cell? ⟨w.heap.size, 1, none⟩ = some (.int .i64 b) := (blk_cell hq2 1).trans rfl
  have q2 : w2.cell? ⟨w.heap.size, 2, none⟩ = some (.int .i64 d) := (blk_cell hq2 2).trans rfl
  go_wp2_with fail
  (with_reducible refine (formelaw01_made.calls 1000 _ _ _ _ _ _ _ hm).mono ?_)
  rintro e w3 ⟨v0, rfl, hR, hb3⟩
  obtain ⟨A, c, rfl, hc, hC⟩ := Kd.R_reads hR
  go_wp2
  go_ret
  exact ⟨rfl, B2.trans (hb3.mono B2.size)⟩

theorem fits_at {ad : Option Addr} {c k : Nat} (l : List Int) (rA rB rD : Int) (w : World) (hk : l.length = k) (hC : Kd.C (Kd.int .i64) w ad l.length l) (hc : k ≤ c) (h : formeref01_Fits.f 5000 rA rB rD l = some true) :
    Calls Try.prog 37 #[.agg #[.int .i64 rA, .int .i64 rB, .int .i64 rD], .slice ad k c] w fun e w' => e = .returned (.bool true) ∧ Below w.heap.size w w' := by
  subst hk
  exact formeref01_Fits.calls 5000 rA rB rD ad c l true w hC hc h

set_option maxRecDepth 100000 in
set_option maxHeartbeats 1000000 in
theorem beg_some (a b d n less : Int) (w : World) (hn : 0 ≤ n ∧ n ≤ 65535) (hless : 0 ≤ less ∧ less ≤ 65535) (l : List Int) (hlen : 1 ≤ l.length) (hlen2 : l.length ≤ 300) (k : Nat) (hk : 1 ≤ k) (hkl : k ≤ l.length) (hkk : 1 + less % (l.length : Int) = k)
    (h : formeref01_Valid.f a b d = some true) (hm : formelaw01_made.f 1000 a b d (1 + n % 300) = some (l, true))
    (pA pB pD rA rB rD : Int) (f1 : quot_Fit.f l = some (pA, pB, pD, true, 0)) (f2 : quot_Fit.f (l.take k) = some (rA, rB, rD, true, 0))
    (g1 : formeref01_Valid.f pA pB pD = some true) (g2 : formeref01_Fits.f 5000 pA pB pD l = some true) (g3 : formeref01_Fits.f 5000 rA rB rD (l.take k) = some true) (g4 : formeref01_Before.f a b d pA pB pD = some false) (g5 : formeref01_Before.f pA pB pD rA rB rD = some false) :
    Calls Try.prog 6 #[.agg #[.int .i64 a, .int .i64 b, .int .i64 d], .int .u16 n, .int .u16 less] w fun e w' => e = .returned (.bool true) ∧ Below w.heap.size w w' := by
  have B0 := (Below.refl w.heap.size w).alloc (Nat.le_refl _) (.cells #[.int .i64 a, .int .i64 b, .int .i64 d] 23)
  have hq0 := blk_new w (.cells #[.int .i64 a, .int .i64 b, .int .i64 d] 23)
  obtain ⟨hn1, hn2⟩ := hn
  obtain ⟨hl1, hl2⟩ := hless
  have hz1 : 0 ≤ less % (l.length : Int) := Int.emod_nonneg _ (by omega)
  have hz2 : less % (l.length : Int) ≤ 299 := by have := Int.emod_lt_of_pos less (show 0 < (l.length : Int) by omega); omega
  go_enter Try.func6, Try.ntmps6
  go_wp2_with fail
  (with_reducible refine (formelaw01_head.calls true _ rfl).mono ?_)
  rintro e w1 ⟨rfl, hb1⟩
  have B1 := B0.trans (hb1.mono B0.size)
  have hq1 := blk_below hq0 hb1
  have q0 : w1.cell? ⟨w.heap.size, 0, none⟩ = some (.int .i64 a) := (blk_cell hq1 0).trans rfl
  have q1 : w1.cell? ⟨w.heap.size, 1, none⟩ = some (.int .i64 b) := (blk_cell hq1 1).trans rfl
  have q2 : w1.cell? ⟨w.heap.size, 2, none⟩ = some (.int .i64 d) := (blk_cell hq1 2).trans rfl
  go_wp2_with fail
  (with_reducible refine (formeref01_Valid.calls _ _ _ true _ h).mono ?_)
  rintro e w2 ⟨rfl, hb2⟩
  have B2 := B1.trans (hb2.mono B1.size)
  have hq2 := blk_below hq1 hb2
  have q0 : w2.cell? ⟨w.heap.size, 0, none⟩ = some (.int .i64 a) := (blk_cell hq2 0).trans rfl
  have q1 : w2.cell? ⟨w.heap.size, 1, none⟩ = some (.int .i64 b) := (blk_cell hq2 1).trans rfl
  have q2 : w2.cell? ⟨w.heap.size, 2, none⟩ = some (.int .i64 d) := (blk_cell hq2 2).trans rfl
  go_wp2_with fail
  (with_reducible refine (formelaw01_made.calls 1000 _ _ _ _ _ _ _ hm).mono ?_)
  rintro e w3 ⟨v0, rfl, hR, hb3⟩
  have B3 := B2.trans (hb3.mono B2.size)
  have hq3 := blk_below hq2 hb3
  obtain ⟨A, c, rfl, hc, hC3⟩ := Kd.R_reads hR
  clear hR
  obtain ⟨ad, rfl⟩ : ∃ ad, A = some ad := by
    obtain ⟨ad, e, _⟩ := Kd.at_int hC3 0 (by omega) (by omega)
    exact ⟨ad, e⟩
  go_wp2_with fail
  (with_reducible refine (quot_Fit.calls _ _ l _ _ _ _ _ _ hC3 hc f1).mono ?_)
  rintro e w4 ⟨rfl, hb4⟩
  have B4 := B3.trans (hb4.mono B3.size)
  have hq4 := blk_below hq3 hb4
  have hC4 := Kd.C_below hC3 hb4
  have hp4 := blk_new w4 (.cells #[.int .i64 pA, .int .i64 pB, .int .i64 pD] 23)
  have C4 := B4.alloc B4.size (.cells #[.int .i64 pA, .int .i64 pB, .int .i64 pD] 23)
  have hC4' := Kd.C_below hC4 ((Below.refl w4.heap.size w4).alloc (Nat.le_refl _) (.cells #[.int .i64 pA, .int .i64 pB, .int .i64 pD] 23))
  go_wp2_with fail
  have hlt : (l.take k).length = k := by rw [List.length_take]; omega
  have K5 := fit_at (c0 := c) (l.take k) rA rB rD true 0 _ hlt (row_take hC4' k) (by rw [hlt]; omega) f2
  (with_reducible refine K5.mono ?_)
  rintro e w5 ⟨rfl, hb5⟩
  go_wp2
  have B5 := C4.trans (hb5.mono C4.size)
  have C5 := B5.alloc B5.size (.cells #[.int .i64 rA, .int .i64 rB, .int .i64 rD] 23)
  have hq5 := blk_alloc (blk_below (blk_alloc hq4 (.cells #[.int .i64 pA, .int .i64 pB, .int .i64 pD] 23)) hb5) (.cells #[.int .i64 rA, .int .i64 rB, .int .i64 rD] 23)
  have hp5 := blk_alloc (blk_below hp4 hb5) (.cells #[.int .i64 rA, .int .i64 rB, .int .i64 rD] 23)
  have hr5 := blk_new w5 (.cells #[.int .i64 rA, .int .i64 rB, .int .i64 rD] 23)
  have hC5 := Kd.C_below (Kd.C_below hC4' hb5) ((Below.refl w5.heap.size w5).alloc (Nat.le_refl _) (.cells #[.int .i64 rA, .int .i64 rB, .int .i64 rD] 23))
  clear K5 hC4' hC4 hC3 hb1 hb2 hb3 hb4 hb5 hp4 hq0 hq1 hq2 hq3 hq4 B0 B1 B2 B3 B4 B5 C4 hlt f1 f2 hm h
  clear q0 q1 q2
  obtain ⟨W, hW⟩ : ∃ W, w5.alloc (.cells #[.int .i64 rA, .int .i64 rB, .int .i64 rD] 23) = W := ⟨_, rfl⟩
  rw [hW] at C5 hq5 hp5 hr5 hC5
  have q0 : W.cell? ⟨w.heap.size, 0, none⟩ = some (.int .i64 a) := (blk_cell hq5 0).trans rfl
  have q1 : W.cell? ⟨w.heap.size, 1, none⟩ = some (.int .i64 b) := (blk_cell hq5 1).trans rfl
  have q2 : W.cell? ⟨w.heap.size, 2, none⟩ = some (.int .i64 d) := (blk_cell hq5 2).trans rfl
  have p0 : W.cell? ⟨w4.heap.size, 0, none⟩ = some (.int .i64 pA) := (blk_cell hp5 0).trans rfl
  have p1 : W.cell? ⟨w4.heap.size, 1, none⟩ = some (.int .i64 pB) := (blk_cell hp5 1).trans rfl
  have p2 : W.cell? ⟨w4.heap.size, 2, none⟩ = some (.int .i64 pD) := (blk_cell hp5 2).trans rfl
  have r0 : W.cell? ⟨w5.heap.size, 0, none⟩ = some (.int .i64 rA) := (blk_cell hr5 0).trans rfl
  have r1 : W.cell? ⟨w5.heap.size, 1, none⟩ = some (.int .i64 rB) := (blk_cell hr5 1).trans rfl
  have r2 : W.cell? ⟨w5.heap.size, 2, none⟩ = some (.int .i64 rD) := (blk_cell hr5 2).trans rfl
  rw [hW]
  clear hW
  have hk0 : (0 : Int) ≤ (k : Int) := by omega
  have hk1 : (k : Int) ≤ (l.length : Int) := by omega
  have hk2 : (k : Int) ≤ (c : Int) := by omega
  have HLT : Aside0 ((l.take k).length = k) := ⟨by rw [List.length_take]; omega⟩
  go_region_held3 (fun w' => w'.cell? ⟨w.heap.size, 0, none⟩ = some (.int .i64 a) ∧ w'.cell? ⟨w.heap.size, 1, none⟩ = some (.int .i64 b) ∧ w'.cell? ⟨w.heap.size, 2, none⟩ = some (.int .i64 d) ∧ w'.cell? ⟨w4.heap.size, 0, none⟩ = some (.int .i64 pA) ∧ w'.cell? ⟨w4.heap.size, 1, none⟩ = some (.int .i64 pB) ∧ w'.cell? ⟨w4.heap.size, 2, none⟩ = some (.int .i64 pD) ∧ w'.cell? ⟨w5.heap.size, 0, none⟩ = some (.int .i64 rA) ∧ w'.cell? ⟨w5.heap.size, 1, none⟩ = some (.int .i64 rB) ∧ w'.cell? ⟨w5.heap.size, 2, none⟩ = some (.int .i64 rD)) (first | (refine ⟨?_, ?_, ?_, ?_, ?_, ?_, ?_, ?_, ?_⟩ <;> assumption)) (first
    | (go_at_call 27; (with_reducible refine (formeref01_Valid.calls _ _ _ true _ g1).mono ?_); rintro e w6 ⟨rfl, hb6⟩; replace q0 := pw_cell_below hb6 q0; replace q1 := pw_cell_below hb6 q1; replace q2 := pw_cell_below hb6 q2; replace p0 := pw_cell_below hb6 p0; replace p1 := pw_cell_below hb6 p1; replace p2 := pw_cell_below hb6 p2; replace r0 := pw_cell_below hb6 r0; replace r1 := pw_cell_below hb6 r1; replace r2 := pw_cell_below hb6 r2; replace hC5 := Kd.C_below (Kd.C_drew hC5) hb6; replace C5 := C5.drew.trans (hb6.mono C5.drew.size))
    | (go_at_call 37; (with_reducible refine (formeref01_Fits.calls 5000 _ _ _ _ _ l true _ hC5 hc g2).mono ?_); rintro e w6 ⟨rfl, hb6⟩; replace q0 := pw_cell_below hb6 q0; replace q1 := pw_cell_below hb6 q1; replace q2 := pw_cell_below hb6 q2; replace p0 := pw_cell_below hb6 p0; replace p1 := pw_cell_below hb6 p1; replace p2 := pw_cell_below hb6 p2; replace r0 := pw_cell_below hb6 r0; replace r1 := pw_cell_below hb6 r1; replace r2 := pw_cell_below hb6 r2; replace hC5 := Kd.C_below hC5 hb6; replace C5 := C5.trans (hb6.mono C5.size))
    | (go_at_call 37; have K8 := fits_at (c := c) (l.take k) rA rB rD _ HLT.out (row_take hC5 k) (by omega) g3; (with_reducible refine K8.mono ?_); rintro e w6 ⟨rfl, hb6⟩; replace q0 := pw_cell_below hb6 q0; replace q1 := pw_cell_below hb6 q1; replace q2 := pw_cell_below hb6 q2; replace p0 := pw_cell_below hb6 p0; replace p1 := pw_cell_below hb6 p1; replace p2 := pw_cell_below hb6 p2; replace r0 := pw_cell_below hb6 r0; replace r1 := pw_cell_below hb6 r1; replace r2 := pw_cell_below hb6 r2; replace hC5 := Kd.C_below hC5 hb6; replace C5 := C5.trans (hb6.mono C5.size))
    | (go_at_call 38; (with_reducible refine (formeref01_Before.calls a b d pA pB pD false _ g4).mono ?_); rintro e w6 ⟨rfl, hb6⟩; replace q0 := pw_cell_below hb6 q0; replace q1 := pw_cell_below hb6 q1; replace q2 := pw_cell_below hb6 q2; replace p0 := pw_cell_below hb6 p0; replace p1 := pw_cell_below hb6 p1; replace p2 := pw_cell_below hb6 p2; replace r0 := pw_cell_below hb6 r0; replace r1 := pw_cell_below hb6 r1; replace r2 := pw_cell_below hb6 r2; replace hC5 := Kd.C_below hC5 hb6; replace C5 := C5.trans (hb6.mono C5.size))
    | (go_at_call 38; (with_reducible refine (formeref01_Before.calls pA pB pD rA rB rD false _ g5).mono ?_); rintro e w6 ⟨rfl, hb6⟩; replace q0 := pw_cell_below hb6 q0; replace q1 := pw_cell_below hb6 q1; replace q2 := pw_cell_below hb6 q2; replace p0 := pw_cell_below hb6 p0; replace p1 := pw_cell_below hb6 p1; replace p2 := pw_cell_below hb6 p2; replace r0 := pw_cell_below hb6 r0; replace r1 := pw_cell_below hb6 r1; replace r2 := pw_cell_below hb6 r2; replace hC5 := Kd.C_below hC5 hb6; replace C5 := C5.trans (hb6.mono C5.size)))
  go_wp2
  go_ret
  exact ⟨rfl, C5⟩

end Go.Proofs.Ytjpghfjaloglhaa.PQuot
