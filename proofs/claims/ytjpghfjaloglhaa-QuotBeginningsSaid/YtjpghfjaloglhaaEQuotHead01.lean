/-
formelaw01.head returns true: the examples of the chapter, worked out.
Conditions: none.
-/
import Derived.KernelRfl
import Derived.Test.YtjpghfjaloglhaaEQuotFit
import Derived.Test.YtjpghfjaloglhaaPQuotx0
import Derived.Test.YtjpghfjaloglhaaPQuotx1
import Derived.Test.YtjpghfjaloglhaaPQuotx2
import Derived.Test.YtjpghfjaloglhaaPQuotx3
namespace Go.Proofs.Ytjpghfjaloglhaa.PQuot
open Go.RowKit Go.Proofs.YtjpghfjaloglhaaW.PrintWords Go.Proofs.YtjpghfjaloglhaaW.PrintLast Go.Proofs.YtjpghfjaloglhaaW.PrintMore
set_option linter.unusedVariables false
set_option linter.unusedSimpArgs false
attribute [local go_sem high] eqA23

/-- A row of integers that fills a block of its own. -/
theorem row_of_block {W : World} {b : Nat} (l : List Int) {t : TypeId} (h : W.heap[b]? = some (.cells (l.map (Value.int .i64)).toArray t (0, 0))) (hl : l.length ≤ 9223372036854775807) : Kd.C (Kd.int .i64) W (some ⟨b, 0, none⟩) l.length l := by
  refine Kd.C_of_reads (d := (0 : Int)) (h1 := fun _ => rfl) ⟨rfl, hl, fun _ => ⟨_, rfl, fun j hj => ?_⟩⟩
  have h2 := blk_cell h j
  have e : (Addr.add ⟨b, 0, none⟩ j) = ⟨b, j, none⟩ := by
    unfold Addr.add
    by_cases h0 : j = 0
    · subst h0
      rfl
    · rw [if_neg h0]
      simp
  rw [e, h2]
  simp [List.getD_eq_getElem?_getD, hj]
theorem row_nil (W : World) : Kd.C (Kd.int .i64) W none 0 [] := ⟨rfl, by omega, fun h => by omega⟩

theorem fit_at {A0 : Option Addr} {n c0 : Nat} (l0 : List Int) (r1 : Int) (r2 : Int) (r3 : Int) (r4 : Bool) (r5 : Int) (w : World) (hn : l0.length = n) (hr0 : Kd.C (Kd.int .i64) w A0 l0.length l0) (hc0 : l0.length ≤ c0) (h : quot_Fit.f l0 = some (r1, r2, r3, r4, r5)) :
    Calls Try.prog 30 #[.slice A0 n c0] w fun e w' => e = .returned (.tuple #[.agg #[.int .i64 r1, .int .i64 r2, .int .i64 r3], .bool r4, .int .i64 r5]) ∧ Below w.heap.size w w' := by
  subst hn
  exact quot_Fit.calls A0 c0 l0 r1 r2 r3 r4 r5 w hr0 hc0 h

def formelaw01_head.f : Option Bool := some true

set_option maxRecDepth 100000 in
set_option maxHeartbeats 1000000 in
theorem formelaw01_head.calls (r : Bool) (w : World) (h : formelaw01_head.f = some r) : Calls Try.prog 23 #[] w fun e w' => e = .returned (.bool r) ∧ Below w.heap.size w w' := by
  obtain rfl : true = r := by simpa [formelaw01_head.f] using h
  clear h
  have E1 : quot_At.f 1 1 2 3 = some (2, 0) := by kernel_rfl
  have E2 : quot_At.f (-1) 0 3 1 = some (-1, 0) := by kernel_rfl
  have E3 : quot_Fit.f [7] = some (0, 7, 1, true, 0) := by kernel_rfl
  have E4 : quot_Fit.f [0, 0, 1, 1, 2] = some (1, 0, 2, true, 0) := by kernel_rfl
  have E5 : quot_Fit.f [0, 1, 3] = some (3, 0, 2, true, 0) := by kernel_rfl
  have E6 : quot_Fit.f [0, 5, 0] = some (0, 0, 0, false, 0) := by kernel_rfl
  have E7 : quot_Add.f 5 1 0 2 5 = some (1, 10, 2, 0) := by kernel_rfl
  have E8 : quot_Below.f 20 0 2 1 1 0 1 10 = some (3, true, 0) := by kernel_rfl
  have E9 : quot_Fit.f [] = some (0, 0, 0, false, 1) := by kernel_rfl
  have E10 : quot_Valid.f 0 7 1 = some true := by kernel_rfl
  go_enter Try.func23, Try.ntmps23
  go_wp2_with fail
  (with_reducible refine (quot_At.calls _ _ _ _ _ _ _ E1).mono ?_)
  rintro e w1 ⟨rfl, hb1⟩
  go_wp2_with fail
  (with_reducible refine (quot_At.calls _ _ _ _ _ _ _ E2).mono ?_)
  rintro e w2 ⟨rfl, hb2⟩
  have B2 := hb1.trans (hb2.mono hb1.size)
  go_wp2_with fail
  have R3 : Kd.C (Kd.int .i64) (w2.alloc (.cells #[.int .i64 7] 3)) (some ⟨w2.heap.size, 0, none⟩) ([7] : List Int).length [7] := row_of_block [7] (blk_new w2 _) (by simp)
  have K3 := fit_at (n := 1) (c0 := 1) [7] _ _ _ _ _ _ rfl R3 (Nat.le_refl 1) E3
  (with_reducible refine K3.mono ?_)
  rintro e w3 ⟨rfl, hb3⟩
  have B3 := (B2.alloc B2.size (.cells #[.int .i64 7] 3)).trans (hb3.mono (B2.alloc B2.size _).size)
  have hp_v3 := blk_new w3 (.cells #[.int .i64 0, .int .i64 7, .int .i64 1] 23)
  have C3 := B3.alloc B3.size (.cells #[.int .i64 0, .int .i64 7, .int .i64 1] 23)
  go_wp2_with fail
  have R4 : Kd.C (Kd.int .i64) ((w3.alloc (.cells #[.int .i64 0, .int .i64 7, .int .i64 1] 23)).alloc (.cells #[.int .i64 0, .int .i64 0, .int .i64 1, .int .i64 1, .int .i64 2] 3)) (some ⟨(w3.alloc (.cells #[.int .i64 0, .int .i64 7, .int .i64 1] 23)).heap.size, 0, none⟩) ([0, 0, 1, 1, 2] : List Int).length [0, 0, 1, 1, 2] := row_of_block [0, 0, 1, 1, 2] (blk_new (w3.alloc (.cells #[.int .i64 0, .int .i64 7, .int .i64 1] 23)) _) (by simp)
  have K4 := fit_at (n := 5) (c0 := 5) [0, 0, 1, 1, 2] _ _ _ _ _ _ rfl R4 (Nat.le_refl 5) E4
  rw [World.size_alloc] at K4
  (with_reducible refine K4.mono ?_)
  rintro e w4 ⟨rfl, hb4⟩
  have B4 := (C3.alloc C3.size (.cells #[.int .i64 0, .int .i64 0, .int .i64 1, .int .i64 1, .int .i64 2] 3)).trans (hb4.mono (C3.alloc C3.size _).size)
  have hp_w4 := blk_below (blk_alloc hp_v3 (.cells #[.int .i64 0, .int .i64 0, .int .i64 1, .int .i64 1, .int .i64 2] 3)) hb4
  have hp_v4 := blk_alloc hp_w4 (.cells #[.int .i64 1, .int .i64 0, .int .i64 2] 23)
  have hq_v4 := blk_new w4 (.cells #[.int .i64 1, .int .i64 0, .int .i64 2] 23)
  have C4 := B4.alloc B4.size (.cells #[.int .i64 1, .int .i64 0, .int .i64 2] 23)
  go_wp2_with fail
  have R5 : Kd.C (Kd.int .i64) ((w4.alloc (.cells #[.int .i64 1, .int .i64 0, .int .i64 2] 23)).alloc (.cells #[.int .i64 0, .int .i64 1, .int .i64 3] 3)) (some ⟨(w4.alloc (.cells #[.int .i64 1, .int .i64 0, .int .i64 2] 23)).heap.size, 0, none⟩) ([0, 1, 3] : List Int).length [0, 1, 3] := row_of_block [0, 1, 3] (blk_new (w4.alloc (.cells #[.int .i64 1, .int .i64 0, .int .i64 2] 23)) _) (by simp)
  have K5 := fit_at (n := 3) (c0 := 3) [0, 1, 3] _ _ _ _ _ _ rfl R5 (Nat.le_refl 3) E5
  rw [World.size_alloc] at K5
  (with_reducible refine K5.mono ?_)
  rintro e w5 ⟨rfl, hb5⟩
  have B5 := (C4.alloc C4.size (.cells #[.int .i64 0, .int .i64 1, .int .i64 3] 3)).trans (hb5.mono (C4.alloc C4.size _).size)
  have hp_w5 := blk_below (blk_alloc hp_v4 (.cells #[.int .i64 0, .int .i64 1, .int .i64 3] 3)) hb5
  have hq_w5 := blk_below (blk_alloc hq_v4 (.cells #[.int .i64 0, .int .i64 1, .int .i64 3] 3)) hb5
  have hp_v5 := blk_alloc hp_w5 (.cells #[.int .i64 3, .int .i64 0, .int .i64 2] 23)
  have hq_v5 := blk_alloc hq_w5 (.cells #[.int .i64 3, .int .i64 0, .int .i64 2] 23)
  have hr_v5 := blk_new w5 (.cells #[.int .i64 3, .int .i64 0, .int .i64 2] 23)
  have C5 := B5.alloc B5.size (.cells #[.int .i64 3, .int .i64 0, .int .i64 2] 23)
  go_wp2_with fail
  have R6 : Kd.C (Kd.int .i64) ((w5.alloc (.cells #[.int .i64 3, .int .i64 0, .int .i64 2] 23)).alloc (.cells #[.int .i64 0, .int .i64 5, .int .i64 0] 3)) (some ⟨(w5.alloc (.cells #[.int .i64 3, .int .i64 0, .int .i64 2] 23)).heap.size, 0, none⟩) ([0, 5, 0] : List Int).length [0, 5, 0] := row_of_block [0, 5, 0] (blk_new (w5.alloc (.cells #[.int .i64 3, .int .i64 0, .int .i64 2] 23)) _) (by simp)
  have K6 := fit_at (n := 3) (c0 := 3) [0, 5, 0] _ _ _ _ _ _ rfl R6 (Nat.le_refl 3) E6
  rw [World.size_alloc] at K6
  (with_reducible refine K6.mono ?_)
  rintro e w6 ⟨rfl, hb6⟩
  have B6 := (C5.alloc C5.size (.cells #[.int .i64 0, .int .i64 5, .int .i64 0] 3)).trans (hb6.mono (C5.alloc C5.size _).size)
  have hp_w6 := blk_below (blk_alloc hp_v5 (.cells #[.int .i64 0, .int .i64 5, .int .i64 0] 3)) hb6
  have hq_w6 := blk_below (blk_alloc hq_v5 (.cells #[.int .i64 0, .int .i64 5, .int .i64 0] 3)) hb6
  have hr_w6 := blk_below (blk_alloc hr_v5 (.cells #[.int .i64 0, .int .i64 5, .int .i64 0] 3)) hb6
  have hp_v6 := blk_alloc hp_w6 (.cells #[.int .i64 0, .int .i64 0, .int .i64 0] 23)
  have hq_v6 := blk_alloc hq_w6 (.cells #[.int .i64 0, .int .i64 0, .int .i64 0] 23)
  have hr_v6 := blk_alloc hr_w6 (.cells #[.int .i64 0, .int .i64 0, .int .i64 0] 23)
  have C6 := B6.alloc B6.size (.cells #[.int .i64 0, .int .i64 0, .int .i64 0] 23)
  go_wp2_with fail
  (with_reducible refine (quot_Add.calls 5 _ _ _ _ _ _ _ _ _ E7).mono ?_)
  rintro e w7 ⟨rfl, hb7⟩
  have B7 := C6.trans (hb7.mono C6.size)
  have hp_w7 := blk_below hp_v6 hb7
  have hq_w7 := blk_below hq_v6 hb7
  have hr_w7 := blk_below hr_v6 hb7
  have hp_v7 := blk_alloc hp_w7 (.cells #[.int .i64 1, .int .i64 10, .int .i64 2] 23)
  have hq_v7 := blk_alloc hq_w7 (.cells #[.int .i64 1, .int .i64 10, .int .i64 2] 23)
  have hr_v7 := blk_alloc hr_w7 (.cells #[.int .i64 1, .int .i64 10, .int .i64 2] 23)
  have hs_v7 := blk_new w7 (.cells #[.int .i64 1, .int .i64 10, .int .i64 2] 23)
  have C7 := B7.alloc B7.size (.cells #[.int .i64 1, .int .i64 10, .int .i64 2] 23)
  go_wp2_with fail
  (with_reducible refine (quot_Below.calls 20 _ _ _ _ _ _ _ _ _ _ _ E8).mono ?_)
  rintro e w8 ⟨rfl, hb8⟩
  have B8 := C7.trans (hb8.mono C7.size)
  have hp_w8 := blk_below hp_v7 hb8
  have hq_w8 := blk_below hq_v7 hb8
  have hr_w8 := blk_below hr_v7 hb8
  have hs_w8 := blk_below hs_v7 hb8
  go_wp2_with fail
  have K9 := fit_at (n := 0) (c0 := 0) [] _ _ _ _ _ _ rfl (row_nil w8) (Nat.le_refl 0) E9
  (with_reducible refine K9.mono ?_)
  rintro e w9 ⟨rfl, hb9⟩
  have B9 := B8.trans (hb9.mono B8.size)
  have hp_w9 := blk_below hp_w8 hb9
  have hq_w9 := blk_below hq_w8 hb9
  have hr_w9 := blk_below hr_w8 hb9
  have hs_w9 := blk_below hs_w8 hb9
  have hp_v9 := blk_alloc hp_w9 (.cells #[.int .i64 0, .int .i64 0, .int .i64 0] 23)
  have hq_v9 := blk_alloc hq_w9 (.cells #[.int .i64 0, .int .i64 0, .int .i64 0] 23)
  have hr_v9 := blk_alloc hr_w9 (.cells #[.int .i64 0, .int .i64 0, .int .i64 0] 23)
  have hs_v9 := blk_alloc hs_w9 (.cells #[.int .i64 0, .int .i64 0, .int .i64 0] 23)
  have C9 := B9.alloc B9.size (.cells #[.int .i64 0, .int .i64 0, .int .i64 0] 23)
  have p0 : (w9.alloc (.cells #[.int .i64 0, .int .i64 0, .int .i64 0] 23)).cell? ⟨w3.heap.size, 0, none⟩ = some (.int .i64 0) := (blk_cell hp_v9 0).trans rfl
  have p1 : (w9.alloc (.cells #[.int .i64 0, .int .i64 0, .int .i64 0] 23)).cell? ⟨w3.heap.size, 1, none⟩ = some (.int .i64 7) := (blk_cell hp_v9 1).trans rfl
  have p2 : (w9.alloc (.cells #[.int .i64 0, .int .i64 0, .int .i64 0] 23)).cell? ⟨w3.heap.size, 2, none⟩ = some (.int .i64 1) := (blk_cell hp_v9 2).trans rfl
  have q0 : (w9.alloc (.cells #[.int .i64 0, .int .i64 0, .int .i64 0] 23)).cell? ⟨w4.heap.size, 0, none⟩ = some (.int .i64 1) := (blk_cell hq_v9 0).trans rfl
  have q1 : (w9.alloc (.cells #[.int .i64 0, .int .i64 0, .int .i64 0] 23)).cell? ⟨w4.heap.size, 1, none⟩ = some (.int .i64 0) := (blk_cell hq_v9 1).trans rfl
  have q2 : (w9.alloc (.cells #[.int .i64 0, .int .i64 0, .int .i64 0] 23)).cell? ⟨w4.heap.size, 2, none⟩ = some (.int .i64 2) := (blk_cell hq_v9 2).trans rfl
  have r0 : (w9.alloc (.cells #[.int .i64 0, .int .i64 0, .int .i64 0] 23)).cell? ⟨w5.heap.size, 0, none⟩ = some (.int .i64 3) := (blk_cell hr_v9 0).trans rfl
  have r1 : (w9.alloc (.cells #[.int .i64 0, .int .i64 0, .int .i64 0] 23)).cell? ⟨w5.heap.size, 1, none⟩ = some (.int .i64 0) := (blk_cell hr_v9 1).trans rfl
  have r2 : (w9.alloc (.cells #[.int .i64 0, .int .i64 0, .int .i64 0] 23)).cell? ⟨w5.heap.size, 2, none⟩ = some (.int .i64 2) := (blk_cell hr_v9 2).trans rfl
  have s0 : (w9.alloc (.cells #[.int .i64 0, .int .i64 0, .int .i64 0] 23)).cell? ⟨w7.heap.size, 0, none⟩ = some (.int .i64 1) := (blk_cell hs_v9 0).trans rfl
  have s1 : (w9.alloc (.cells #[.int .i64 0, .int .i64 0, .int .i64 0] 23)).cell? ⟨w7.heap.size, 1, none⟩ = some (.int .i64 10) := (blk_cell hs_v9 1).trans rfl
  have s2 : (w9.alloc (.cells #[.int .i64 0, .int .i64 0, .int .i64 0] 23)).cell? ⟨w7.heap.size, 2, none⟩ = some (.int .i64 2) := (blk_cell hs_v9 2).trans rfl
  go_wp2_with fail
  (with_reducible refine (quot_Valid.calls _ _ _ _ _ E10).mono ?_)
  rintro e w10 ⟨rfl, hb10⟩
  go_wp2
  go_ret
  exact ⟨rfl, C9.trans (hb10.mono C9.size)⟩

end Go.Proofs.Ytjpghfjaloglhaa.PQuot
