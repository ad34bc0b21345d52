import Derived.Test.YtjpghfjaloglhaaZMRPCurvex0
import Derived.Test.YtjpghfjaloglhaaZMRPCurvex7
import Derived.Test.YtjpghfjaloglhaaZMRPCurvex14
import Derived.Test.YtjpghfjaloglhaaZMRPCurvex16
namespace Go.Proofs.Ytjpghfjaloglhaa.PCurve
open Go.RowKit Go.Proofs.YtjpghfjaloglhaaW.PrintWords Go.Proofs.YtjpghfjaloglhaaW.PrintLast Go.Proofs.YtjpghfjaloglhaaW.PrintMore
attribute [local go_sem] max2_int min2_int max_two min_two max_three min_three max_four min_four   -- for this text's walks alone
set_option linter.unusedVariables false
set_option linter.unusedSimpArgs false
mutual
def formeref02_all.l0 : Nat → List (S61) → List Int → Int → Option (List Int × Bool)
 | 0, _, _, _ => none
 | k + 1, x0, x4, x5 => if x5 < (x0.length : Int) then (if 0 ≤ x5 then ((formeref01_Valid.f ((rd_T61 x0 x5).f2.f0) ((rd_T61 x0 x5).f2.f1) ((rd_T61 x0 x5).f2.f2)).bind fun t372 => (if t372 = true then (if ((rd_T61 x0 x5).f0) < 0 then (formeref02_all.j1 k x0 x4 x5 true ((rd_T61 x0 x5).f0) ((rd_T61 x0 x5).f1) ((rd_T61 x0 x5).f2.f0) ((rd_T61 x0 x5).f2.f1) ((rd_T61 x0 x5).f2.f2)) else (if ((rd_T61 x0 x5).f1) ≤ ((rd_T61 x0 x5).f0) then (formeref02_all.j1 k x0 x4 x5 true ((rd_T61 x0 x5).f0) ((rd_T61 x0 x5).f1) ((rd_T61 x0 x5).f2.f0) ((rd_T61 x0 x5).f2.f1) ((rd_T61 x0 x5).f2.f2)) else (if ((rd_T61 x0 x5).f1) > 4001 then (formeref02_all.j1 k x0 x4 x5 true ((rd_T61 x0 x5).f0) ((rd_T61 x0 x5).f1) ((rd_T61 x0 x5).f2.f0) ((rd_T61 x0 x5).f2.f1) ((rd_T61 x0 x5).f2.f2)) else (if x5 > 0 then (if 0 ≤ (wrap64 (x5 - 1)) then (if (wrap64 (x5 - 1)) < (x0.length : Int) then (formeref02_all.j1 k x0 x4 x5 (((rd_T61 x0 x5).f0) != ((rd_T61 x0 (wrap64 (x5 - 1))).f1)) ((rd_T61 x0 x5).f0) ((rd_T61 x0 x5).f1) ((rd_T61 x0 x5).f2.f0) ((rd_T61 x0 x5).f2.f1) ((rd_T61 x0 x5).f2.f2)) else (none)) else (none)) else (formeref02_all.j1 k x0 x4 x5 false ((rd_T61 x0 x5).f0) ((rd_T61 x0 x5).f1) ((rd_T61 x0 x5).f2.f0) ((rd_T61 x0 x5).f2.f1) ((rd_T61 x0 x5).f2.f2)))))) else (formeref02_all.j1 k x0 x4 x5 true ((rd_T61 x0 x5).f0) ((rd_T61 x0 x5).f1) ((rd_T61 x0 x5).f2.f0) ((rd_T61 x0 x5).f2.f1) ((rd_T61 x0 x5).f2.f2)))) else (none)) else (if (x4.length : Int) ≥ 1 then (some (x4, decide ((x4.length : Int) ≤ 4000))) else (some (x4, false)))
def formeref02_all.j1 : Nat → List (S61) → List Int → Int → Bool → Int → Int → Int → Int → Int → Option (List Int × Bool)
 | 0, _, _, _, _, _, _, _, _, _ => none
 | k + 1, x0, x4, x5, x57, x372000, x372001, x372002, x372003, x372004 => if x57 = true then (some (([] : List Int), false)) else (formeref02_all.l1 k x0 x4 x5 x372000 x372000 x372001 x372002 x372003 x372004)
def formeref02_all.l1 : Nat → List (S61) → List Int → Int → Int → Int → Int → Int → Int → Int → Option (List Int × Bool)
 | 0, _, _, _, _, _, _, _, _, _ => none
 | k + 1, x0, x4, x5, x8, x372000, x372001, x372002, x372003, x372004 => if x8 < x372001 then ((formeref01_Value.f x372002 x372003 x372004 (wrap64 (x8 - x372000))).bind fun t374 => ((formeref01_Coord.f t374).bind fun t375 => (if t375 = true then (if x4.length < 17592186044416 then (formeref02_all.l1 k x0 (x4 ++ [t374]) x5 (wrap64 (x8 + 1)) x372000 x372001 x372002 x372003 x372004) else (none)) else (some (([] : List Int), false))))) else (formeref02_all.l0 k x0 x4 (wrap64 (x5 + 1)))
end
def formeref02_all.f (k : Nat) (l0 : List (S61)) : Option (List Int × Bool) := formeref02_all.l0 k l0 ([] : List Int) 0
theorem formeref02_all.mono_l : ∀ k, (∀ y0 y1 y2, LeO (formeref02_all.l0 k y0 y1 y2) (formeref02_all.l0 (k + 1) y0 y1 y2)) ∧ (∀ y0 y1 y2 y3 y4 y5 y6 y7 y8, LeO (formeref02_all.j1 k y0 y1 y2 y3 y4 y5 y6 y7 y8) (formeref02_all.j1 (k + 1) y0 y1 y2 y3 y4 y5 y6 y7 y8)) ∧ (∀ y0 y1 y2 y3 y4 y5 y6 y7 y8, LeO (formeref02_all.l1 k y0 y1 y2 y3 y4 y5 y6 y7 y8) (formeref02_all.l1 (k + 1) y0 y1 y2 y3 y4 y5 y6 y7 y8))
 | 0 => ⟨fun _ _ _ r h => by simp [formeref02_all.l0] at h, fun _ _ _ _ _ _ _ _ _ r h => by simp [formeref02_all.j1] at h, fun _ _ _ _ _ _ _ _ _ r h => by simp [formeref02_all.l1] at h⟩
 | k + 1 => by
  obtain ⟨ih0, ih1, ih2⟩ := formeref02_all.mono_l k
  refine ⟨?_, ?_, ?_⟩
  ·intro y0 y1 y2
   unfold formeref02_all.l0
   repeat' first
   | (with_reducible exact ih0 _ _ _)
   | (with_reducible exact ih1 _ _ _ _ _ _ _ _ _)
   | (with_reducible exact ih2 _ _ _ _ _ _ _ _ _)
   | (with_reducible exact LeO.refl _)
   | (with_reducible exact LeO.none _)
   | (with_reducible refine LeO.ite ?_ ?_)
   | (with_reducible refine LeO.bind ?_ (fun _ => ?_))
   | exact ih0 _ _ _
   | exact ih1 _ _ _ _ _ _ _ _ _
   | exact ih2 _ _ _ _ _ _ _ _ _
   | exact LeO.none _
   | refine LeO.ite ?_ ?_
   | refine LeO.bind ?_ (fun _ => ?_)
  ·intro y0 y1 y2 y3 y4 y5 y6 y7 y8
   unfold formeref02_all.j1
   repeat' first
   | (with_reducible exact ih0 _ _ _)
   | (with_reducible exact ih1 _ _ _ _ _ _ _ _ _)
   | (with_reducible exact ih2 _ _ _ _ _ _ _ _ _)
   | (with_reducible exact LeO.refl _)
   | (with_reducible exact LeO.none _)
   | (with_reducible refine LeO.ite ?_ ?_)
   | (with_reducible refine LeO.bind ?_ (fun _ => ?_))
   | exact ih0 _ _ _
   | exact ih1 _ _ _ _ _ _ _ _ _
   | exact ih2 _ _ _ _ _ _ _ _ _
   | exact LeO.none _
   | refine LeO.ite ?_ ?_
   | refine LeO.bind ?_ (fun _ => ?_)
  ·intro y0 y1 y2 y3 y4 y5 y6 y7 y8
   unfold formeref02_all.l1
   repeat' first
   | (with_reducible exact ih0 _ _ _)
   | (with_reducible exact ih1 _ _ _ _ _ _ _ _ _)
   | (with_reducible exact ih2 _ _ _ _ _ _ _ _ _)
   | (with_reducible exact LeO.refl _)
   | (with_reducible exact LeO.none _)
   | (with_reducible refine LeO.ite ?_ ?_)
   | (with_reducible refine LeO.bind ?_ (fun _ => ?_))
   | exact ih0 _ _ _
   | exact ih1 _ _ _ _ _ _ _ _ _
   | exact ih2 _ _ _ _ _ _ _ _ _
   | exact LeO.none _
   | refine LeO.ite ?_ ?_
   | refine LeO.bind ?_ (fun _ => ?_)
theorem formeref02_all.mono : ∀ a0 k, LeO (formeref02_all.f k a0) (formeref02_all.f (k + 1) a0) := by
 intro a0 k
 obtain ⟨ih0, ih1, ih2⟩ := formeref02_all.mono_l k
 unfold formeref02_all.f
 repeat' first
   | (with_reducible exact ih0 _ _ _)
   | (with_reducible exact ih1 _ _ _ _ _ _ _ _ _)
   | (with_reducible exact ih2 _ _ _ _ _ _ _ _ _)
   | (with_reducible exact LeO.refl _)
   | (with_reducible exact LeO.none _)
   | (with_reducible refine LeO.ite ?_ ?_)
   | (with_reducible refine LeO.bind ?_ (fun _ => ?_))
   | exact ih0 _ _ _
   | exact ih1 _ _ _ _ _ _ _ _ _
   | exact ih2 _ _ _ _ _ _ _ _ _
   | exact LeO.none _
   | refine LeO.ite ?_ ?_
   | refine LeO.bind ?_ (fun _ => ?_)
set_option maxHeartbeats 8000000 in
set_option maxRecDepth 100000 in
theorem formeref02_all.calls (k : Nat) (A0 : Option Addr) (c0 : Nat) (l0 : List (S61)) (r1 : List Int) (r2 : Bool) (w : World) (hr0 : Kd.C k61 w A0 l0.length l0) (hc0 : l0.length ≤ c0) (h : formeref02_all.f k l0 = some (r1, r2)) :
  Calls Try.prog 91 #[.slice A0 l0.length c0] w fun e w' => ∃ v0_ : Value, e = .returned (.tuple #[v0_, .bool r2]) ∧ Kd.R (Kd.int .i64) 3 w' w.heap.size (fun _ => True) v0_ r1 ∧ Below w.heap.size w w' := by
 have hu61 := Try.underlying61
 have hu23 := Try.underlying23
 have HR0 := Aside0.mk hr0
 have HC0 := Aside0.mk hc0
 clear hr0 hc0
 have HB := Aside0.mk (Below.refl w.heap.size w)
 have H : (formeref02_all.l0 k l0 ([] : List Int) 0) = some (r1, r2) := h
 clear h
 have H' := Aside0.mk H
 clear H
 go_enter Try.func91, Try.ntmps91
 go_wp2
 repeat (go_quiet (fail); try go_wp2)
 go_loopg [4, 5] k (fun kq v4 v5 w' => ∃ (x4_1 : List Int) (x5_1 : Int), v5 = .int .i64 x5_1 ∧ Aside0 (formeref02_all.l0 kq l0 x4_1 x5_1 = some (r1, r2)) ∧ Aside0 (kq ≤ k) ∧ Aside0 (Kd.R (Kd.int .i64) 3 w' w.heap.size (fun _ => True) v4 x4_1) ∧ Aside0 (Below w.heap.size w w'))
 case atStart => exact ⟨(([] : List Int)), (0), (by first | rfl | (simp; done) | (simp [*]; done)), H', ⟨Nat.le_refl _⟩, ⟨by first | exact Kd.R_nil _ _ _ _ _ | exact Kd.N_nil _ _ _ _ _ | exact Kd.V_nil _ _ _ _ _ | exact Kd.Q_nil _ _ _ _ _ | exact Kd.S_nil _ _ _ _ _⟩, ⟨by repeat (first | (with_reducible first | exact HB.out | apply below_alloc | apply pw_below_drewN | apply below_drew1) | exact HB.out)⟩⟩
 case round =>
  clear H'
  obtain ⟨x4_1, x5_1, rfl, HA, HK1, HO_4, HB⟩ := hrel
  cases gk with
  | zero => exact absurd HA.out (by simp [formeref02_all.l0])
  | succ k1 =>
   have H := HA.out
   clear HA
   simp only [formeref02_all.l0] at H
   by_cases c2 : x5_1 < (l0.length : Int)
   ·rw [if_pos c2] at H
    have c2b0 : decide (x5_1 < (l0.length : Int)) = true := decide_eq_true c2
    clear c2
    by_cases c3 : 0 ≤ x5_1
    ·rw [if_pos c3] at H
     have c3b0 : decide (0 ≤ x5_1) = true := decide_eq_true c3
     clear c3
     replace H := Option.bind_eq_some_iff.mp H
     obtain ⟨t372, A40, H⟩ := H
     replace H : (if t372 = true then (if ((rd_T61 l0 x5_1).f0) < 0 then (formeref02_all.j1 k1 l0 x4_1 x5_1 true ((rd_T61 l0 x5_1).f0) ((rd_T61 l0 x5_1).f1) ((rd_T61 l0 x5_1).f2.f0) ((rd_T61 l0 x5_1).f2.f1) ((rd_T61 l0 x5_1).f2.f2)) else (if ((rd_T61 l0 x5_1).f1) ≤ ((rd_T61 l0 x5_1).f0) then (formeref02_all.j1 k1 l0 x4_1 x5_1 true ((rd_T61 l0 x5_1).f0) ((rd_T61 l0 x5_1).f1) ((rd_T61 l0 x5_1).f2.f0) ((rd_T61 l0 x5_1).f2.f1) ((rd_T61 l0 x5_1).f2.f2)) else (if ((rd_T61 l0 x5_1).f1) > 4001 then (formeref02_all.j1 k1 l0 x4_1 x5_1 true ((rd_T61 l0 x5_1).f0) ((rd_T61 l0 x5_1).f1) ((rd_T61 l0 x5_1).f2.f0) ((rd_T61 l0 x5_1).f2.f1) ((rd_T61 l0 x5_1).f2.f2)) else (if x5_1 > 0 then (if 0 ≤ (wrap64 (x5_1 - 1)) then (if (wrap64 (x5_1 - 1)) < (l0.length : Int) then (formeref02_all.j1 k1 l0 x4_1 x5_1 (((rd_T61 l0 x5_1).f0) != ((rd_T61 l0 (wrap64 (x5_1 - 1))).f1)) ((rd_T61 l0 x5_1).f0) ((rd_T61 l0 x5_1).f1) ((rd_T61 l0 x5_1).f2.f0) ((rd_T61 l0 x5_1).f2.f1) ((rd_T61 l0 x5_1).f2.f2)) else (none)) else (none)) else (formeref02_all.j1 k1 l0 x4_1 x5_1 false ((rd_T61 l0 x5_1).f0) ((rd_T61 l0 x5_1).f1) ((rd_T61 l0 x5_1).f2.f0) ((rd_T61 l0 x5_1).f2.f1) ((rd_T61 l0 x5_1).f2.f2)))))) else (formeref02_all.j1 k1 l0 x4_1 x5_1 true ((rd_T61 l0 x5_1).f0) ((rd_T61 l0 x5_1).f1) ((rd_T61 l0 x5_1).f2.f0) ((rd_T61 l0 x5_1).f2.f1) ((rd_T61 l0 x5_1).f2.f2))) = some (r1, r2) := H
     have A4 := Aside0.mk A40
     clear A40
     have HC5 := Aside0.mk H
     clear H
     have p370 : 0 ≤ (x5_1 : Int) := of_decide_eq_true (by first | (with_reducible assumption) | assumption)
     have q370 : x5_1 < (l0.length : Int) := of_decide_eq_true (by first | (with_reducible assumption) | assumption)
     obtain ⟨ad370, e370, hx370_0, hx370_1, hx370_2, hx370_3, hx370_4⟩ := at_T61 HR0.out x5_1 p370 q370
     cases e370
     replace hx370_0 := (HB.out.cell (World.block_lt_of_cell? w _ hx370_0)).trans hx370_0
     replace hx370_1 := (HB.out.cell (World.block_lt_of_cell? w _ hx370_1)).trans hx370_1
     replace hx370_2 := (HB.out.cell (World.block_lt_of_cell? w _ hx370_2)).trans hx370_2
     replace hx370_3 := (HB.out.cell (World.block_lt_of_cell? w _ hx370_3)).trans hx370_3
     replace hx370_4 := (HB.out.cell (World.block_lt_of_cell? w _ hx370_4)).trans hx370_4
     replace p370 := eq_true p370
     replace q370 := eq_true q370
     go_upto_region 7 with (first | ((with_reducible refine gate_dst (N := 6) rfl ?_); (try (refine gate_guard (by rfl) ?_; dsimp only)); refine box_event ?hg (N := 6) ?hd (cs := #[.int .i64 0, .int .i64 0, .int .i64 0, .int .i64 0, .int .i64 0]) (t := 61) ?hr ?_; (case hd => rfl); (case hg => rfl); (case hr => first | (go_simp; done) | (go_simp; rfl)); intro gb371 hg w6 hbox hb; have n0_ := Aside0.mk (Kd.R_below (by (with_reducible repeat (first | apply Kd.R_alloc | apply Kd.R_drewN | apply Kd.R_drew)); exact HO_4.out) hb); have n1_ := Aside0.mk (below_step (by repeat (first | (with_reducible first | exact HB.out | apply below_alloc | apply pw_below_drewN | apply below_drew1) | exact HB.out)) hb); have n2_ := Aside0.mk (hbox); have n3_ := Aside0.mk ((by rw [hg]; exact (below_size (by repeat (first | (with_reducible first | exact HB.out | apply below_alloc | apply pw_below_drewN | apply below_drew1) | exact HB.out))) : w.heap.size ≤ gb371)); have n4_ := Aside0.mk ((by rw [hg]; exact (below_size (by repeat (first | (with_reducible first | exact HB.out | apply below_alloc | apply pw_below_drewN | apply below_drew1) | exact HB.out))) : w.heap.size ≤ gb371)); clear HO_4; clear HB; have HO_4 := n0_; have HB := n1_; have BK371 := n2_; have GW371 := n3_; have GE371 := n4_; clear n0_ n1_ n2_ n3_ n4_; clear hb hbox hg; have hcz7_0 : w6.cell? ⟨gb371, 0, none⟩ = some (.int .i64 0) := (blk_cell BK371.out 0).trans rfl; have hcz7_1 : w6.cell? ⟨gb371, 1, none⟩ = some (.int .i64 0) := (blk_cell BK371.out 1).trans rfl; have hcz7_2 : w6.cell? ⟨gb371, 2, none⟩ = some (.int .i64 0) := (blk_cell BK371.out 2).trans rfl; have hcz7_3 : w6.cell? ⟨gb371, 3, none⟩ = some (.int .i64 0) := (blk_cell BK371.out 3).trans rfl; have hcz7_4 : w6.cell? ⟨gb371, 4, none⟩ = some (.int .i64 0) := (blk_cell BK371.out 4).trans rfl; have hfz7_0 := blk_frozen BK371.out 0; have hfz7_1 := blk_frozen BK371.out 1; have hfz7_2 := blk_frozen BK371.out 2; have hfz7_3 := blk_frozen BK371.out 3; have hfz7_4 := blk_frozen BK371.out 4) | (go_at_call 27; (with_reducible refine (formeref01_Valid.calls ((rd_T61 l0 x5_1).f2.f0) ((rd_T61 l0 x5_1).f2.f1) ((rd_T61 l0 x5_1).f2.f2) t372 _ A4.out).mono ?_); rintro e w8 ⟨rfl, hb⟩; have n0_ := Aside0.mk (Kd.R_below (by (with_reducible repeat (first | apply Kd.R_alloc | apply Kd.R_drewN | apply Kd.R_drew)); exact (Kd.R_mono (Kd.R_far (p := ⟨gb371, 4, none⟩) (Kd.R_far (p := ⟨gb371, 3, none⟩) (Kd.R_far (p := ⟨gb371, 2, none⟩) (Kd.R_far (p := ⟨gb371, 1, none⟩) (Kd.R_far (p := ⟨gb371, 0, none⟩) (Kd.R_types HO_4.out BK371.out (by decide)) (fun _ hk => hk.2) (.int .i64 ((rd_T61 l0 x5_1).f0))) (fun _ hk => hk.2) (.int .i64 ((rd_T61 l0 x5_1).f1))) (fun _ hk => hk.2) (.int .i64 ((rd_T61 l0 x5_1).f2.f0))) (fun _ hk => hk.2) (.int .i64 ((rd_T61 l0 x5_1).f2.f1))) (fun _ hk => hk.2) (.int .i64 ((rd_T61 l0 x5_1).f2.f2))) (fun _ h_ => h_.1))) hb); have n1_ := Aside0.mk (blk_below (g := gb371) (o := .cells #[.int .i64 ((rd_T61 l0 x5_1).f0), .int .i64 ((rd_T61 l0 x5_1).f1), .int .i64 ((rd_T61 l0 x5_1).f2.f0), .int .i64 ((rd_T61 l0 x5_1).f2.f1), .int .i64 ((rd_T61 l0 x5_1).f2.f2)] 61 (0, 0)) (by (with_reducible repeat (first | refine blk_drewN ?_ _ | refine blk_drew ?_ | refine blk_alloc ?_ _)); refine blk_put (cs := #[.int .i64 ((rd_T61 l0 x5_1).f0), .int .i64 ((rd_T61 l0 x5_1).f1), .int .i64 ((rd_T61 l0 x5_1).f2.f0), .int .i64 ((rd_T61 l0 x5_1).f2.f1), .int .i64 0]) ?_ 4 _ rfl; (with_reducible repeat (first | refine blk_drewN ?_ _ | refine blk_drew ?_ | refine blk_alloc ?_ _)); refine blk_put (cs := #[.int .i64 ((rd_T61 l0 x5_1).f0), .int .i64 ((rd_T61 l0 x5_1).f1), .int .i64 ((rd_T61 l0 x5_1).f2.f0), .int .i64 0, .int .i64 0]) ?_ 3 _ rfl; (with_reducible repeat (first | refine blk_drewN ?_ _ | refine blk_drew ?_ | refine blk_alloc ?_ _)); refine blk_put (cs := #[.int .i64 ((rd_T61 l0 x5_1).f0), .int .i64 ((rd_T61 l0 x5_1).f1), .int .i64 0, .int .i64 0, .int .i64 0]) ?_ 2 _ rfl; (with_reducible repeat (first | refine blk_drewN ?_ _ | refine blk_drew ?_ | refine blk_alloc ?_ _)); refine blk_put (cs := #[.int .i64 ((rd_T61 l0 x5_1).f0), .int .i64 0, .int .i64 0, .int .i64 0, .int .i64 0]) ?_ 1 _ rfl; (with_reducible repeat (first | refine blk_drewN ?_ _ | refine blk_drew ?_ | refine blk_alloc ?_ _)); refine blk_put (cs := #[.int .i64 0, .int .i64 0, .int .i64 0, .int .i64 0, .int .i64 0]) ?_ 0 _ rfl; (with_reducible repeat (first | refine blk_drewN ?_ _ | refine blk_drew ?_ | refine blk_alloc ?_ _)); exact BK371.out) hb); have n2_ := Aside0.mk (below_step (by repeat (first | (with_reducible first | exact HB.out | apply below_alloc | apply pw_below_drewN | apply below_drew1 | refine below_set ?_ GE371.out) | exact HB.out)) hb); clear HO_4; clear BK371; clear HB; have HO_4 := n0_; have BK371 := n1_; have HB := n2_; clear n0_ n1_ n2_; (try clear hb); (try clear hb2); (try clear hk); (try clear hi)))
     repeat (go_quiet (first | ((with_reducible refine gate_dst (N := 6) rfl ?_); (try (refine gate_guard (by rfl) ?_; dsimp only)); refine box_event ?hg (N := 6) ?hd (cs := #[.int .i64 0, .int .i64 0, .int .i64 0, .int .i64 0, .int .i64 0]) (t := 61) ?hr ?_; (case hd => rfl); (case hg => rfl); (case hr => first | (go_simp; done) | (go_simp; rfl)); intro gb371 hg w6 hbox hb; have n0_ := Aside0.mk (Kd.R_below (by (with_reducible repeat (first | apply Kd.R_alloc | apply Kd.R_drewN | apply Kd.R_drew)); exact HO_4.out) hb); have n1_ := Aside0.mk (below_step (by repeat (first | (with_reducible first | exact HB.out | apply below_alloc | apply pw_below_drewN | apply below_drew1) | exact HB.out)) hb); have n2_ := Aside0.mk (hbox); have n3_ := Aside0.mk ((by rw [hg]; exact (below_size (by repeat (first | (with_reducible first | exact HB.out | apply below_alloc | apply pw_below_drewN | apply below_drew1) | exact HB.out))) : w.heap.size ≤ gb371)); have n4_ := Aside0.mk ((by rw [hg]; exact (below_size (by repeat (first | (with_reducible first | exact HB.out | apply below_alloc | apply pw_below_drewN | apply below_drew1) | exact HB.out))) : w.heap.size ≤ gb371)); clear HO_4; clear HB; have HO_4 := n0_; have HB := n1_; have BK371 := n2_; have GW371 := n3_; have GE371 := n4_; clear n0_ n1_ n2_ n3_ n4_; clear hb hbox hg; have hcz7_0 : w6.cell? ⟨gb371, 0, none⟩ = some (.int .i64 0) := (blk_cell BK371.out 0).trans rfl; have hcz7_1 : w6.cell? ⟨gb371, 1, none⟩ = some (.int .i64 0) := (blk_cell BK371.out 1).trans rfl; have hcz7_2 : w6.cell? ⟨gb371, 2, none⟩ = some (.int .i64 0) := (blk_cell BK371.out 2).trans rfl; have hcz7_3 : w6.cell? ⟨gb371, 3, none⟩ = some (.int .i64 0) := (blk_cell BK371.out 3).trans rfl; have hcz7_4 : w6.cell? ⟨gb371, 4, none⟩ = some (.int .i64 0) := (blk_cell BK371.out 4).trans rfl; have hfz7_0 := blk_frozen BK371.out 0; have hfz7_1 := blk_frozen BK371.out 1; have hfz7_2 := blk_frozen BK371.out 2; have hfz7_3 := blk_frozen BK371.out 3; have hfz7_4 := blk_frozen BK371.out 4) | (go_at_call 27; (with_reducible refine (formeref01_Valid.calls ((rd_T61 l0 x5_1).f2.f0) ((rd_T61 l0 x5_1).f2.f1) ((rd_T61 l0 x5_1).f2.f2) t372 _ A4.out).mono ?_); rintro e w8 ⟨rfl, hb⟩; have n0_ := Aside0.mk (Kd.R_below (by (with_reducible repeat (first | apply Kd.R_alloc | apply Kd.R_drewN | apply Kd.R_drew)); exact (Kd.R_mono (Kd.R_far (p := ⟨gb371, 4, none⟩) (Kd.R_far (p := ⟨gb371, 3, none⟩) (Kd.R_far (p := ⟨gb371, 2, none⟩) (Kd.R_far (p := ⟨gb371, 1, none⟩) (Kd.R_far (p := ⟨gb371, 0, none⟩) (Kd.R_types HO_4.out BK371.out (by decide)) (fun _ hk => hk.2) (.int .i64 ((rd_T61 l0 x5_1).f0))) (fun _ hk => hk.2) (.int .i64 ((rd_T61 l0 x5_1).f1))) (fun _ hk => hk.2) (.int .i64 ((rd_T61 l0 x5_1).f2.f0))) (fun _ hk => hk.2) (.int .i64 ((rd_T61 l0 x5_1).f2.f1))) (fun _ hk => hk.2) (.int .i64 ((rd_T61 l0 x5_1).f2.f2))) (fun _ h_ => h_.1))) hb); have n1_ := Aside0.mk (blk_below (g := gb371) (o := .cells #[.int .i64 ((rd_T61 l0 x5_1).f0), .int .i64 ((rd_T61 l0 x5_1).f1), .int .i64 ((rd_T61 l0 x5_1).f2.f0), .int .i64 ((rd_T61 l0 x5_1).f2.f1), .int .i64 ((rd_T61 l0 x5_1).f2.f2)] 61 (0, 0)) (by (with_reducible repeat (first | refine blk_drewN ?_ _ | refine blk_drew ?_ | refine blk_alloc ?_ _)); refine blk_put (cs := #[.int .i64 ((rd_T61 l0 x5_1).f0), .int .i64 ((rd_T61 l0 x5_1).f1), .int .i64 ((rd_T61 l0 x5_1).f2.f0), .int .i64 ((rd_T61 l0 x5_1).f2.f1), .int .i64 0]) ?_ 4 _ rfl; (with_reducible repeat (first | refine blk_drewN ?_ _ | refine blk_drew ?_ | refine blk_alloc ?_ _)); refine blk_put (cs := #[.int .i64 ((rd_T61 l0 x5_1).f0), .int .i64 ((rd_T61 l0 x5_1).f1), .int .i64 ((rd_T61 l0 x5_1).f2.f0), .int .i64 0, .int .i64 0]) ?_ 3 _ rfl; (with_reducible repeat (first | refine blk_drewN ?_ _ | refine blk_drew ?_ | refine blk_alloc ?_ _)); refine blk_put (cs := #[.int .i64 ((rd_T61 l0 x5_1).f0), .int .i64 ((rd_T61 l0 x5_1).f1), .int .i64 0, .int .i64 0, .int .i64 0]) ?_ 2 _ rfl; (with_reducible repeat (first | refine blk_drewN ?_ _ | refine blk_drew ?_ | refine blk_alloc ?_ _)); refine blk_put (cs := #[.int .i64 ((rd_T61 l0 x5_1).f0), .int .i64 0, .int .i64 0, .int .i64 0, .int .i64 0]) ?_ 1 _ rfl; (with_reducible repeat (first | refine blk_drewN ?_ _ | refine blk_drew ?_ | refine blk_alloc ?_ _)); refine blk_put (cs := #[.int .i64 0, .int .i64 0, .int .i64 0, .int .i64 0, .int .i64 0]) ?_ 0 _ rfl; (with_reducible repeat (first | refine blk_drewN ?_ _ | refine blk_drew ?_ | refine blk_alloc ?_ _)); exact BK371.out) hb); have n2_ := Aside0.mk (below_step (by repeat (first | (with_reducible first | exact HB.out | apply below_alloc | apply pw_below_drewN | apply below_drew1 | refine below_set ?_ GE371.out) | exact HB.out)) hb); clear HO_4; clear BK371; clear HB; have HO_4 := n0_; have BK371 := n1_; have HB := n2_; clear n0_ n1_ n2_; (try clear hb); (try clear hb2); (try clear hk); (try clear hi))); go_upto_region 7 with (first | ((with_reducible refine gate_dst (N := 6) rfl ?_); (try (refine gate_guard (by rfl) ?_; dsimp only)); refine box_event ?hg (N := 6) ?hd (cs := #[.int .i64 0, .int .i64 0, .int .i64 0, .int .i64 0, .int .i64 0]) (t := 61) ?hr ?_; (case hd => rfl); (case hg => rfl); (case hr => first | (go_simp; done) | (go_simp; rfl)); intro gb371 hg w6 hbox hb; have n0_ := Aside0.mk (Kd.R_below (by (with_reducible repeat (first | apply Kd.R_alloc | apply Kd.R_drewN | apply Kd.R_drew)); exact HO_4.out) hb); have n1_ := Aside0.mk (below_step (by repeat (first | (with_reducible first | exact HB.out | apply below_alloc | apply pw_below_drewN | apply below_drew1) | exact HB.out)) hb); have n2_ := Aside0.mk (hbox); have n3_ := Aside0.mk ((by rw [hg]; exact (below_size (by repeat (first | (with_reducible first | exact HB.out | apply below_alloc | apply pw_below_drewN | apply below_drew1) | exact HB.out))) : w.heap.size ≤ gb371)); have n4_ := Aside0.mk ((by rw [hg]; exact (below_size (by repeat (first | (with_reducible first | exact HB.out | apply below_alloc | apply pw_below_drewN | apply below_drew1) | exact HB.out))) : w.heap.size ≤ gb371)); clear HO_4; clear HB; have HO_4 := n0_; have HB := n1_; have BK371 := n2_; have GW371 := n3_; have GE371 := n4_; clear n0_ n1_ n2_ n3_ n4_; clear hb hbox hg; have hcz7_0 : w6.cell? ⟨gb371, 0, none⟩ = some (.int .i64 0) := (blk_cell BK371.out 0).trans rfl; have hcz7_1 : w6.cell? ⟨gb371, 1, none⟩ = some (.int .i64 0) := (blk_cell BK371.out 1).trans rfl; have hcz7_2 : w6.cell? ⟨gb371, 2, none⟩ = some (.int .i64 0) := (blk_cell BK371.out 2).trans rfl; have hcz7_3 : w6.cell? ⟨gb371, 3, none⟩ = some (.int .i64 0) := (blk_cell BK371.out 3).trans rfl; have hcz7_4 : w6.cell? ⟨gb371, 4, none⟩ = some (.int .i64 0) := (blk_cell BK371.out 4).trans rfl; have hfz7_0 := blk_frozen BK371.out 0; have hfz7_1 := blk_frozen BK371.out 1; have hfz7_2 := blk_frozen BK371.out 2; have hfz7_3 := blk_frozen BK371.out 3; have hfz7_4 := blk_frozen BK371.out 4) | (go_at_call 27; (with_reducible refine (formeref01_Valid.calls ((rd_T61 l0 x5_1).f2.f0) ((rd_T61 l0 x5_1).f2.f1) ((rd_T61 l0 x5_1).f2.f2) t372 _ A4.out).mono ?_); rintro e w8 ⟨rfl, hb⟩; have n0_ := Aside0.mk (Kd.R_below (by (with_reducible repeat (first | apply Kd.R_alloc | apply Kd.R_drewN | apply Kd.R_drew)); exact (Kd.R_mono (Kd.R_far (p := ⟨gb371, 4, none⟩) (Kd.R_far (p := ⟨gb371, 3, none⟩) (Kd.R_far (p := ⟨gb371, 2, none⟩) (Kd.R_far (p := ⟨gb371, 1, none⟩) (Kd.R_far (p := ⟨gb371, 0, none⟩) (Kd.R_types HO_4.out BK371.out (by decide)) (fun _ hk => hk.2) (.int .i64 ((rd_T61 l0 x5_1).f0))) (fun _ hk => hk.2) (.int .i64 ((rd_T61 l0 x5_1).f1))) (fun _ hk => hk.2) (.int .i64 ((rd_T61 l0 x5_1).f2.f0))) (fun _ hk => hk.2) (.int .i64 ((rd_T61 l0 x5_1).f2.f1))) (fun _ hk => hk.2) (.int .i64 ((rd_T61 l0 x5_1).f2.f2))) (fun _ h_ => h_.1))) hb); have n1_ := Aside0.mk (blk_below (g := gb371) (o := .cells #[.int .i64 ((rd_T61 l0 x5_1).f0), .int .i64 ((rd_T61 l0 x5_1).f1), .int .i64 ((rd_T61 l0 x5_1).f2.f0), .int .i64 ((rd_T61 l0 x5_1).f2.f1), .int .i64 ((rd_T61 l0 x5_1).f2.f2)] 61 (0, 0)) (by (with_reducible repeat (first | refine blk_drewN ?_ _ | refine blk_drew ?_ | refine blk_alloc ?_ _)); refine blk_put (cs := #[.int .i64 ((rd_T61 l0 x5_1).f0), .int .i64 ((rd_T61 l0 x5_1).f1), .int .i64 ((rd_T61 l0 x5_1).f2.f0), .int .i64 ((rd_T61 l0 x5_1).f2.f1), .int .i64 0]) ?_ 4 _ rfl; (with_reducible repeat (first | refine blk_drewN ?_ _ | refine blk_drew ?_ | refine blk_alloc ?_ _)); refine blk_put (cs := #[.int .i64 ((rd_T61 l0 x5_1).f0), .int .i64 ((rd_T61 l0 x5_1).f1), .int .i64 ((rd_T61 l0 x5_1).f2.f0), .int .i64 0, .int .i64 0]) ?_ 3 _ rfl; (with_reducible repeat (first | refine blk_drewN ?_ _ | refine blk_drew ?_ | refine blk_alloc ?_ _)); refine blk_put (cs := #[.int .i64 ((rd_T61 l0 x5_1).f0), .int .i64 ((rd_T61 l0 x5_1).f1), .int .i64 0, .int .i64 0, .int .i64 0]) ?_ 2 _ rfl; (with_reducible repeat (first | refine blk_drewN ?_ _ | refine blk_drew ?_ | refine blk_alloc ?_ _)); refine blk_put (cs := #[.int .i64 ((rd_T61 l0 x5_1).f0), .int .i64 0, .int .i64 0, .int .i64 0, .int .i64 0]) ?_ 1 _ rfl; (with_reducible repeat (first | refine blk_drewN ?_ _ | refine blk_drew ?_ | refine blk_alloc ?_ _)); refine blk_put (cs := #[.int .i64 0, .int .i64 0, .int .i64 0, .int .i64 0, .int .i64 0]) ?_ 0 _ rfl; (with_reducible repeat (first | refine blk_drewN ?_ _ | refine blk_drew ?_ | refine blk_alloc ?_ _)); exact BK371.out) hb); have n2_ := Aside0.mk (below_step (by repeat (first | (with_reducible first | exact HB.out | apply below_alloc | apply pw_below_drewN | apply below_drew1 | refine below_set ?_ GE371.out) | exact HB.out)) hb); clear HO_4; clear BK371; clear HB; have HO_4 := n0_; have BK371 := n1_; have HB := n2_; clear n0_ n1_ n2_; (try clear hb); (try clear hb2); (try clear hk); (try clear hi))))
     (try simp only [Act.put, List.setIfInBounds_toArray, List.set_cons_zero, List.set_cons_succ])
     go_cut [57] (fun v57 wc => ∃ (kq : Nat) (x57_4 : Bool), v57 = .bool x57_4 ∧ Aside0 (formeref02_all.j1 kq l0 x4_1 x5_1 x57_4 ((rd_T61 l0 x5_1).f0) ((rd_T61 l0 x5_1).f1) ((rd_T61 l0 x5_1).f2.f0) ((rd_T61 l0 x5_1).f2.f1) ((rd_T61 l0 x5_1).f2.f2) = some (r1, r2)) ∧ Aside0 (kq ≤ k1) ∧ Aside0 (Kd.R (Kd.int .i64) 3 wc w.heap.size (fun _ => True) u4 x4_1) ∧ Aside0 (wc.heap[gb371]? = some (.cells #[.int .i64 ((rd_T61 l0 x5_1).f0), .int .i64 ((rd_T61 l0 x5_1).f1), .int .i64 ((rd_T61 l0 x5_1).f2.f0), .int .i64 ((rd_T61 l0 x5_1).f2.f1), .int .i64 ((rd_T61 l0 x5_1).f2.f2)] 61 (0, 0))) ∧ Aside0 (Below w.heap.size w wc))
     case first =>
      have H := HC5.out
      clear HC5
      by_cases c9 : t372 = true
      ·subst c9
       have H1 : (if ((rd_T61 l0 x5_1).f0) < 0 then (formeref02_all.j1 k1 l0 x4_1 x5_1 true ((rd_T61 l0 x5_1).f0) ((rd_T61 l0 x5_1).f1) ((rd_T61 l0 x5_1).f2.f0) ((rd_T61 l0 x5_1).f2.f1) ((rd_T61 l0 x5_1).f2.f2)) else (if ((rd_T61 l0 x5_1).f1) ≤ ((rd_T61 l0 x5_1).f0) then (formeref02_all.j1 k1 l0 x4_1 x5_1 true ((rd_T61 l0 x5_1).f0) ((rd_T61 l0 x5_1).f1) ((rd_T61 l0 x5_1).f2.f0) ((rd_T61 l0 x5_1).f2.f1) ((rd_T61 l0 x5_1).f2.f2)) else (if ((rd_T61 l0 x5_1).f1) > 4001 then (formeref02_all.j1 k1 l0 x4_1 x5_1 true ((rd_T61 l0 x5_1).f0) ((rd_T61 l0 x5_1).f1) ((rd_T61 l0 x5_1).f2.f0) ((rd_T61 l0 x5_1).f2.f1) ((rd_T61 l0 x5_1).f2.f2)) else (if x5_1 > 0 then (if 0 ≤ (wrap64 (x5_1 - 1)) then (if (wrap64 (x5_1 - 1)) < (l0.length : Int) then (formeref02_all.j1 k1 l0 x4_1 x5_1 (((rd_T61 l0 x5_1).f0) != ((rd_T61 l0 (wrap64 (x5_1 - 1))).f1)) ((rd_T61 l0 x5_1).f0) ((rd_T61 l0 x5_1).f1) ((rd_T61 l0 x5_1).f2.f0) ((rd_T61 l0 x5_1).f2.f1) ((rd_T61 l0 x5_1).f2.f2)) else (none)) else (none)) else (formeref02_all.j1 k1 l0 x4_1 x5_1 false ((rd_T61 l0 x5_1).f0) ((rd_T61 l0 x5_1).f1) ((rd_T61 l0 x5_1).f2.f0) ((rd_T61 l0 x5_1).f2.f1) ((rd_T61 l0 x5_1).f2.f2)))))) = some (r1, r2) := by rw [if_pos rfl] at H; exact H
       clear H
       have H := H1
       clear H1
       by_cases c10 : ((rd_T61 l0 x5_1).f0) < 0
       ·rw [if_pos c10] at H
        have c10b0 : decide (((rd_T61 l0 x5_1).f0) < 0) = true := decide_eq_true c10
        clear c10
        (first | rw [c10b0] | (simp only [i64_w, i32_w]; rw [c10b0]) | skip)
        have H' := Aside0.mk H
        clear H
        have hcz11_0 : w8.cell? ⟨gb371, 0, none⟩ = some (.int .i64 ((rd_T61 l0 x5_1).f0)) := (blk_cell BK371.out 0).trans rfl
        have hcz11_1 : w8.cell? ⟨gb371, 1, none⟩ = some (.int .i64 ((rd_T61 l0 x5_1).f1)) := (blk_cell BK371.out 1).trans rfl
        have hcz11_2 : w8.cell? ⟨gb371, 2, none⟩ = some (.int .i64 ((rd_T61 l0 x5_1).f2.f0)) := (blk_cell BK371.out 2).trans rfl
        have hcz11_3 : w8.cell? ⟨gb371, 3, none⟩ = some (.int .i64 ((rd_T61 l0 x5_1).f2.f1)) := (blk_cell BK371.out 3).trans rfl
        have hcz11_4 : w8.cell? ⟨gb371, 4, none⟩ = some (.int .i64 ((rd_T61 l0 x5_1).f2.f2)) := (blk_cell BK371.out 4).trans rfl
        have hfz11_0 := blk_frozen BK371.out 0
        have hfz11_1 := blk_frozen BK371.out 1
        have hfz11_2 := blk_frozen BK371.out 2
        have hfz11_3 := blk_frozen BK371.out 3
        have hfz11_4 := blk_frozen BK371.out 4
        go_wp2
        repeat (go_quiet (fail); try go_wp2)
        go_meet
        case rel => exact ⟨_, (true), (by first | rfl | (simp; done) | (simp [*]; done)), H', ⟨by have := HK1.out; first | omega | exact Nat.le_refl _⟩, ⟨by (with_reducible repeat (first | apply Kd.R_alloc | apply Kd.R_drewN | apply Kd.R_drew)); exact HO_4.out⟩, ⟨by (with_reducible repeat (first | refine blk_drewN ?_ _ | refine blk_drew ?_ | refine blk_alloc ?_ _)); exact BK371.out⟩, ⟨by repeat (first | (with_reducible first | exact HB.out | apply below_alloc | apply pw_below_drewN | apply below_drew1 | refine below_set ?_ GE371.out) | exact HB.out)⟩⟩
       ·rw [if_neg c10] at H
        have c10b0 : decide (((rd_T61 l0 x5_1).f0) < 0) = false := decide_eq_false c10
        clear c10
        (first | rw [c10b0] | (simp only [i64_w, i32_w]; rw [c10b0]) | skip)
        by_cases c12 : ((rd_T61 l0 x5_1).f1) ≤ ((rd_T61 l0 x5_1).f0)
        ·rw [if_pos c12] at H
         have c12b0 : decide (((rd_T61 l0 x5_1).f1) ≤ ((rd_T61 l0 x5_1).f0)) = true := decide_eq_true c12
         clear c12
         have H' := Aside0.mk H
         clear H
         have hcz13_0 : w8.cell? ⟨gb371, 0, none⟩ = some (.int .i64 ((rd_T61 l0 x5_1).f0)) := (blk_cell BK371.out 0).trans rfl
         have hcz13_1 : w8.cell? ⟨gb371, 1, none⟩ = some (.int .i64 ((rd_T61 l0 x5_1).f1)) := (blk_cell BK371.out 1).trans rfl
         have hcz13_2 : w8.cell? ⟨gb371, 2, none⟩ = some (.int .i64 ((rd_T61 l0 x5_1).f2.f0)) := (blk_cell BK371.out 2).trans rfl
         have hcz13_3 : w8.cell? ⟨gb371, 3, none⟩ = some (.int .i64 ((rd_T61 l0 x5_1).f2.f1)) := (blk_cell BK371.out 3).trans rfl
         have hcz13_4 : w8.cell? ⟨gb371, 4, none⟩ = some (.int .i64 ((rd_T61 l0 x5_1).f2.f2)) := (blk_cell BK371.out 4).trans rfl
         have hfz13_0 := blk_frozen BK371.out 0
         have hfz13_1 := blk_frozen BK371.out 1
         have hfz13_2 := blk_frozen BK371.out 2
         have hfz13_3 := blk_frozen BK371.out 3
         have hfz13_4 := blk_frozen BK371.out 4
         go_wp2
         repeat (go_quiet (fail); try go_wp2)
         go_meet
         case rel => exact ⟨_, (true), (by first | rfl | (simp; done) | (simp [*]; done)), H', ⟨by have := HK1.out; first | omega | exact Nat.le_refl _⟩, ⟨by (with_reducible repeat (first | apply Kd.R_alloc | apply Kd.R_drewN | apply Kd.R_drew)); exact HO_4.out⟩, ⟨by (with_reducible repeat (first | refine blk_drewN ?_ _ | refine blk_drew ?_ | refine blk_alloc ?_ _)); exact BK371.out⟩, ⟨by repeat (first | (with_reducible first | exact HB.out | apply below_alloc | apply pw_below_drewN | apply below_drew1 | refine below_set ?_ GE371.out) | exact HB.out)⟩⟩
        ·rw [if_neg c12] at H
         have c12b0 : decide (((rd_T61 l0 x5_1).f1) ≤ ((rd_T61 l0 x5_1).f0)) = false := decide_eq_false c12
         clear c12
         by_cases c14 : ((rd_T61 l0 x5_1).f1) > 4001
         ·rw [if_pos c14] at H
          have c14b0 : decide (4001 < ((rd_T61 l0 x5_1).f1)) = true := decide_eq_true c14
          clear c14
          have H' := Aside0.mk H
          clear H
          have hcz15_0 : w8.cell? ⟨gb371, 0, none⟩ = some (.int .i64 ((rd_T61 l0 x5_1).f0)) := (blk_cell BK371.out 0).trans rfl
          have hcz15_1 : w8.cell? ⟨gb371, 1, none⟩ = some (.int .i64 ((rd_T61 l0 x5_1).f1)) := (blk_cell BK371.out 1).trans rfl
          have hcz15_2 : w8.cell? ⟨gb371, 2, none⟩ = some (.int .i64 ((rd_T61 l0 x5_1).f2.f0)) := (blk_cell BK371.out 2).trans rfl
          have hcz15_3 : w8.cell? ⟨gb371, 3, none⟩ = some (.int .i64 ((rd_T61 l0 x5_1).f2.f1)) := (blk_cell BK371.out 3).trans rfl
          have hcz15_4 : w8.cell? ⟨gb371, 4, none⟩ = some (.int .i64 ((rd_T61 l0 x5_1).f2.f2)) := (blk_cell BK371.out 4).trans rfl
          have hfz15_0 := blk_frozen BK371.out 0
          have hfz15_1 := blk_frozen BK371.out 1
          have hfz15_2 := blk_frozen BK371.out 2
          have hfz15_3 := blk_frozen BK371.out 3
          have hfz15_4 := blk_frozen BK371.out 4
          go_wp2
          repeat (go_quiet (fail); try go_wp2)
          go_meet
          case rel => exact ⟨_, (true), (by first | rfl | (simp; done) | (simp [*]; done)), H', ⟨by have := HK1.out; first | omega | exact Nat.le_refl _⟩, ⟨by (with_reducible repeat (first | apply Kd.R_alloc | apply Kd.R_drewN | apply Kd.R_drew)); exact HO_4.out⟩, ⟨by (with_reducible repeat (first | refine blk_drewN ?_ _ | refine blk_drew ?_ | refine blk_alloc ?_ _)); exact BK371.out⟩, ⟨by repeat (first | (with_reducible first | exact HB.out | apply below_alloc | apply pw_below_drewN | apply below_drew1 | refine below_set ?_ GE371.out) | exact HB.out)⟩⟩
         ·rw [if_neg c14] at H
          have c14b0 : decide (4001 < ((rd_T61 l0 x5_1).f1)) = false := decide_eq_false c14
          clear c14
          by_cases c16 : x5_1 > 0
          ·rw [if_pos c16] at H
           have c16b0 : decide (0 < x5_1) = true := decide_eq_true c16
           clear c16
           obtain ⟨ji17, hji17⟩ : ∃ j_ : Int, (wrap64 (x5_1 - 1)) = j_ := ⟨_, rfl⟩
           replace H : (if 0 ≤ (ji17) then (if (ji17) < (l0.length : Int) then (formeref02_all.j1 k1 l0 x4_1 x5_1 (((rd_T61 l0 x5_1).f0) != ((rd_T61 l0 (ji17)).f1)) ((rd_T61 l0 x5_1).f0) ((rd_T61 l0 x5_1).f1) ((rd_T61 l0 x5_1).f2.f0) ((rd_T61 l0 x5_1).f2.f1) ((rd_T61 l0 x5_1).f2.f2)) else (none)) else (none)) = some (r1, r2) := by first | (rw [hji17] at H; exact H) | (simp only [hji17] at H ⊢; exact H)
           have hji17w : (IntKind.i64.wrap (x5_1 - 1)) = ji17 := (i64_w _).trans hji17
           by_cases c18 : 0 ≤ (ji17)
           ·rw [if_pos c18] at H
            have c18b0 : decide (0 ≤ (ji17)) = true := decide_eq_true c18
            clear c18
            by_cases c19 : (ji17) < (l0.length : Int)
            ·rw [if_pos c19] at H
             have c19b0 : decide ((ji17) < (l0.length : Int)) = true := decide_eq_true c19
             clear c19
             have H' := Aside0.mk H
             clear H
             have hcz20_0 : w8.cell? ⟨gb371, 0, none⟩ = some (.int .i64 ((rd_T61 l0 x5_1).f0)) := (blk_cell BK371.out 0).trans rfl
             have hcz20_1 : w8.cell? ⟨gb371, 1, none⟩ = some (.int .i64 ((rd_T61 l0 x5_1).f1)) := (blk_cell BK371.out 1).trans rfl
             have hcz20_2 : w8.cell? ⟨gb371, 2, none⟩ = some (.int .i64 ((rd_T61 l0 x5_1).f2.f0)) := (blk_cell BK371.out 2).trans rfl
             have hcz20_3 : w8.cell? ⟨gb371, 3, none⟩ = some (.int .i64 ((rd_T61 l0 x5_1).f2.f1)) := (blk_cell BK371.out 3).trans rfl
             have hcz20_4 : w8.cell? ⟨gb371, 4, none⟩ = some (.int .i64 ((rd_T61 l0 x5_1).f2.f2)) := (blk_cell BK371.out 4).trans rfl
             have hfz20_0 := blk_frozen BK371.out 0
             have hfz20_1 := blk_frozen BK371.out 1
             have hfz20_2 := blk_frozen BK371.out 2
             have hfz20_3 := blk_frozen BK371.out 3
             have hfz20_4 := blk_frozen BK371.out 4
             have p373 : 0 ≤ ((ji17) : Int) := of_decide_eq_true (by first | (with_reducible assumption) | assumption)
             have q373 : (ji17) < (l0.length : Int) := of_decide_eq_true (by first | (with_reducible assumption) | assumption)
             obtain ⟨ad373, e373, hx373_0, hx373_1, hx373_2, hx373_3, hx373_4⟩ := at_T61 HR0.out (ji17) p373 q373
             obtain rfl : ad370 = ad373 := (by injection e373)
             replace hx373_0 := (HB.out.cell (World.block_lt_of_cell? w _ hx373_0)).trans hx373_0
             replace hx373_1 := (HB.out.cell (World.block_lt_of_cell? w _ hx373_1)).trans hx373_1
             replace hx373_2 := (HB.out.cell (World.block_lt_of_cell? w _ hx373_2)).trans hx373_2
             replace hx373_3 := (HB.out.cell (World.block_lt_of_cell? w _ hx373_3)).trans hx373_3
             replace hx373_4 := (HB.out.cell (World.block_lt_of_cell? w _ hx373_4)).trans hx373_4
             replace p373 := eq_true p373
             replace q373 := eq_true q373
             go_wp2
             repeat (go_quiet (fail); try go_wp2)
             go_meet
             case rel => exact ⟨_, ((((rd_T61 l0 x5_1).f0) != ((rd_T61 l0 (ji17)).f1))), (by first | rfl | (simp; done) | (simp only [← hji17] <;> (first | rfl | simp)) | (simp [*]; done)), H', ⟨by have := HK1.out; first | omega | exact Nat.le_refl _⟩, ⟨by (with_reducible repeat (first | apply Kd.R_alloc | apply Kd.R_drewN | apply Kd.R_drew)); exact HO_4.out⟩, ⟨by (with_reducible repeat (first | refine blk_drewN ?_ _ | refine blk_drew ?_ | refine blk_alloc ?_ _)); exact BK371.out⟩, ⟨by repeat (first | (with_reducible first | exact HB.out | apply below_alloc | apply pw_below_drewN | apply below_drew1 | refine below_set ?_ GE371.out) | exact HB.out)⟩⟩
            ·rw [if_neg c19] at H
             exact absurd H (by simp)
           ·rw [if_neg c18] at H
            exact absurd H (by simp)
          ·rw [if_neg c16] at H
           have c16b0 : decide (0 < x5_1) = false := decide_eq_false c16
           clear c16
           have H' := Aside0.mk H
           clear H
           have hcz21_0 : w8.cell? ⟨gb371, 0, none⟩ = some (.int .i64 ((rd_T61 l0 x5_1).f0)) := (blk_cell BK371.out 0).trans rfl
           have hcz21_1 : w8.cell? ⟨gb371, 1, none⟩ = some (.int .i64 ((rd_T61 l0 x5_1).f1)) := (blk_cell BK371.out 1).trans rfl
           have hcz21_2 : w8.cell? ⟨gb371, 2, none⟩ = some (.int .i64 ((rd_T61 l0 x5_1).f2.f0)) := (blk_cell BK371.out 2).trans rfl
           have hcz21_3 : w8.cell? ⟨gb371, 3, none⟩ = some (.int .i64 ((rd_T61 l0 x5_1).f2.f1)) := (blk_cell BK371.out 3).trans rfl
           have hcz21_4 : w8.cell? ⟨gb371, 4, none⟩ = some (.int .i64 ((rd_T61 l0 x5_1).f2.f2)) := (blk_cell BK371.out 4).trans rfl
           have hfz21_0 := blk_frozen BK371.out 0
           have hfz21_1 := blk_frozen BK371.out 1
           have hfz21_2 := blk_frozen BK371.out 2
           have hfz21_3 := blk_frozen BK371.out 3
           have hfz21_4 := blk_frozen BK371.out 4
           go_wp2
           repeat (go_quiet (fail); try go_wp2)
           go_meet
           case rel => exact ⟨_, (false), (by first | rfl | (simp; done) | (simp [*]; done)), H', ⟨by have := HK1.out; first | omega | exact Nat.le_refl _⟩, ⟨by (with_reducible repeat (first | apply Kd.R_alloc | apply Kd.R_drewN | apply Kd.R_drew)); exact HO_4.out⟩, ⟨by (with_reducible repeat (first | refine blk_drewN ?_ _ | refine blk_drew ?_ | refine blk_alloc ?_ _)); exact BK371.out⟩, ⟨by repeat (first | (with_reducible first | exact HB.out | apply below_alloc | apply pw_below_drewN | apply below_drew1 | refine below_set ?_ GE371.out) | exact HB.out)⟩⟩
      ·replace c9 := Bool.eq_false_iff.mpr c9
       subst c9
       have H1 : (formeref02_all.j1 k1 l0 x4_1 x5_1 true ((rd_T61 l0 x5_1).f0) ((rd_T61 l0 x5_1).f1) ((rd_T61 l0 x5_1).f2.f0) ((rd_T61 l0 x5_1).f2.f1) ((rd_T61 l0 x5_1).f2.f2)) = some (r1, r2) := by rw [if_neg (show ¬ (false = true) by decide)] at H; exact H
       clear H
       have H := H1
       clear H1
       have H' := Aside0.mk H
       clear H
       go_wp2
       repeat (go_quiet (fail); try go_wp2)
       go_meet
       case rel => exact ⟨_, (true), (by first | rfl | (simp; done) | (simp [*]; done)), H', ⟨by have := HK1.out; first | omega | exact Nat.le_refl _⟩, ⟨by (with_reducible repeat (first | apply Kd.R_alloc | apply Kd.R_drewN | apply Kd.R_drew)); exact HO_4.out⟩, ⟨by (with_reducible repeat (first | refine blk_drewN ?_ _ | refine blk_drew ?_ | refine blk_alloc ?_ _)); exact BK371.out⟩, ⟨by repeat (first | (with_reducible first | exact HB.out | apply below_alloc | apply pw_below_drewN | apply below_drew1 | refine below_set ?_ GE371.out) | exact HB.out)⟩⟩
     case rest =>
      clear HC5
      try clear c1
      try clear c2
      try clear c2b0
      try clear p2
      try clear c3
      try clear c3b0
      try clear p3
      try clear q3
      try clear hx3
      try clear p6
      try clear c9
      try clear c10
      try clear c10b0
      try clear c12
      try clear c12b0
      try clear c14
      try clear c14b0
      try clear c16
      try clear c16b0
      try clear c18
      try clear c18b0
      try clear c19
      try clear c19b0
      try clear hcz11_0
      try clear hcz11_1
      try clear hcz11_2
      try clear hcz11_3
      try clear hcz11_4
      try clear hcz13_0
      try clear hcz13_1
      try clear hcz13_2
      try clear hcz13_3
      try clear hcz13_4
      try clear hcz15_0
      try clear hcz15_1
      try clear hcz15_2
      try clear hcz15_3
      try clear hcz15_4
      try clear hcz20_0
      try clear hcz20_1
      try clear hcz20_2
      try clear hcz20_3
      try clear hcz20_4
      try clear hcz21_0
      try clear hcz21_1
      try clear hcz21_2
      try clear hcz21_3
      try clear hcz21_4
      try clear hcz7_0
      try clear hcz7_1
      try clear hcz7_2
      try clear hcz7_3
      try clear hcz7_4
      try clear hfz11_0
      try clear hfz11_1
      try clear hfz11_2
      try clear hfz11_3
      try clear hfz11_4
      try clear hfz13_0
      try clear hfz13_1
      try clear hfz13_2
      try clear hfz13_3
      try clear hfz13_4
      try clear hfz15_0
      try clear hfz15_1
      try clear hfz15_2
      try clear hfz15_3
      try clear hfz15_4
      try clear hfz20_0
      try clear hfz20_1
      try clear hfz20_2
      try clear hfz20_3
      try clear hfz20_4
      try clear hfz21_0
      try clear hfz21_1
      try clear hfz21_2
      try clear hfz21_3
      try clear hfz21_4
      try clear hfz7_0
      try clear hfz7_1
      try clear hfz7_2
      try clear hfz7_3
      try clear hfz7_4
      try clear hx370_0
      try clear hx370_1
      try clear hx370_2
      try clear hx370_3
      try clear hx370_4
      try clear hx373_0
      try clear hx373_1
      try clear hx373_2
      try clear hx373_3
      try clear hx373_4
      try clear p370
      try clear p373
      try clear q370
      try clear q373
      obtain ⟨kq, x57_4, rfl, HA, HJ4, HO_4, BK371, HB⟩ := hcut
      cases kq with
      | zero => exact absurd HA.out (by simp [formeref02_all.j1])
      | succ kj4 =>
       have H := HA.out
       clear HA
       simp only [formeref02_all.j1] at H
       by_cases c22 : x57_4 = true
       ·subst c22
        have H1 : (some (([] : List Int), false)) = some (r1, r2) := by rw [if_pos rfl] at H; exact H
        clear H
        have H := H1
        clear H1
        simp only [Option.some.injEq, Prod.mk.injEq] at H
        obtain ⟨rfl, rfl⟩ := H
        go_wp2
        repeat (go_quiet (fail); try go_wp2)
        go_ret2
        exact ⟨_, by first | rfl | (simp [errW_none, errW_some] <;> rfl) | (simp [*, errW_none, errW_some] <;> rfl), by first | exact Kd.R_nil _ _ _ _ _ | exact Kd.N_nil _ _ _ _ _ | exact Kd.V_nil _ _ _ _ _ | exact Kd.Q_nil _ _ _ _ _ | exact Kd.S_nil _ _ _ _ _, by repeat (first | (with_reducible first | exact HB.out | apply below_alloc | apply pw_below_drewN | apply below_drew1 | refine below_set ?_ GE371.out) | exact HB.out)⟩
       ·replace c22 := Bool.eq_false_iff.mpr c22
        subst c22
        have H1 : (formeref02_all.l1 kj4 l0 x4_1 x5_1 ((rd_T61 l0 x5_1).f0) ((rd_T61 l0 x5_1).f0) ((rd_T61 l0 x5_1).f1) ((rd_T61 l0 x5_1).f2.f0) ((rd_T61 l0 x5_1).f2.f1) ((rd_T61 l0 x5_1).f2.f2)) = some (r1, r2) := by rw [if_neg (show ¬ (false = true) by decide)] at H; exact H
        clear H
        have H := H1
        clear H1
        have H' := Aside0.mk H
        clear H
        have hcz23_0 : wc.cell? ⟨gb371, 0, none⟩ = some (.int .i64 ((rd_T61 l0 x5_1).f0)) := (blk_cell BK371.out 0).trans rfl
        have hcz23_1 : wc.cell? ⟨gb371, 1, none⟩ = some (.int .i64 ((rd_T61 l0 x5_1).f1)) := (blk_cell BK371.out 1).trans rfl
        have hcz23_2 : wc.cell? ⟨gb371, 2, none⟩ = some (.int .i64 ((rd_T61 l0 x5_1).f2.f0)) := (blk_cell BK371.out 2).trans rfl
        have hcz23_3 : wc.cell? ⟨gb371, 3, none⟩ = some (.int .i64 ((rd_T61 l0 x5_1).f2.f1)) := (blk_cell BK371.out 3).trans rfl
        have hcz23_4 : wc.cell? ⟨gb371, 4, none⟩ = some (.int .i64 ((rd_T61 l0 x5_1).f2.f2)) := (blk_cell BK371.out 4).trans rfl
        have hfz23_0 := blk_frozen BK371.out 0
        have hfz23_1 := blk_frozen BK371.out 1
        have hfz23_2 := blk_frozen BK371.out 2
        have hfz23_3 := blk_frozen BK371.out 3
        have hfz23_4 := blk_frozen BK371.out 4
        go_wp2
        repeat (go_quiet (fail); try go_wp2)
        go_loopg [4, 8] kj4 (fun kq v4 v8 w' => ∃ (x4_3 : List Int) (x8_3 : Int), v8 = .int .i64 x8_3 ∧ Aside0 (formeref02_all.l1 kq l0 x4_3 x5_1 x8_3 ((rd_T61 l0 x5_1).f0) ((rd_T61 l0 x5_1).f1) ((rd_T61 l0 x5_1).f2.f0) ((rd_T61 l0 x5_1).f2.f1) ((rd_T61 l0 x5_1).f2.f2) = some (r1, r2)) ∧ Aside0 (kq ≤ kj4) ∧ Aside0 (Kd.R (Kd.int .i64) 3 w' w.heap.size (fun _ => True) v4 x4_3) ∧ Aside0 (w'.heap[gb371]? = some (.cells #[.int .i64 ((rd_T61 l0 x5_1).f0), .int .i64 ((rd_T61 l0 x5_1).f1), .int .i64 ((rd_T61 l0 x5_1).f2.f0), .int .i64 ((rd_T61 l0 x5_1).f2.f1), .int .i64 ((rd_T61 l0 x5_1).f2.f2)] 61 (0, 0))) ∧ Aside0 (Below w.heap.size w w'))
        case atStart => exact ⟨(x4_1), (((rd_T61 l0 x5_1).f0)), (by first | rfl | (simp; done) | (simp [*]; done)), H', ⟨Nat.le_refl _⟩, ⟨by (with_reducible repeat (first | apply Kd.R_alloc | apply Kd.R_drewN | apply Kd.R_drew)); exact HO_4.out⟩, ⟨by (with_reducible repeat (first | refine blk_drewN ?_ _ | refine blk_drew ?_ | refine blk_alloc ?_ _)); exact BK371.out⟩, ⟨by repeat (first | (with_reducible first | exact HB.out | apply below_alloc | apply pw_below_drewN | apply below_drew1 | refine below_set ?_ GE371.out) | exact HB.out)⟩⟩
        case round =>
         clear H'
         try clear c1
         try clear c2
         try clear c2b0
         try clear p2
         try clear c3
         try clear c3b0
         try clear p3
         try clear q3
         try clear hx3
         try clear p6
         try clear c9
         try clear c10
         try clear c10b0
         try clear c12
         try clear c12b0
         try clear c14
         try clear c14b0
         try clear c16
         try clear c16b0
         try clear c18
         try clear c18b0
         try clear c19
         try clear c19b0
         try clear c22
         try clear hcz11_0
         try clear hcz11_1
         try clear hcz11_2
         try clear hcz11_3
         try clear hcz11_4
         try clear hcz13_0
         try clear hcz13_1
         try clear hcz13_2
         try clear hcz13_3
         try clear hcz13_4
         try clear hcz15_0
         try clear hcz15_1
         try clear hcz15_2
         try clear hcz15_3
         try clear hcz15_4
         try clear hcz20_0
         try clear hcz20_1
         try clear hcz20_2
         try clear hcz20_3
         try clear hcz20_4
         try clear hcz21_0
         try clear hcz21_1
         try clear hcz21_2
         try clear hcz21_3
         try clear hcz21_4
         try clear hcz23_0
         try clear hcz23_1
         try clear hcz23_2
         try clear hcz23_3
         try clear hcz23_4
         try clear hcz7_0
         try clear hcz7_1
         try clear hcz7_2
         try clear hcz7_3
         try clear hcz7_4
         try clear hfz11_0
         try clear hfz11_1
         try clear hfz11_2
         try clear hfz11_3
         try clear hfz11_4
         try clear hfz13_0
         try clear hfz13_1
         try clear hfz13_2
         try clear hfz13_3
         try clear hfz13_4
         try clear hfz15_0
         try clear hfz15_1
         try clear hfz15_2
         try clear hfz15_3
         try clear hfz15_4
         try clear hfz20_0
         try clear hfz20_1
         try clear hfz20_2
         try clear hfz20_3
         try clear hfz20_4
         try clear hfz21_0
         try clear hfz21_1
         try clear hfz21_2
         try clear hfz21_3
         try clear hfz21_4
         try clear hfz23_0
         try clear hfz23_1
         try clear hfz23_2
         try clear hfz23_3
         try clear hfz23_4
         try clear hfz7_0
         try clear hfz7_1
         try clear hfz7_2
         try clear hfz7_3
         try clear hfz7_4
         try clear hx370_0
         try clear hx370_1
         try clear hx370_2
         try clear hx370_3
         try clear hx370_4
         try clear hx373_0
         try clear hx373_1
         try clear hx373_2
         try clear hx373_3
         try clear hx373_4
         try clear p2
         try clear p3
         try clear p370
         try clear p373
         try clear p6
         try clear q3
         try clear q370
         try clear q373
         obtain ⟨x4_3, x8_3, rfl, HA, HK3, HO_4, BK371, HB⟩ := hrel
         cases gk with
         | zero => exact absurd HA.out (by simp [formeref02_all.l1])
         | succ k3 =>
          have H := HA.out
          clear HA
          simp only [formeref02_all.l1] at H
          by_cases c24 : x8_3 < ((rd_T61 l0 x5_1).f1)
          ·rw [if_pos c24] at H
           have c24b0 : decide (x8_3 < ((rd_T61 l0 x5_1).f1)) = true := decide_eq_true c24
           clear c24
           replace H := Option.bind_eq_some_iff.mp H
           obtain ⟨t374, A250, H⟩ := H
           replace H : ((formeref01_Coord.f t374).bind fun t375 => (if t375 = true then (if x4_3.length < 17592186044416 then (formeref02_all.l1 k3 l0 (x4_3 ++ [t374]) x5_1 (wrap64 (x8_3 + 1)) ((rd_T61 l0 x5_1).f0) ((rd_T61 l0 x5_1).f1) ((rd_T61 l0 x5_1).f2.f0) ((rd_T61 l0 x5_1).f2.f1) ((rd_T61 l0 x5_1).f2.f2)) else (none)) else (some (([] : List Int), false)))) = some (r1, r2) := H
           have A25 := Aside0.mk A250
           clear A250
           replace H := Option.bind_eq_some_iff.mp H
           obtain ⟨t375, A260, H⟩ := H
           replace H : (if t375 = true then (if x4_3.length < 17592186044416 then (formeref02_all.l1 k3 l0 (x4_3 ++ [t374]) x5_1 (wrap64 (x8_3 + 1)) ((rd_T61 l0 x5_1).f0) ((rd_T61 l0 x5_1).f1) ((rd_T61 l0 x5_1).f2.f0) ((rd_T61 l0 x5_1).f2.f1) ((rd_T61 l0 x5_1).f2.f2)) else (none)) else (some (([] : List Int), false))) = some (r1, r2) := H
           have A26 := Aside0.mk A260
           clear A260
           by_cases c27 : t375 = true
           ·subst c27
            have H1 : (if x4_3.length < 17592186044416 then (formeref02_all.l1 k3 l0 (x4_3 ++ [t374]) x5_1 (wrap64 (x8_3 + 1)) ((rd_T61 l0 x5_1).f0) ((rd_T61 l0 x5_1).f1) ((rd_T61 l0 x5_1).f2.f0) ((rd_T61 l0 x5_1).f2.f1) ((rd_T61 l0 x5_1).f2.f2)) else (none)) = some (r1, r2) := by rw [if_pos rfl] at H; exact H
            clear H
            have H := H1
            clear H1
            by_cases c28 : x4_3.length < 17592186044416
            ·rw [if_pos c28] at H
             have LMc28 := Aside0.mk c28
             clear c28
             obtain ⟨y376, hy376⟩ : ∃ y_ : List Int, y_ = (x4_3 ++ [t374]) := ⟨_, rfl⟩
             replace H : (formeref02_all.l1 k3 l0 y376 x5_1 (wrap64 (x8_3 + 1)) ((rd_T61 l0 x5_1).f0) ((rd_T61 l0 x5_1).f1) ((rd_T61 l0 x5_1).f2.f0) ((rd_T61 l0 x5_1).f2.f1) ((rd_T61 l0 x5_1).f2.f2)) = some (r1, r2) := by first | (rw [hy376]; with_reducible exact H) | (have H2_ := (Option.bind_some _ _).symm.trans H; rw [hy376]; with_reducible exact H2_) | (have H2_ := (Option.bind_some _ _).symm.trans H; with_reducible exact H2_) | with_reducible exact H | (rw [hy376]; exact H) | exact H
             have Ny376 := Aside0.mk hy376
             clear hy376
             have H' := Aside0.mk H
             clear H
             have hcz29_0 : wr.cell? ⟨gb371, 0, none⟩ = some (.int .i64 ((rd_T61 l0 x5_1).f0)) := (blk_cell BK371.out 0).trans rfl
             have hcz29_1 : wr.cell? ⟨gb371, 1, none⟩ = some (.int .i64 ((rd_T61 l0 x5_1).f1)) := (blk_cell BK371.out 1).trans rfl
             have hcz29_2 : wr.cell? ⟨gb371, 2, none⟩ = some (.int .i64 ((rd_T61 l0 x5_1).f2.f0)) := (blk_cell BK371.out 2).trans rfl
             have hcz29_3 : wr.cell? ⟨gb371, 3, none⟩ = some (.int .i64 ((rd_T61 l0 x5_1).f2.f1)) := (blk_cell BK371.out 3).trans rfl
             have hcz29_4 : wr.cell? ⟨gb371, 4, none⟩ = some (.int .i64 ((rd_T61 l0 x5_1).f2.f2)) := (blk_cell BK371.out 4).trans rfl
             have hfz29_0 := blk_frozen BK371.out 0
             have hfz29_1 := blk_frozen BK371.out 1
             have hfz29_2 := blk_frozen BK371.out 2
             have hfz29_3 := blk_frozen BK371.out 3
             have hfz29_4 := blk_frozen BK371.out 4
             go_wp2_with (first | (go_at_call 40; (with_reducible refine (formeref01_Value.calls ((rd_T61 l0 x5_1).f2.f0) ((rd_T61 l0 x5_1).f2.f1) ((rd_T61 l0 x5_1).f2.f2) (wrap64 (x8_3 - ((rd_T61 l0 x5_1).f0))) t374 _ A25.out).mono ?_); rintro e w30 ⟨rfl, hb⟩; have n0_ := Aside0.mk (Kd.R_below (by (with_reducible repeat (first | apply Kd.R_alloc | apply Kd.R_drewN | apply Kd.R_drew)); exact HO_4.out) hb); have n1_ := Aside0.mk (blk_below (g := gb371) (o := .cells #[.int .i64 ((rd_T61 l0 x5_1).f0), .int .i64 ((rd_T61 l0 x5_1).f1), .int .i64 ((rd_T61 l0 x5_1).f2.f0), .int .i64 ((rd_T61 l0 x5_1).f2.f1), .int .i64 ((rd_T61 l0 x5_1).f2.f2)] 61 (0, 0)) (by (with_reducible repeat (first | refine blk_drewN ?_ _ | refine blk_drew ?_ | refine blk_alloc ?_ _)); exact BK371.out) hb); have n2_ := Aside0.mk (below_step (by repeat (first | (with_reducible first | exact HB.out | apply below_alloc | apply pw_below_drewN | apply below_drew1 | refine below_set ?_ GE371.out) | exact HB.out)) hb); clear HO_4; clear BK371; clear HB; have HO_4 := n0_; have BK371 := n1_; have HB := n2_; clear n0_ n1_ n2_; (try clear hb); (try clear hb2); (try clear hk); (try clear hi)) | (go_at_call 71; (with_reducible refine (formeref01_Coord.calls t374 true _ A26.out).mono ?_); rintro e w' ⟨rfl, ⟨nd, rfl⟩⟩; (try first | exact ⟨rfl, _, World.drewN_drewN _ _ _⟩ | exact ⟨rfl, _, Eq.trans (World.drewN_drewN _ _ _) (congrArg (World.drewN _) (Nat.add_assoc _ _ _))⟩)) | ((with_reducible refine gate_builtin (b := .append) (xs := #[.tmp 77, .tmp 79]) rfl ?_); (try (refine gate_guard (by rfl) ?_; dsimp only)); at_builtin; refine Kd.R_append (Kd.int .i64) (w0 := w) w.heap.size rfl (.tmp 77) (.tmp 79) 24 3 (.int .i64 0) 8 rfl Try.underlying24 info3 rfl (by decide) (by omega) u4 x4_3 t374 [.int .i64 t374] (fun _ => True) (fun _ => False) rfl rfl ?aP (fun _ hk => hk.elim) ?aF ?aO ?aB ?aS ?aL ?_; (case aP => exact rfl); (case aB => exact (by repeat (first | (with_reducible first | exact HB.out | apply below_alloc | apply pw_below_drewN | apply below_drew1 | refine below_set ?_ GE371.out) | exact HB.out))); (case aF => exact (fun _ _ => trivial)); (case aO => exact (by (with_reducible repeat (first | apply Kd.R_alloc | apply Kd.R_drewN | apply Kd.R_drew)); exact HO_4.out)); (case aS => exact (below_size (by repeat (first | (with_reducible first | exact HB.out | apply below_alloc | apply pw_below_drewN | apply below_drew1 | refine below_set ?_ GE371.out) | exact HB.out)))); (case aL => have := LMc28.out; omega); intro v377 w31 ho hb hg hat; rw [← Ny376.out] at ho; have n0_ := Aside0.mk (blk_grown (g := gb371) (o := .cells #[.int .i64 ((rd_T61 l0 x5_1).f0), .int .i64 ((rd_T61 l0 x5_1).f1), .int .i64 ((rd_T61 l0 x5_1).f2.f0), .int .i64 ((rd_T61 l0 x5_1).f2.f1), .int .i64 ((rd_T61 l0 x5_1).f2.f2)] 61 (0, 0)) (by (with_reducible repeat (first | refine blk_drewN ?_ _ | refine blk_drew ?_ | refine blk_alloc ?_ _)); exact BK371.out) hg (Kd.R_ne HO_4.out BK371.out (by decide))); have n1_ := Aside0.mk (hb); have n2_ := Aside0.mk (ho); clear BK371; clear HB; clear HO_4; have BK371 := n0_; have HB := n1_; have HO378 := n2_; clear n0_ n1_ n2_; clear ho hb hg hat))
             repeat (go_quiet (first | (go_at_call 40; (with_reducible refine (formeref01_Value.calls ((rd_T61 l0 x5_1).f2.f0) ((rd_T61 l0 x5_1).f2.f1) ((rd_T61 l0 x5_1).f2.f2) (wrap64 (x8_3 - ((rd_T61 l0 x5_1).f0))) t374 _ A25.out).mono ?_); rintro e w30 ⟨rfl, hb⟩; have n0_ := Aside0.mk (Kd.R_below (by (with_reducible repeat (first | apply Kd.R_alloc | apply Kd.R_drewN | apply Kd.R_drew)); exact HO_4.out) hb); have n1_ := Aside0.mk (blk_below (g := gb371) (o := .cells #[.int .i64 ((rd_T61 l0 x5_1).f0), .int .i64 ((rd_T61 l0 x5_1).f1), .int .i64 ((rd_T61 l0 x5_1).f2.f0), .int .i64 ((rd_T61 l0 x5_1).f2.f1), .int .i64 ((rd_T61 l0 x5_1).f2.f2)] 61 (0, 0)) (by (with_reducible repeat (first | refine blk_drewN ?_ _ | refine blk_drew ?_ | refine blk_alloc ?_ _)); exact BK371.out) hb); have n2_ := Aside0.mk (below_step (by repeat (first | (with_reducible first | exact HB.out | apply below_alloc | apply pw_below_drewN | apply below_drew1 | refine below_set ?_ GE371.out) | exact HB.out)) hb); clear HO_4; clear BK371; clear HB; have HO_4 := n0_; have BK371 := n1_; have HB := n2_; clear n0_ n1_ n2_; (try clear hb); (try clear hb2); (try clear hk); (try clear hi)) | (go_at_call 71; (with_reducible refine (formeref01_Coord.calls t374 true _ A26.out).mono ?_); rintro e w' ⟨rfl, ⟨nd, rfl⟩⟩; (try first | exact ⟨rfl, _, World.drewN_drewN _ _ _⟩ | exact ⟨rfl, _, Eq.trans (World.drewN_drewN _ _ _) (congrArg (World.drewN _) (Nat.add_assoc _ _ _))⟩)) | ((with_reducible refine gate_builtin (b := .append) (xs := #[.tmp 77, .tmp 79]) rfl ?_); (try (refine gate_guard (by rfl) ?_; dsimp only)); at_builtin; refine Kd.R_append (Kd.int .i64) (w0 := w) w.heap.size rfl (.tmp 77) (.tmp 79) 24 3 (.int .i64 0) 8 rfl Try.underlying24 info3 rfl (by decide) (by omega) u4 x4_3 t374 [.int .i64 t374] (fun _ => True) (fun _ => False) rfl rfl ?aP (fun _ hk => hk.elim) ?aF ?aO ?aB ?aS ?aL ?_; (case aP => exact rfl); (case aB => exact (by repeat (first | (with_reducible first | exact HB.out | apply below_alloc | apply pw_below_drewN | apply below_drew1 | refine below_set ?_ GE371.out) | exact HB.out))); (case aF => exact (fun _ _ => trivial)); (case aO => exact (by (with_reducible repeat (first | apply Kd.R_alloc | apply Kd.R_drewN | apply Kd.R_drew)); exact HO_4.out)); (case aS => exact (below_size (by repeat (first | (with_reducible first | exact HB.out | apply below_alloc | apply pw_below_drewN | apply below_drew1 | refine below_set ?_ GE371.out) | exact HB.out)))); (case aL => have := LMc28.out; omega); intro v377 w31 ho hb hg hat; rw [← Ny376.out] at ho; have n0_ := Aside0.mk (blk_grown (g := gb371) (o := .cells #[.int .i64 ((rd_T61 l0 x5_1).f0), .int .i64 ((rd_T61 l0 x5_1).f1), .int .i64 ((rd_T61 l0 x5_1).f2.f0), .int .i64 ((rd_T61 l0 x5_1).f2.f1), .int .i64 ((rd_T61 l0 x5_1).f2.f2)] 61 (0, 0)) (by (with_reducible repeat (first | refine blk_drewN ?_ _ | refine blk_drew ?_ | refine blk_alloc ?_ _)); exact BK371.out) hg (Kd.R_ne HO_4.out BK371.out (by decide))); have n1_ := Aside0.mk (hb); have n2_ := Aside0.mk (ho); clear BK371; clear HB; clear HO_4; have BK371 := n0_; have HB := n1_; have HO378 := n2_; clear n0_ n1_ n2_; clear ho hb hg hat)); try go_wp2_with (first | (go_at_call 40; (with_reducible refine (formeref01_Value.calls ((rd_T61 l0 x5_1).f2.f0) ((rd_T61 l0 x5_1).f2.f1) ((rd_T61 l0 x5_1).f2.f2) (wrap64 (x8_3 - ((rd_T61 l0 x5_1).f0))) t374 _ A25.out).mono ?_); rintro e w30 ⟨rfl, hb⟩; have n0_ := Aside0.mk (Kd.R_below (by (with_reducible repeat (first | apply Kd.R_alloc | apply Kd.R_drewN | apply Kd.R_drew)); exact HO_4.out) hb); have n1_ := Aside0.mk (blk_below (g := gb371) (o := .cells #[.int .i64 ((rd_T61 l0 x5_1).f0), .int .i64 ((rd_T61 l0 x5_1).f1), .int .i64 ((rd_T61 l0 x5_1).f2.f0), .int .i64 ((rd_T61 l0 x5_1).f2.f1), .int .i64 ((rd_T61 l0 x5_1).f2.f2)] 61 (0, 0)) (by (with_reducible repeat (first | refine blk_drewN ?_ _ | refine blk_drew ?_ | refine blk_alloc ?_ _)); exact BK371.out) hb); have n2_ := Aside0.mk (below_step (by repeat (first | (with_reducible first | exact HB.out | apply below_alloc | apply pw_below_drewN | apply below_drew1 | refine below_set ?_ GE371.out) | exact HB.out)) hb); clear HO_4; clear BK371; clear HB; have HO_4 := n0_; have BK371 := n1_; have HB := n2_; clear n0_ n1_ n2_; (try clear hb); (try clear hb2); (try clear hk); (try clear hi)) | (go_at_call 71; (with_reducible refine (formeref01_Coord.calls t374 true _ A26.out).mono ?_); rintro e w' ⟨rfl, ⟨nd, rfl⟩⟩; (try first | exact ⟨rfl, _, World.drewN_drewN _ _ _⟩ | exact ⟨rfl, _, Eq.trans (World.drewN_drewN _ _ _) (congrArg (World.drewN _) (Nat.add_assoc _ _ _))⟩)) | ((with_reducible refine gate_builtin (b := .append) (xs := #[.tmp 77, .tmp 79]) rfl ?_); (try (refine gate_guard (by rfl) ?_; dsimp only)); at_builtin; refine Kd.R_append (Kd.int .i64) (w0 := w) w.heap.size rfl (.tmp 77) (.tmp 79) 24 3 (.int .i64 0) 8 rfl Try.underlying24 info3 rfl (by decide) (by omega) u4 x4_3 t374 [.int .i64 t374] (fun _ => True) (fun _ => False) rfl rfl ?aP (fun _ hk => hk.elim) ?aF ?aO ?aB ?aS ?aL ?_; (case aP => exact rfl); (case aB => exact (by repeat (first | (with_reducible first | exact HB.out | apply below_alloc | apply pw_below_drewN | apply below_drew1 | refine below_set ?_ GE371.out) | exact HB.out))); (case aF => exact (fun _ _ => trivial)); (case aO => exact (by (with_reducible repeat (first | apply Kd.R_alloc | apply Kd.R_drewN | apply Kd.R_drew)); exact HO_4.out)); (case aS => exact (below_size (by repeat (first | (with_reducible first | exact HB.out | apply below_alloc | apply pw_below_drewN | apply below_drew1 | refine below_set ?_ GE371.out) | exact HB.out)))); (case aL => have := LMc28.out; omega); intro v377 w31 ho hb hg hat; rw [← Ny376.out] at ho; have n0_ := Aside0.mk (blk_grown (g := gb371) (o := .cells #[.int .i64 ((rd_T61 l0 x5_1).f0), .int .i64 ((rd_T61 l0 x5_1).f1), .int .i64 ((rd_T61 l0 x5_1).f2.f0), .int .i64 ((rd_T61 l0 x5_1).f2.f1), .int .i64 ((rd_T61 l0 x5_1).f2.f2)] 61 (0, 0)) (by (with_reducible repeat (first | refine blk_drewN ?_ _ | refine blk_drew ?_ | refine blk_alloc ?_ _)); exact BK371.out) hg (Kd.R_ne HO_4.out BK371.out (by decide))); have n1_ := Aside0.mk (hb); have n2_ := Aside0.mk (ho); clear BK371; clear HB; clear HO_4; have BK371 := n0_; have HB := n1_; have HO378 := n2_; clear n0_ n1_ n2_; clear ho hb hg hat)))
             go_roundg k3
             case measure => have := HK1.out; have := HJ4.out; have := HK3.out; omega
             case rel => exact ⟨(y376), (wrap64 (x8_3 + 1)), (by first | rfl | (simp; done) | (simp [*]; done)), H', ⟨by have := HK1.out; have := HJ4.out; have := HK3.out; omega⟩, ⟨by (with_reducible repeat (first | apply Kd.R_alloc | apply Kd.R_drewN | apply Kd.R_drew)); exact HO378.out⟩, ⟨by (with_reducible repeat (first | refine blk_drewN ?_ _ | refine blk_drew ?_ | refine blk_alloc ?_ _)); exact BK371.out⟩, ⟨by repeat (first | (with_reducible first | exact HB.out | apply below_alloc | apply pw_below_drewN | apply below_drew1 | refine below_set ?_ GE371.out) | exact HB.out)⟩⟩
            ·rw [if_neg c28] at H
             exact absurd H (by simp)
           ·replace c27 := Bool.eq_false_iff.mpr c27
            subst c27
            have H1 : (some (([] : List Int), false)) = some (r1, r2) := by rw [if_neg (show ¬ (false = true) by decide)] at H; exact H
            clear H
            have H := H1
            clear H1
            simp only [Option.some.injEq, Prod.mk.injEq] at H
            obtain ⟨rfl, rfl⟩ := H
            have hcz32_0 : wr.cell? ⟨gb371, 0, none⟩ = some (.int .i64 ((rd_T61 l0 x5_1).f0)) := (blk_cell BK371.out 0).trans rfl
            have hcz32_1 : wr.cell? ⟨gb371, 1, none⟩ = some (.int .i64 ((rd_T61 l0 x5_1).f1)) := (blk_cell BK371.out 1).trans rfl
            have hcz32_2 : wr.cell? ⟨gb371, 2, none⟩ = some (.int .i64 ((rd_T61 l0 x5_1).f2.f0)) := (blk_cell BK371.out 2).trans rfl
            have hcz32_3 : wr.cell? ⟨gb371, 3, none⟩ = some (.int .i64 ((rd_T61 l0 x5_1).f2.f1)) := (blk_cell BK371.out 3).trans rfl
            have hcz32_4 : wr.cell? ⟨gb371, 4, none⟩ = some (.int .i64 ((rd_T61 l0 x5_1).f2.f2)) := (blk_cell BK371.out 4).trans rfl
            have hfz32_0 := blk_frozen BK371.out 0
            have hfz32_1 := blk_frozen BK371.out 1
            have hfz32_2 := blk_frozen BK371.out 2
            have hfz32_3 := blk_frozen BK371.out 3
            have hfz32_4 := blk_frozen BK371.out 4
            go_wp2_with (first | (go_at_call 40; (with_reducible refine (formeref01_Value.calls ((rd_T61 l0 x5_1).f2.f0) ((rd_T61 l0 x5_1).f2.f1) ((rd_T61 l0 x5_1).f2.f2) (wrap64 (x8_3 - ((rd_T61 l0 x5_1).f0))) t374 _ A25.out).mono ?_); rintro e w33 ⟨rfl, hb⟩; have n0_ := Aside0.mk (Kd.R_below (by (with_reducible repeat (first | apply Kd.R_alloc | apply Kd.R_drewN | apply Kd.R_drew)); exact HO_4.out) hb); have n1_ := Aside0.mk (blk_below (g := gb371) (o := .cells #[.int .i64 ((rd_T61 l0 x5_1).f0), .int .i64 ((rd_T61 l0 x5_1).f1), .int .i64 ((rd_T61 l0 x5_1).f2.f0), .int .i64 ((rd_T61 l0 x5_1).f2.f1), .int .i64 ((rd_T61 l0 x5_1).f2.f2)] 61 (0, 0)) (by (with_reducible repeat (first | refine blk_drewN ?_ _ | refine blk_drew ?_ | refine blk_alloc ?_ _)); exact BK371.out) hb); have n2_ := Aside0.mk (below_step (by repeat (first | (with_reducible first | exact HB.out | apply below_alloc | apply pw_below_drewN | apply below_drew1 | refine below_set ?_ GE371.out) | exact HB.out)) hb); clear HO_4; clear BK371; clear HB; have HO_4 := n0_; have BK371 := n1_; have HB := n2_; clear n0_ n1_ n2_; (try clear hb); (try clear hb2); (try clear hk); (try clear hi)) | (go_at_call 71; (with_reducible refine (formeref01_Coord.calls t374 false _ A26.out).mono ?_); rintro e w' ⟨rfl, ⟨nd, rfl⟩⟩; (try first | exact ⟨rfl, _, World.drewN_drewN _ _ _⟩ | exact ⟨rfl, _, Eq.trans (World.drewN_drewN _ _ _) (congrArg (World.drewN _) (Nat.add_assoc _ _ _))⟩)))
            repeat (go_quiet (first | (go_at_call 40; (with_reducible refine (formeref01_Value.calls ((rd_T61 l0 x5_1).f2.f0) ((rd_T61 l0 x5_1).f2.f1) ((rd_T61 l0 x5_1).f2.f2) (wrap64 (x8_3 - ((rd_T61 l0 x5_1).f0))) t374 _ A25.out).mono ?_); rintro e w33 ⟨rfl, hb⟩; have n0_ := Aside0.mk (Kd.R_below (by (with_reducible repeat (first | apply Kd.R_alloc | apply Kd.R_drewN | apply Kd.R_drew)); exact HO_4.out) hb); have n1_ := Aside0.mk (blk_below (g := gb371) (o := .cells #[.int .i64 ((rd_T61 l0 x5_1).f0), .int .i64 ((rd_T61 l0 x5_1).f1), .int .i64 ((rd_T61 l0 x5_1).f2.f0), .int .i64 ((rd_T61 l0 x5_1).f2.f1), .int .i64 ((rd_T61 l0 x5_1).f2.f2)] 61 (0, 0)) (by (with_reducible repeat (first | refine blk_drewN ?_ _ | refine blk_drew ?_ | refine blk_alloc ?_ _)); exact BK371.out) hb); have n2_ := Aside0.mk (below_step (by repeat (first | (with_reducible first | exact HB.out | apply below_alloc | apply pw_below_drewN | apply below_drew1 | refine below_set ?_ GE371.out) | exact HB.out)) hb); clear HO_4; clear BK371; clear HB; have HO_4 := n0_; have BK371 := n1_; have HB := n2_; clear n0_ n1_ n2_; (try clear hb); (try clear hb2); (try clear hk); (try clear hi)) | (go_at_call 71; (with_reducible refine (formeref01_Coord.calls t374 false _ A26.out).mono ?_); rintro e w' ⟨rfl, ⟨nd, rfl⟩⟩; (try first | exact ⟨rfl, _, World.drewN_drewN _ _ _⟩ | exact ⟨rfl, _, Eq.trans (World.drewN_drewN _ _ _) (congrArg (World.drewN _) (Nat.add_assoc _ _ _))⟩))); try go_wp2_with (first | (go_at_call 40; (with_reducible refine (formeref01_Value.calls ((rd_T61 l0 x5_1).f2.f0) ((rd_T61 l0 x5_1).f2.f1) ((rd_T61 l0 x5_1).f2.f2) (wrap64 (x8_3 - ((rd_T61 l0 x5_1).f0))) t374 _ A25.out).mono ?_); rintro e w33 ⟨rfl, hb⟩; have n0_ := Aside0.mk (Kd.R_below (by (with_reducible repeat (first | apply Kd.R_alloc | apply Kd.R_drewN | apply Kd.R_drew)); exact HO_4.out) hb); have n1_ := Aside0.mk (blk_below (g := gb371) (o := .cells #[.int .i64 ((rd_T61 l0 x5_1).f0), .int .i64 ((rd_T61 l0 x5_1).f1), .int .i64 ((rd_T61 l0 x5_1).f2.f0), .int .i64 ((rd_T61 l0 x5_1).f2.f1), .int .i64 ((rd_T61 l0 x5_1).f2.f2)] 61 (0, 0)) (by (with_reducible repeat (first | refine blk_drewN ?_ _ | refine blk_drew ?_ | refine blk_alloc ?_ _)); exact BK371.out) hb); have n2_ := Aside0.mk (below_step (by repeat (first | (with_reducible first | exact HB.out | apply below_alloc | apply pw_below_drewN | apply below_drew1 | refine below_set ?_ GE371.out) | exact HB.out)) hb); clear HO_4; clear BK371; clear HB; have HO_4 := n0_; have BK371 := n1_; have HB := n2_; clear n0_ n1_ n2_; (try clear hb); (try clear hb2); (try clear hk); (try clear hi)) | (go_at_call 71; (with_reducible refine (formeref01_Coord.calls t374 false _ A26.out).mono ?_); rintro e w' ⟨rfl, ⟨nd, rfl⟩⟩; (try first | exact ⟨rfl, _, World.drewN_drewN _ _ _⟩ | exact ⟨rfl, _, Eq.trans (World.drewN_drewN _ _ _) (congrArg (World.drewN _) (Nat.add_assoc _ _ _))⟩))))
            go_ret2
            exact ⟨_, by first | rfl | (simp [errW_none, errW_some] <;> rfl) | (simp [*, errW_none, errW_some] <;> rfl), by first | exact Kd.R_nil _ _ _ _ _ | exact Kd.N_nil _ _ _ _ _ | exact Kd.V_nil _ _ _ _ _ | exact Kd.Q_nil _ _ _ _ _ | exact Kd.S_nil _ _ _ _ _, by repeat (first | (with_reducible first | exact HB.out | apply below_alloc | apply pw_below_drewN | apply below_drew1 | refine below_set ?_ GE371.out) | exact HB.out)⟩
          ·rw [if_neg c24] at H
           have c24b0 : decide (x8_3 < ((rd_T61 l0 x5_1).f1)) = false := decide_eq_false c24
           clear c24
           have H' := Aside0.mk H
           clear H
           have hcz34_0 : wr.cell? ⟨gb371, 0, none⟩ = some (.int .i64 ((rd_T61 l0 x5_1).f0)) := (blk_cell BK371.out 0).trans rfl
           have hcz34_1 : wr.cell? ⟨gb371, 1, none⟩ = some (.int .i64 ((rd_T61 l0 x5_1).f1)) := (blk_cell BK371.out 1).trans rfl
           have hcz34_2 : wr.cell? ⟨gb371, 2, none⟩ = some (.int .i64 ((rd_T61 l0 x5_1).f2.f0)) := (blk_cell BK371.out 2).trans rfl
           have hcz34_3 : wr.cell? ⟨gb371, 3, none⟩ = some (.int .i64 ((rd_T61 l0 x5_1).f2.f1)) := (blk_cell BK371.out 3).trans rfl
           have hcz34_4 : wr.cell? ⟨gb371, 4, none⟩ = some (.int .i64 ((rd_T61 l0 x5_1).f2.f2)) := (blk_cell BK371.out 4).trans rfl
           have hfz34_0 := blk_frozen BK371.out 0
           have hfz34_1 := blk_frozen BK371.out 1
           have hfz34_2 := blk_frozen BK371.out 2
           have hfz34_3 := blk_frozen BK371.out 3
           have hfz34_4 := blk_frozen BK371.out 4
           go_wp2
           repeat (go_quiet (fail); try go_wp2)
           go_roundg k3
           case measure => have := HK1.out; have := HJ4.out; have := HK3.out; omega
           case rel => exact ⟨(x4_3), (wrap64 (x5_1 + 1)), (by first | rfl | (simp; done) | (simp [*]; done)), H', ⟨by have := HK1.out; have := HJ4.out; have := HK3.out; omega⟩, ⟨by (with_reducible repeat (first | apply Kd.R_alloc | apply Kd.R_drewN | apply Kd.R_drew)); exact HO_4.out⟩, ⟨by repeat (first | (with_reducible first | exact HB.out | apply below_alloc | apply pw_below_drewN | apply below_drew1 | refine below_set ?_ GE371.out) | exact HB.out)⟩⟩
    ·rw [if_neg c3] at H
     exact absurd H (by simp)
   ·rw [if_neg c2] at H
    have c2b0 : decide (x5_1 < (l0.length : Int)) = false := decide_eq_false c2
    clear c2
    by_cases c35 : (x4_1.length : Int) ≥ 1
    ·rw [if_pos c35] at H
     have c35b0 : decide (1 ≤ (x4_1.length : Int)) = true := decide_eq_true c35
     have c35b1 : decide (1 ≤ x4_1.length) = true := decide_eq_true (by omega)
     clear c35
     simp only [Option.some.injEq, Prod.mk.injEq] at H
     obtain ⟨rfl, rfl⟩ := H
     obtain ⟨Ao36, co36, eo36⟩ := Kd.R_slice HO_4.out
     subst eo36
     go_wp2
     repeat (go_quiet (fail); try go_wp2)
     go_ret2
     exact ⟨_, by first | rfl | (simp [errW_none, errW_some] <;> rfl) | (simp [*, errW_none, errW_some] <;> rfl), by (with_reducible repeat (first | apply Kd.R_alloc | apply Kd.R_drewN | apply Kd.R_drew)); exact HO_4.out, by repeat (first | (with_reducible first | exact HB.out | apply below_alloc | apply pw_below_drewN | apply below_drew1) | exact HB.out)⟩
    ·rw [if_neg c35] at H
     have c35b0 : decide (1 ≤ (x4_1.length : Int)) = false := decide_eq_false c35
     have c35b1 : decide (1 ≤ x4_1.length) = false := decide_eq_false (by omega)
     clear c35
     simp only [Option.some.injEq, Prod.mk.injEq] at H
     obtain ⟨rfl, rfl⟩ := H
     obtain ⟨Ao37, co37, eo37⟩ := Kd.R_slice HO_4.out
     subst eo37
     go_wp2
     repeat (go_quiet (fail); try go_wp2)
     go_ret2
     exact ⟨_, by first | rfl | (simp [errW_none, errW_some] <;> rfl) | (simp [*, errW_none, errW_some] <;> rfl), by (with_reducible repeat (first | apply Kd.R_alloc | apply Kd.R_drewN | apply Kd.R_drew)); exact HO_4.out, by repeat (first | (with_reducible first | exact HB.out | apply below_alloc | apply pw_below_drewN | apply below_drew1) | exact HB.out)⟩
def formeref02_Valid.f (k : Nat) (l0 : List (S61)) : Option (Bool) := (formeref02_all.f k l0).bind fun bt379 => (if bt379.2 = true then (if 0 < (l0.length : Int) then ((formeref02_split.f k ((rd_T61 l0 0).f0) bt379.1).bind fun t384 => ((formeref02_Same.f k t384 l0).bind fun t387 => (some t387))) else (none)) else (some false))
theorem formeref02_Valid.mono : ∀ a0 k, LeO (formeref02_Valid.f k a0) (formeref02_Valid.f (k + 1) a0) := by
 intro a0 k
 unfold formeref02_Valid.f
 repeat' first
   | (with_reducible exact formeref02_Same.mono _ _ _)
   | (with_reducible exact formeref02_all.mono _ _)
   | (with_reducible exact formeref02_split.mono _ _ _)
   | (with_reducible exact LeO.refl _)
   | (with_reducible exact LeO.none _)
   | (with_reducible refine LeO.ite ?_ ?_)
   | (with_reducible refine LeO.bind ?_ (fun _ => ?_))
   | exact formeref02_Same.mono _ _ _
   | exact formeref02_all.mono _ _
   | exact formeref02_split.mono _ _ _
   | exact LeO.none _
   | refine LeO.ite ?_ ?_
   | refine LeO.bind ?_ (fun _ => ?_)
set_option maxHeartbeats 8000000 in
set_option maxRecDepth 100000 in
theorem formeref02_Valid.calls (k : Nat) (A0 : Option Addr) (c0 : Nat) (l0 : List (S61)) (r : Bool) (w : World) (hr0 : Kd.C k61 w A0 l0.length l0) (hc0 : l0.length ≤ c0) (h : formeref02_Valid.f k l0 = some r) :
  Calls Try.prog 50 #[.slice A0 l0.length c0] w fun e w' => e = .returned (.bool r) ∧ Below w.heap.size w w' := by
 have HR0 := Aside0.mk hr0
 have HC0 := Aside0.mk hc0
 clear hr0 hc0
 have HB := Aside0.mk (Below.refl w.heap.size w)
 have H : ((formeref02_all.f k l0).bind fun bt379 => (if bt379.2 = true then (if 0 < (l0.length : Int) then ((formeref02_split.f k ((rd_T61 l0 0).f0) bt379.1).bind fun t384 => ((formeref02_Same.f k t384 l0).bind fun t387 => (some t387))) else (none)) else (some false))) = some r := h
 clear h
 replace H := Option.bind_eq_some_iff.mp H
 obtain ⟨⟨t379, t380⟩, A20, H⟩ := H
 replace H : (if t380 = true then (if 0 < (l0.length : Int) then ((formeref02_split.f k ((rd_T61 l0 0).f0) t379).bind fun t384 => ((formeref02_Same.f k t384 l0).bind fun t387 => (some t387))) else (none)) else (some false)) = some r := H
 have A2 := Aside0.mk A20
 clear A20
 by_cases c3 : t380 = true
 ·subst c3
  have H1 : (if 0 < (l0.length : Int) then ((formeref02_split.f k ((rd_T61 l0 0).f0) t379).bind fun t384 => ((formeref02_Same.f k t384 l0).bind fun t387 => (some t387))) else (none)) = some r := by rw [if_pos rfl] at H; exact H
  clear H
  have H := H1
  clear H1
  by_cases c4 : 0 < (l0.length : Int)
  ·rw [if_pos c4] at H
   have c4b0 : decide (0 < (l0.length : Int)) = true := decide_eq_true c4
   have c4b1 : decide (0 < l0.length) = true := decide_eq_true (by omega)
   clear c4
   replace H := Option.bind_eq_some_iff.mp H
   obtain ⟨t384, A50, H⟩ := H
   replace H : ((formeref02_Same.f k t384 l0).bind fun t387 => (some t387)) = some r := H
   have A5 := Aside0.mk A50
   clear A50
   replace H := Option.bind_eq_some_iff.mp H
   obtain ⟨t387, A60, H⟩ := H
   replace H : (some t387) = some r := H
   have A6 := Aside0.mk A60
   clear A60
   obtain rfl := Option.some.inj H
   go_enter Try.func50, Try.ntmps50
   go_wp2_with (first | ((with_reducible refine gate_callee (f := 91) rfl ?_); refine goesL_ (some 7) rfl rfl Try.func91 (by kernel_rfl) rfl #[.slice A0 l0.length c0] rfl (by (try simp only [List.map_toArray, List.map_cons, List.map_nil]); first | done | rfl | (simp only [List.length_drop, List.length_take]; rfl)) ?_; (with_reducible refine (formeref02_all.calls k _ _ l0 t379 true _ ?side1 ?side2 A2.out).mono ?_); (case side1 => repeat (first | exact HR0.out | (with_reducible refine Kd.C_alloc ?_ _) | (with_reducible refine Kd.C_drewN ?_ _) | (with_reducible refine Kd.C_drew ?_))); (case side2 => exact HC0.out); rintro e w7 ⟨v381, rfl, ho0, hb⟩; refine ⟨_, rfl, ?_⟩; have n0_ := Aside0.mk (Kd.R_lower ho0 (below_size (by repeat (first | (with_reducible first | exact HB.out | apply below_alloc | apply pw_below_drewN | apply below_drew1) | exact HB.out)))); have n1_ := Aside0.mk (below_step (by repeat (first | (with_reducible first | exact HB.out | apply below_alloc | apply pw_below_drewN | apply below_drew1) | exact HB.out)) hb); clear HB; have HO382 := n0_; have HB := n1_; clear n0_ n1_; (try clear hb); (try clear hb2); (try clear hk); (try clear hi); (try clear ho0); have p383 : 0 ≤ (0 : Int) := (by omega); have q383 : 0 < (l0.length : Int) := of_decide_eq_true (by first | (with_reducible assumption) | assumption); obtain ⟨ad383, e383, hx383_0, hx383_1, hx383_2, hx383_3, hx383_4⟩ := at_T61 HR0.out 0 p383 q383; cases e383; have qi383 : (0 < l0.length) = True := eq_true (by omega); (try rw [show ((0 : Int)).toNat = 0 from rfl] at hx383_0); (try rw [show 0 * 5 = 0 from rfl] at hx383_0); (try rw [Addr.add_zero'] at hx383_0); (try rw [show ((0 : Int)).toNat = 0 from rfl] at hx383_1); (try rw [show 0 * 5 = 0 from rfl] at hx383_1); (try rw [Addr.add_zero'] at hx383_1); (try rw [show ((0 : Int)).toNat = 0 from rfl] at hx383_2); (try rw [show 0 * 5 = 0 from rfl] at hx383_2); (try rw [Addr.add_zero'] at hx383_2); (try rw [show ((0 : Int)).toNat = 0 from rfl] at hx383_3); (try rw [show 0 * 5 = 0 from rfl] at hx383_3); (try rw [Addr.add_zero'] at hx383_3); (try rw [show ((0 : Int)).toNat = 0 from rfl] at hx383_4); (try rw [show 0 * 5 = 0 from rfl] at hx383_4); (try rw [Addr.add_zero'] at hx383_4); replace hx383_0 := (HB.out.cell (World.block_lt_of_cell? w _ hx383_0)).trans hx383_0; replace hx383_1 := (HB.out.cell (World.block_lt_of_cell? w _ hx383_1)).trans hx383_1; replace hx383_2 := (HB.out.cell (World.block_lt_of_cell? w _ hx383_2)).trans hx383_2; replace hx383_3 := (HB.out.cell (World.block_lt_of_cell? w _ hx383_3)).trans hx383_3; replace hx383_4 := (HB.out.cell (World.block_lt_of_cell? w _ hx383_4)).trans hx383_4; replace p383 := eq_true p383; replace q383 := eq_true q383; obtain ⟨Ao8, co8, eo8⟩ := Kd.R_slice HO382.out; subst eo8) | ((with_reducible refine gate_callee (f := 90) rfl ?_); refine goesL_ (some 17) rfl rfl Try.func90 (by kernel_rfl) rfl #[.int .i64 ((rd_T61 l0 0).f0), .slice Ao8 t379.length co8] rfl (by (try simp only [List.map_toArray, List.map_cons, List.map_nil]); first | done | rfl | (simp only [List.length_drop, List.length_take]; rfl)) ?_; (with_reducible refine (formeref02_split.calls k ((rd_T61 l0 0).f0) _ _ t379 t384 _ ?side1 ?side2 A5.out).mono ?_); (case side1 => repeat (first | exact (Kd.R_reads' HO382.out).2.2 | (with_reducible refine Kd.C_alloc ?_ _) | (with_reducible refine Kd.C_drewN ?_ _) | (with_reducible refine Kd.C_drew ?_))); (case side2 => exact (Kd.R_reads' HO382.out).2.1); rintro e w9 ⟨v385, rfl, ho0, hb⟩; refine ⟨_, rfl, ?_⟩; have n0_ := Aside0.mk (Kd.R_below (by (with_reducible repeat (first | apply Kd.R_alloc | apply Kd.R_drewN | apply Kd.R_drew)); exact HO382.out) hb); have n1_ := Aside0.mk (Kd.R_lower ho0 (below_size (by repeat (first | (with_reducible first | exact HB.out | apply below_alloc | apply pw_below_drewN | apply below_drew1) | exact HB.out)))); have n2_ := Aside0.mk (below_step (by repeat (first | (with_reducible first | exact HB.out | apply below_alloc | apply pw_below_drewN | apply below_drew1) | exact HB.out)) hb); clear HO382; clear HB; have HO382 := n0_; have HO386 := n1_; have HB := n2_; clear n0_ n1_ n2_; (try clear hb); (try clear hb2); (try clear hk); (try clear hi); (try clear ho0); obtain ⟨Ao10, co10, eo10⟩ := Kd.R_slice HO386.out; subst eo10) | ((with_reducible refine gate_callee (f := 48) rfl ?_); refine goesL_ (some 19) rfl rfl Try.func48 (by kernel_rfl) rfl #[.slice Ao10 t384.length co10, .slice (some ad383) l0.length c0] rfl (by (try simp only [List.map_toArray, List.map_cons, List.map_nil]); first | done | rfl | (simp only [List.length_drop, List.length_take]; rfl)) ?_; (with_reducible refine (formeref02_Same.calls k _ _ t384 _ _ l0 t387 _ ?side1 ?side2 ?side3 ?side4 A6.out).mono ?_); (case side1 => repeat (first | exact (Kd.R_reads' HO386.out).2.2 | (with_reducible refine Kd.C_alloc ?_ _) | (with_reducible refine Kd.C_drewN ?_ _) | (with_reducible refine Kd.C_drew ?_))); (case side2 => exact (Kd.R_reads' HO386.out).2.1); (case side3 => repeat (first | exact (Kd.C_below HR0.out HB.out) | (with_reducible refine Kd.C_alloc ?_ _) | (with_reducible refine Kd.C_drewN ?_ _) | (with_reducible refine Kd.C_drew ?_))); (case side4 => exact HC0.out); rintro e w' ⟨rfl, ⟨nd, rfl⟩⟩; refine ⟨_, rfl, ?_⟩))
   go_ret
   exact ⟨by first | rfl | (simp [errW_none, errW_some] <;> rfl) | (simp [*, errW_none, errW_some] <;> rfl), by repeat (first | (with_reducible first | exact HB.out | apply below_alloc | apply pw_below_drewN | apply below_drew1) | exact HB.out)⟩
  ·rw [if_neg c4] at H
   exact absurd H (by simp)
 ·replace c3 := Bool.eq_false_iff.mpr c3
  subst c3
  have H1 : (some false) = some r := by rw [if_neg (show ¬ (false = true) by decide)] at H; exact H
  clear H
  have H := H1
  clear H1
  obtain rfl := Option.some.inj H
  go_enter Try.func50, Try.ntmps50
  go_wp2_with (first | ((with_reducible refine gate_callee (f := 91) rfl ?_); refine goesL_ (some 7) rfl rfl Try.func91 (by kernel_rfl) rfl #[.slice A0 l0.length c0] rfl (by (try simp only [List.map_toArray, List.map_cons, List.map_nil]); first | done | rfl | (simp only [List.length_drop, List.length_take]; rfl)) ?_; (with_reducible refine (formeref02_all.calls k _ _ l0 t379 false _ ?side1 ?side2 A2.out).mono ?_); (case side1 => repeat (first | exact HR0.out | (with_reducible refine Kd.C_alloc ?_ _) | (with_reducible refine Kd.C_drewN ?_ _) | (with_reducible refine Kd.C_drew ?_))); (case side2 => exact HC0.out); rintro e w11 ⟨v381, rfl, ho0, hb⟩; refine ⟨_, rfl, ?_⟩; have n0_ := Aside0.mk (Kd.R_lower ho0 (below_size (by repeat (first | (with_reducible first | exact HB.out | apply below_alloc | apply pw_below_drewN | apply below_drew1) | exact HB.out)))); have n1_ := Aside0.mk (below_step (by repeat (first | (with_reducible first | exact HB.out | apply below_alloc | apply pw_below_drewN | apply below_drew1) | exact HB.out)) hb); clear HB; have HO382 := n0_; have HB := n1_; clear n0_ n1_; (try clear hb); (try clear hb2); (try clear hk); (try clear hi); (try clear ho0)))
  go_ret
  exact ⟨by first | rfl | (simp [errW_none, errW_some] <;> rfl) | (simp [*, errW_none, errW_some] <;> rfl), by repeat (first | (with_reducible first | exact HB.out | apply below_alloc | apply pw_below_drewN | apply below_drew1) | exact HB.out)⟩
end Go.Proofs.Ytjpghfjaloglhaa.PCurve

