import Derived.Test.YtjpghfjaloglhaaZTUPContractx0
import Derived.Test.YtjpghfjaloglhaaZTUPContractx2
import Derived.Test.YtjpghfjaloglhaaZTUPContractx9
import Derived.Test.YtjpghfjaloglhaaZTUEContractCourse
import Derived.Test.YtjpghfjaloglhaaZTUEContractHead38
import Derived.Test.YtjpghfjaloglhaaZTUEContractJudge
namespace Go.Proofs.Ytjpghfjaloglhaa.PContract
open Go.RowKit Go.Proofs.YtjpghfjaloglhaaW.PrintWords Go.Proofs.YtjpghfjaloglhaaW.PrintLast Go.Proofs.YtjpghfjaloglhaaW.PrintMore
attribute [local go_sem] max2_int min2_int max_two min_two max_three min_three max_four min_four   -- for this text's walks alone
set_option linter.unusedVariables false
set_option linter.unusedSimpArgs false
attribute [local go_sem high] eqA71
mutual
def formelaw38_ContractCourses.j0 : Nat → List (S78) → Bool → Bool → Int → Int → List (S61) → Option (Bool)
 | 0, _, _, _, _, _, _ => none
 | k + 1, x1, x5, x23, x612000, x612001, x612002 => if x23 = true then (some x5) else ((contract_Course.f x612000 x612001 x612002 x1).bind fun bt614 => (if bt614.2.2.2.2.2.2 = 0 then (formelaw38_ContractCourses.j1 k x1 x5 bt614.2.2.2.2.2.1 bt614.2.2.2.2.2.2 ((bt614.2.2.2.2.2.1.length : Int) != (x1.length : Int)) x612000 x612001 x612002 bt614.1 bt614.2.1 bt614.2.2.1 bt614.2.2.2.1 bt614.2.2.2.2.1) else (formelaw38_ContractCourses.j1 k x1 x5 bt614.2.2.2.2.2.1 bt614.2.2.2.2.2.2 true x612000 x612001 x612002 bt614.1 bt614.2.1 bt614.2.2.1 bt614.2.2.2.1 bt614.2.2.2.2.1)))
def formelaw38_ContractCourses.j1 : Nat → List (S78) → Bool → List Int → Int → Bool → Int → Int → List (S61) → Int → Int → Int → Int → Bool → Option (Bool)
 | 0, _, _, _, _, _, _, _, _, _, _, _, _, _ => none
 | k + 1, x1, x5, x7, x8, x40, x612000, x612001, x612002, x624000, x624001, x624002, x624003, x624004 => if x40 = true then (if x5 = true then (some (x8 != 0)) else (some false)) else (formelaw38_ContractCourses.l0 k x1 x5 x7 0 x612000 x612001 x612002 x624000 x624001 x624002 x624003 x624004 x612000 0 0 0 false)
def formelaw38_ContractCourses.l0 : Nat → List (S78) → Bool → List Int → Int → Int → Int → List (S61) → Int → Int → Int → Int → Bool → Int → Int → Int → Int → Bool → Option (Bool)
 | 0, _, _, _, _, _, _, _, _, _, _, _, _, _, _, _, _, _ => none
 | k + 1, x1, x5, x7, x10, x612000, x612001, x612002, x624000, x624001, x624002, x624003, x624004, x625000, x625001, x625002, x625003, x625004 => if x10 < (x1.length : Int) then (if 0 ≤ x10 then ((contract_Judge.f x612000 x612001 x612002 x625000 x625001 x625002 x625003 x625004 ((rd_T78 x1 x10).f0) ((rd_T78 x1 x10).f1) ((rd_T78 x1 x10).f2) ((rd_T78 x1 x10).f3)).bind fun bt626 => (if bt626.2.2.2.2.2.2.2 = 0 then (if x10 < (x7.length : Int) then (if bt626.2.2.2.2.2.1 = (rd x7 x10) then (formelaw38_ContractCourses.l0 k x1 x5 x7 (wrap64 (x10 + 1)) x612000 x612001 x612002 x624000 x624001 x624002 x624003 x624004 bt626.1 bt626.2.1 bt626.2.2.1 bt626.2.2.2.1 bt626.2.2.2.2.1) else (some false)) else (none)) else (some false))) else (none)) else (if x5 = true then (some (x624000 == x625000 && (x624001 == x625001 && (x624002 == x625002 && (x624003 == x625003 && (x624004 == x625004)))))) else (some false))
end
def formelaw38_ContractCourses.f (k : Nat) (a0_0 : Int) (a0_1 : Int) (l0_2 : List (S61)) (l1 : List (S78)) : Option (Bool) := (formelaw38_head.f).bind fun t612 => ((formeref38_Few.f k a0_0 a0_1 l0_2).bind fun t613 => (if t613 = true then (formelaw38_ContractCourses.j0 k l1 t612 (decide ((l1.length : Int) > 40)) a0_0 a0_1 l0_2) else (formelaw38_ContractCourses.j0 k l1 t612 true a0_0 a0_1 l0_2)))
theorem formelaw38_ContractCourses.mono_l : ∀ k, (∀ y0 y1 y2 y3 y4 y5, LeO (formelaw38_ContractCourses.j0 k y0 y1 y2 y3 y4 y5) (formelaw38_ContractCourses.j0 (k + 1) y0 y1 y2 y3 y4 y5)) ∧ (∀ y0 y1 y2 y3 y4 y5 y6 y7 y8 y9 y10 y11 y12, LeO (formelaw38_ContractCourses.j1 k y0 y1 y2 y3 y4 y5 y6 y7 y8 y9 y10 y11 y12) (formelaw38_ContractCourses.j1 (k + 1) y0 y1 y2 y3 y4 y5 y6 y7 y8 y9 y10 y11 y12)) ∧ (∀ y0 y1 y2 y3 y4 y5 y6 y7 y8 y9 y10 y11 y12 y13 y14 y15 y16, LeO (formelaw38_ContractCourses.l0 k y0 y1 y2 y3 y4 y5 y6 y7 y8 y9 y10 y11 y12 y13 y14 y15 y16) (formelaw38_ContractCourses.l0 (k + 1) y0 y1 y2 y3 y4 y5 y6 y7 y8 y9 y10 y11 y12 y13 y14 y15 y16))
 | 0 => ⟨fun _ _ _ _ _ _ r h => by simp [formelaw38_ContractCourses.j0] at h, fun _ _ _ _ _ _ _ _ _ _ _ _ _ r h => by simp [formelaw38_ContractCourses.j1] at h, fun _ _ _ _ _ _ _ _ _ _ _ _ _ _ _ _ _ r h => by simp [formelaw38_ContractCourses.l0] at h⟩
 | k + 1 => by
  obtain ⟨ih0, ih1, ih2⟩ := formelaw38_ContractCourses.mono_l k
  refine ⟨?_, ?_, ?_⟩
  ·intro y0 y1 y2 y3 y4 y5
   unfold formelaw38_ContractCourses.j0
   repeat' first
   | (with_reducible exact ih0 _ _ _ _ _ _)
   | (with_reducible exact ih1 _ _ _ _ _ _ _ _ _ _ _ _ _)
   | (with_reducible exact ih2 _ _ _ _ _ _ _ _ _ _ _ _ _ _ _ _ _)
   | (with_reducible exact formeref38_Few.mono _ _ _ _)
   | (with_reducible exact LeO.refl _)
   | (with_reducible exact LeO.none _)
   | (with_reducible refine LeO.ite ?_ ?_)
   | (with_reducible refine LeO.bind ?_ (fun _ => ?_))
   | exact ih0 _ _ _ _ _ _
   | exact ih1 _ _ _ _ _ _ _ _ _ _ _ _ _
   | exact ih2 _ _ _ _ _ _ _ _ _ _ _ _ _ _ _ _ _
   | exact formeref38_Few.mono _ _ _ _
   | exact LeO.none _
   | refine LeO.ite ?_ ?_
   | refine LeO.bind ?_ (fun _ => ?_)
  ·intro y0 y1 y2 y3 y4 y5 y6 y7 y8 y9 y10 y11 y12
   unfold formelaw38_ContractCourses.j1
   repeat' first
   | (with_reducible exact ih0 _ _ _ _ _ _)
   | (with_reducible exact ih1 _ _ _ _ _ _ _ _ _ _ _ _ _)
   | (with_reducible exact ih2 _ _ _ _ _ _ _ _ _ _ _ _ _ _ _ _ _)
   | (with_reducible exact formeref38_Few.mono _ _ _ _)
   | (with_reducible exact LeO.refl _)
   | (with_reducible exact LeO.none _)
   | (with_reducible refine LeO.ite ?_ ?_)
   | (with_reducible refine LeO.bind ?_ (fun _ => ?_))
   | exact ih0 _ _ _ _ _ _
   | exact ih1 _ _ _ _ _ _ _ _ _ _ _ _ _
   | exact ih2 _ _ _ _ _ _ _ _ _ _ _ _ _ _ _ _ _
   | exact formeref38_Few.mono _ _ _ _
   | exact LeO.none _
   | refine LeO.ite ?_ ?_
   | refine LeO.bind ?_ (fun _ => ?_)
  ·intro y0 y1 y2 y3 y4 y5 y6 y7 y8 y9 y10 y11 y12 y13 y14 y15 y16
   unfold formelaw38_ContractCourses.l0
   repeat' first
   | (with_reducible exact ih0 _ _ _ _ _ _)
   | (with_reducible exact ih1 _ _ _ _ _ _ _ _ _ _ _ _ _)
   | (with_reducible exact ih2 _ _ _ _ _ _ _ _ _ _ _ _ _ _ _ _ _)
   | (with_reducible exact formeref38_Few.mono _ _ _ _)
   | (with_reducible exact LeO.refl _)
   | (with_reducible exact LeO.none _)
   | (with_reducible refine LeO.ite ?_ ?_)
   | (with_reducible refine LeO.bind ?_ (fun _ => ?_))
   | exact ih0 _ _ _ _ _ _
   | exact ih1 _ _ _ _ _ _ _ _ _ _ _ _ _
   | exact ih2 _ _ _ _ _ _ _ _ _ _ _ _ _ _ _ _ _
   | exact formeref38_Few.mono _ _ _ _
   | exact LeO.none _
   | refine LeO.ite ?_ ?_
   | refine LeO.bind ?_ (fun _ => ?_)
theorem formelaw38_ContractCourses.mono : ∀ a0 a1 a2 a3 k, LeO (formelaw38_ContractCourses.f k a0 a1 a2 a3) (formelaw38_ContractCourses.f (k + 1) a0 a1 a2 a3) := by
 intro a0 a1 a2 a3 k
 obtain ⟨ih0, ih1, ih2⟩ := formelaw38_ContractCourses.mono_l k
 unfold formelaw38_ContractCourses.f
 repeat' first
   | (with_reducible exact ih0 _ _ _ _ _ _)
   | (with_reducible exact ih1 _ _ _ _ _ _ _ _ _ _ _ _ _)
   | (with_reducible exact ih2 _ _ _ _ _ _ _ _ _ _ _ _ _ _ _ _ _)
   | (with_reducible exact formeref38_Few.mono _ _ _ _)
   | (with_reducible exact LeO.refl _)
   | (with_reducible exact LeO.none _)
   | (with_reducible refine LeO.ite ?_ ?_)
   | (with_reducible refine LeO.bind ?_ (fun _ => ?_))
   | exact ih0 _ _ _ _ _ _
   | exact ih1 _ _ _ _ _ _ _ _ _ _ _ _ _
   | exact ih2 _ _ _ _ _ _ _ _ _ _ _ _ _ _ _ _ _
   | exact formeref38_Few.mono _ _ _ _
   | exact LeO.none _
   | refine LeO.ite ?_ ?_
   | refine LeO.bind ?_ (fun _ => ?_)
def formelaw38_ContractCourses.T11 : Bool × List (List Nat × List Nat) := (true, [([], []), ([], []), ([], []), ([], []), ([2, 3], [2, 3]), ([4], [4]), ([0, 1, 5], [0, 1, 5]), ([6], [6]), ([7], [7]), ([7], [7]), ([7], [7]), ([7], [7]), ([], []), ([12, 8, 6, 0, 1, 2, 3, 4, 5, 6, 7, 8, 12], [8, 12]), ([9, 13, 0, 1, 2, 3, 4, 5, 6, 7, 8, 9, 12, 13], [9]), ([10, 14, 0, 1, 2, 3, 4, 5, 6, 7, 8, 9, 10, 12, 13, 14], [10]), ([11, 15, 0, 1, 2, 3, 4, 5, 6, 7, 8, 9, 10, 11, 12, 13, 14, 15], [11])])
def formelaw38_ContractCourses.B11 : List Nat := [0, 0, 0, 0, 12, 28, 63, 127, 255, 255, 255, 255, 0, 4607, 13311, 30719, 65535]
theorem formelaw38_ContractCourses.tab11 : rtab .any (opsOf Try.f22 11) = formelaw38_ContractCourses.T11 := by kernel_rfl
theorem formelaw38_ContractCourses.bits11 : waitsOk formelaw38_ContractCourses.T11.2 formelaw38_ContractCourses.B11 = true := by kernel_rfl
set_option maxHeartbeats 8000000 in
set_option maxRecDepth 100000 in
theorem formelaw38_ContractCourses.calls (k : Nat) (a0_0 : Int) (a0_1 : Int) (A0_2 : Option Addr) (c0_2 : Nat) (l0_2 : List (S61)) (A1 : Option Addr) (c1 : Nat) (l1 : List (S78)) (r : Bool) (w : World) (hr0_2 : Kd.C k61 w A0_2 l0_2.length l0_2) (hc0_2 : l0_2.length ≤ c0_2) (hr1 : Kd.C k78 w A1 l1.length l1) (hc1 : l1.length ≤ c1) (h : formelaw38_ContractCourses.f k a0_0 a0_1 l0_2 l1 = some r) (hTr : r = true := by first | rfl | exact Aside0.out (by assumption)) :
  Calls Try.prog 22 #[.agg #[.int .i64 a0_0, .int .i64 a0_1, .slice A0_2 l0_2.length c0_2], .slice A1 l1.length c1] w fun e w' => e = .returned (.bool r) ∧ Below w.heap.size w w' := by
 have HTr := Aside0.mk hTr
 clear hTr
 have hu69 := Try.underlying69
 have hu71 := Try.underlying71
 have hu78 := Try.underlying78
 have HR0_2 := Aside0.mk hr0_2
 have HC0_2 := Aside0.mk hc0_2
 clear hr0_2 hc0_2
 have HR1 := Aside0.mk hr1
 have HC1 := Aside0.mk hc1
 clear hr1 hc1
 have HB := Aside0.mk (Below.refl w.heap.size w)
 have H : ((formelaw38_head.f).bind fun t612 => ((formeref38_Few.f k a0_0 a0_1 l0_2).bind fun t613 => (if t613 = true then (formelaw38_ContractCourses.j0 k l1 t612 (decide ((l1.length : Int) > 40)) a0_0 a0_1 l0_2) else (formelaw38_ContractCourses.j0 k l1 t612 true a0_0 a0_1 l0_2)))) = some r := h
 clear h
 replace H := Option.bind_eq_some_iff.mp H
 obtain ⟨t612, A30, H⟩ := H
 replace H : ((formeref38_Few.f k a0_0 a0_1 l0_2).bind fun t613 => (if t613 = true then (formelaw38_ContractCourses.j0 k l1 t612 (decide ((l1.length : Int) > 40)) a0_0 a0_1 l0_2) else (formelaw38_ContractCourses.j0 k l1 t612 true a0_0 a0_1 l0_2))) = some r := H
 have A3 := Aside0.mk A30
 clear A30
 have HC4 := Aside0.mk H
 clear H
 go_enter Try.func22, Try.ntmps22
 go_upto_region 2 with (first | ((with_reducible refine gate_dst (N := 2) rfl ?_); (try (refine gate_guard (by rfl) ?_; dsimp only)); refine box_event ?hg (N := 2) ?hd (cs := #[.int .i64 a0_0, .int .i64 a0_1, .slice A0_2 l0_2.length c0_2]) (t := 69) ?hr ?_; (case hd => rfl); (case hg => rfl); (case hr => first | (go_simp; done) | (go_simp; rfl)); intro gb611 hg w5 hbox hb; have n0_ := Aside0.mk (below_step (by repeat (first | (with_reducible first | exact HB.out | apply below_alloc | apply pw_below_drewN | apply below_drew1) | exact HB.out)) hb); have n1_ := Aside0.mk (hbox); have n2_ := Aside0.mk ((by rw [hg]; exact (below_size (by repeat (first | (with_reducible first | exact HB.out | apply below_alloc | apply pw_below_drewN | apply below_drew1) | exact HB.out))) : w.heap.size ≤ gb611)); have n3_ := Aside0.mk ((by rw [hg]; exact (below_size (by repeat (first | (with_reducible first | exact HB.out | apply below_alloc | apply pw_below_drewN | apply below_drew1) | exact HB.out))) : w.heap.size ≤ gb611)); clear HB; have HB := n0_; have BK611 := n1_; have GW611 := n2_; have GE611 := n3_; clear n0_ n1_ n2_ n3_; clear hb hbox hg) | ((with_reducible refine gate_callee (f := 57) rfl ?_); refine goesL_ (some 15) rfl rfl Try.func57 (by kernel_rfl) rfl #[] rfl (by (try simp only [List.map_toArray, List.map_cons, List.map_nil]); first | done | rfl | (simp only [List.length_drop, List.length_take]; rfl)) ?_; (with_reducible refine (formelaw38_head.calls  t612 _ A3.out).mono ?_); rintro e w6 ⟨rfl, hb⟩; refine ⟨_, rfl, ?_⟩; have n0_ := Aside0.mk (blk_below (g := gb611) (o := .cells #[.int .i64 a0_0, .int .i64 a0_1, .slice A0_2 l0_2.length c0_2] 69 (0, 0)) (by (with_reducible repeat (first | refine blk_drewN ?_ _ | refine blk_drew ?_ | refine blk_alloc ?_ _)); exact BK611.out) hb); have n1_ := Aside0.mk (below_step (by repeat (first | (with_reducible first | exact HB.out | apply below_alloc | apply pw_below_drewN | apply below_drew1 | refine below_set ?_ GE611.out) | exact HB.out)) hb); clear BK611; clear HB; have BK611 := n0_; have HB := n1_; clear n0_ n1_; (try clear hb); (try clear hb2); (try clear hk); (try clear hi)))
 (try simp only [Act.put, List.setIfInBounds_toArray, List.set_cons_zero, List.set_cons_succ])
 go_cut [23] (fun v23 wc => ∃ (kq : Nat) (x23_3 : Bool), v23 = .bool x23_3 ∧ Aside0 (formelaw38_ContractCourses.j0 kq l1 t612 x23_3 a0_0 a0_1 l0_2 = some r) ∧ Aside0 (kq ≤ k) ∧ Aside0 (wc.heap[gb611]? = some (.cells #[.int .i64 a0_0, .int .i64 a0_1, (.slice A0_2 l0_2.length c0_2)] 69 (0, 0))) ∧ Aside0 (Below w.heap.size w wc))
 case first =>
  have H := HC4.out
  clear HC4
  replace H := Option.bind_eq_some_iff.mp H
  obtain ⟨t613, A70, H⟩ := H
  replace H : (if t613 = true then (formelaw38_ContractCourses.j0 k l1 t612 (decide ((l1.length : Int) > 40)) a0_0 a0_1 l0_2) else (formelaw38_ContractCourses.j0 k l1 t612 true a0_0 a0_1 l0_2)) = some r := H
  have A7 := Aside0.mk A70
  clear A70
  by_cases c8 : t613 = true
  ·subst c8
   have H1 : (formelaw38_ContractCourses.j0 k l1 t612 (decide ((l1.length : Int) > 40)) a0_0 a0_1 l0_2) = some r := by rw [if_pos rfl] at H; exact H
   clear H
   have H := H1
   clear H1
   have H' := Aside0.mk H
   clear H
   have hcz9_0 : w6.cell? ⟨gb611, 0, none⟩ = some (.int .i64 a0_0) := (blk_cell BK611.out 0).trans rfl
   have hcz9_1 : w6.cell? ⟨gb611, 1, none⟩ = some (.int .i64 a0_1) := (blk_cell BK611.out 1).trans rfl
   have hcz9_2 : w6.cell? ⟨gb611, 2, none⟩ = some (.slice A0_2 l0_2.length c0_2) := (blk_cell BK611.out 2).trans rfl
   have hfz9_0 := blk_frozen BK611.out 0
   have hfz9_1 := blk_frozen BK611.out 1
   have hfz9_2 := blk_frozen BK611.out 2
   go_wp2_with (first | ((with_reducible refine gate_callee (f := 58) rfl ?_); refine goesL_ (some 17) rfl rfl Try.func58 (by kernel_rfl) rfl #[.agg #[.int .i64 a0_0, .int .i64 a0_1, .slice A0_2 l0_2.length c0_2]] rfl (by (try simp only [List.map_toArray, List.map_cons, List.map_nil]); first | done | rfl | (simp only [List.length_drop, List.length_take]; rfl)) ?_; (with_reducible refine (formeref38_Few.calls k a0_0 a0_1 _ _ l0_2 true _ ?side1 ?side2 A7.out).mono ?_); (case side1 => repeat (first | exact (Kd.C_below HR0_2.out HB.out) | (with_reducible refine Kd.C_alloc ?_ _) | (with_reducible refine Kd.C_drewN ?_ _) | (with_reducible refine Kd.C_drew ?_))); (case side2 => exact HC0_2.out); rintro e w10 ⟨rfl, hb⟩; refine ⟨_, rfl, ?_⟩; have n0_ := Aside0.mk (blk_below (g := gb611) (o := .cells #[.int .i64 a0_0, .int .i64 a0_1, .slice A0_2 l0_2.length c0_2] 69 (0, 0)) (by (with_reducible repeat (first | refine blk_drewN ?_ _ | refine blk_drew ?_ | refine blk_alloc ?_ _)); exact BK611.out) hb); have n1_ := Aside0.mk (below_step (by repeat (first | (with_reducible first | exact HB.out | apply below_alloc | apply pw_below_drewN | apply below_drew1 | refine below_set ?_ GE611.out) | exact HB.out)) hb); clear BK611; clear HB; have BK611 := n0_; have HB := n1_; clear n0_ n1_; (try clear hb); (try clear hb2); (try clear hk); (try clear hi)))
   go_meet
   case rel => exact ⟨_, (decide ((l1.length : Int) > 40)), (by first | rfl | (simp; done) | (simp [*]; done)), H', ⟨by first | omega | exact Nat.le_refl _⟩, ⟨by (with_reducible repeat (first | refine blk_drewN ?_ _ | refine blk_drew ?_ | refine blk_alloc ?_ _)); exact BK611.out⟩, ⟨by repeat (first | (with_reducible first | exact HB.out | apply below_alloc | apply pw_below_drewN | apply below_drew1 | refine below_set ?_ GE611.out) | exact HB.out)⟩⟩
  ·replace c8 := Bool.eq_false_iff.mpr c8
   subst c8
   have H1 : (formelaw38_ContractCourses.j0 k l1 t612 true a0_0 a0_1 l0_2) = some r := by rw [if_neg (show ¬ (false = true) by decide)] at H; exact H
   clear H
   have H := H1
   clear H1
   have H' := Aside0.mk H
   clear H
   have hcz11_0 : w6.cell? ⟨gb611, 0, none⟩ = some (.int .i64 a0_0) := (blk_cell BK611.out 0).trans rfl
   have hcz11_1 : w6.cell? ⟨gb611, 1, none⟩ = some (.int .i64 a0_1) := (blk_cell BK611.out 1).trans rfl
   have hcz11_2 : w6.cell? ⟨gb611, 2, none⟩ = some (.slice A0_2 l0_2.length c0_2) := (blk_cell BK611.out 2).trans rfl
   have hfz11_0 := blk_frozen BK611.out 0
   have hfz11_1 := blk_frozen BK611.out 1
   have hfz11_2 := blk_frozen BK611.out 2
   go_wp2_with (first | ((with_reducible refine gate_callee (f := 58) rfl ?_); refine goesL_ (some 17) rfl rfl Try.func58 (by kernel_rfl) rfl #[.agg #[.int .i64 a0_0, .int .i64 a0_1, .slice A0_2 l0_2.length c0_2]] rfl (by (try simp only [List.map_toArray, List.map_cons, List.map_nil]); first | done | rfl | (simp only [List.length_drop, List.length_take]; rfl)) ?_; (with_reducible refine (formeref38_Few.calls k a0_0 a0_1 _ _ l0_2 false _ ?side1 ?side2 A7.out).mono ?_); (case side1 => repeat (first | exact (Kd.C_below HR0_2.out HB.out) | (with_reducible refine Kd.C_alloc ?_ _) | (with_reducible refine Kd.C_drewN ?_ _) | (with_reducible refine Kd.C_drew ?_))); (case side2 => exact HC0_2.out); rintro e w12 ⟨rfl, hb⟩; refine ⟨_, rfl, ?_⟩; have n0_ := Aside0.mk (blk_below (g := gb611) (o := .cells #[.int .i64 a0_0, .int .i64 a0_1, .slice A0_2 l0_2.length c0_2] 69 (0, 0)) (by (with_reducible repeat (first | refine blk_drewN ?_ _ | refine blk_drew ?_ | refine blk_alloc ?_ _)); exact BK611.out) hb); have n1_ := Aside0.mk (below_step (by repeat (first | (with_reducible first | exact HB.out | apply below_alloc | apply pw_below_drewN | apply below_drew1 | refine below_set ?_ GE611.out) | exact HB.out)) hb); clear BK611; clear HB; have BK611 := n0_; have HB := n1_; clear n0_ n1_; (try clear hb); (try clear hb2); (try clear hk); (try clear hi)))
   go_meet
   case rel => exact ⟨_, (true), (by first | rfl | (simp; done) | (simp [*]; done)), H', ⟨by first | omega | exact Nat.le_refl _⟩, ⟨by (with_reducible repeat (first | refine blk_drewN ?_ _ | refine blk_drew ?_ | refine blk_alloc ?_ _)); exact BK611.out⟩, ⟨by repeat (first | (with_reducible first | exact HB.out | apply below_alloc | apply pw_below_drewN | apply below_drew1 | refine below_set ?_ GE611.out) | exact HB.out)⟩⟩
 case rest =>
  clear HC4
  try clear c1
  try clear c2
  try clear p2
  try clear c5
  try clear c8
  try clear hcz11_0
  try clear hcz11_1
  try clear hcz11_2
  try clear hcz9_0
  try clear hcz9_1
  try clear hcz9_2
  try clear hfz11_0
  try clear hfz11_1
  try clear hfz11_2
  try clear hfz9_0
  try clear hfz9_1
  try clear hfz9_2
  obtain ⟨kq, x23_3, rfl, HA, HJ3, BK611, HB⟩ := hcut
  cases kq with
  | zero => exact absurd HA.out (by simp [formelaw38_ContractCourses.j0])
  | succ kj3 =>
   have H := HA.out
   clear HA
   simp only [formelaw38_ContractCourses.j0] at H
   by_cases c13 : x23_3 = true
   ·subst c13
    have H1 : (some t612) = some r := by rw [if_pos rfl] at H; exact H
    clear H
    have H := H1
    clear H1
    obtain rfl := Option.some.inj H
    go_wp2
    go_ret
    exact ⟨by first | rfl | (simp [errW_none, errW_some] <;> rfl) | (simp [*, errW_none, errW_some] <;> rfl), by repeat (first | (with_reducible first | exact HB.out | apply below_alloc | apply pw_below_drewN | apply below_drew1 | refine below_set ?_ GE611.out) | exact HB.out)⟩
   ·replace c13 := Bool.eq_false_iff.mpr c13
    subst c13
    have H1 : ((contract_Course.f a0_0 a0_1 l0_2 l1).bind fun bt614 => (if bt614.2.2.2.2.2.2 = 0 then (formelaw38_ContractCourses.j1 kj3 l1 t612 bt614.2.2.2.2.2.1 bt614.2.2.2.2.2.2 ((bt614.2.2.2.2.2.1.length : Int) != (l1.length : Int)) a0_0 a0_1 l0_2 bt614.1 bt614.2.1 bt614.2.2.1 bt614.2.2.2.1 bt614.2.2.2.2.1) else (formelaw38_ContractCourses.j1 kj3 l1 t612 bt614.2.2.2.2.2.1 bt614.2.2.2.2.2.2 true a0_0 a0_1 l0_2 bt614.1 bt614.2.1 bt614.2.2.1 bt614.2.2.2.1 bt614.2.2.2.2.1))) = some r := by rw [if_neg (show ¬ (false = true) by decide)] at H; exact H
    clear H
    have H := H1
    clear H1
    replace H := Option.bind_eq_some_iff.mp H
    obtain ⟨⟨t614, t615, t616, t617, t618, t619, t622⟩, A140, H⟩ := H
    replace H : (if t622 = 0 then (formelaw38_ContractCourses.j1 kj3 l1 t612 t619 t622 ((t619.length : Int) != (l1.length : Int)) a0_0 a0_1 l0_2 t614 t615 t616 t617 t618) else (formelaw38_ContractCourses.j1 kj3 l1 t612 t619 t622 true a0_0 a0_1 l0_2 t614 t615 t616 t617 t618)) = some r := H
    have A14 := Aside0.mk A140
    clear A140
    have HC15 := Aside0.mk H
    clear H
    have hcz16_0 : wc.cell? ⟨gb611, 0, none⟩ = some (.int .i64 a0_0) := (blk_cell BK611.out 0).trans rfl
    have hcz16_1 : wc.cell? ⟨gb611, 1, none⟩ = some (.int .i64 a0_1) := (blk_cell BK611.out 1).trans rfl
    have hcz16_2 : wc.cell? ⟨gb611, 2, none⟩ = some (.slice A0_2 l0_2.length c0_2) := (blk_cell BK611.out 2).trans rfl
    have hfz16_0 := blk_frozen BK611.out 0
    have hfz16_1 := blk_frozen BK611.out 1
    have hfz16_2 := blk_frozen BK611.out 2
    go_upto_region 5 with (first | ((with_reducible refine gate_callee (f := 65) rfl ?_); refine goesL_ (some 28) rfl rfl Try.func65 (by kernel_rfl) rfl #[.agg #[.int .i64 a0_0, .int .i64 a0_1, .slice A0_2 l0_2.length c0_2], .slice A1 l1.length c1] rfl (by (try simp only [List.map_toArray, List.map_cons, List.map_nil]); first | done | rfl | (simp only [List.length_drop, List.length_take]; rfl)) ?_; (with_reducible refine (contract_Course.calls a0_0 a0_1 _ _ l0_2 _ _ l1 t614 t615 t616 t617 t618 t619 t622 _ ?side1 ?side2 ?side3 ?side4 A14.out).mono ?_); (case side1 => repeat (first | exact (Kd.C_below HR0_2.out HB.out) | (with_reducible refine Kd.C_alloc ?_ _) | (with_reducible refine Kd.C_drewN ?_ _) | (with_reducible refine Kd.C_drew ?_))); (case side2 => exact HC0_2.out); (case side3 => repeat (first | exact (Kd.C_below HR1.out HB.out) | (with_reducible refine Kd.C_alloc ?_ _) | (with_reducible refine Kd.C_drewN ?_ _) | (with_reducible refine Kd.C_drew ?_))); (case side4 => exact HC1.out); rintro e w17 ⟨v620, rfl, ho0, hb⟩; refine ⟨_, rfl, ?_⟩; have n0_ := Aside0.mk (Kd.R_lower ho0 (below_size (by repeat (first | (with_reducible first | exact HB.out | apply below_alloc | apply pw_below_drewN | apply below_drew1 | refine below_set ?_ GE611.out) | exact HB.out)))); have n1_ := Aside0.mk (blk_below (g := gb611) (o := .cells #[.int .i64 a0_0, .int .i64 a0_1, .slice A0_2 l0_2.length c0_2] 69 (0, 0)) (by (with_reducible repeat (first | refine blk_drewN ?_ _ | refine blk_drew ?_ | refine blk_alloc ?_ _)); exact BK611.out) hb); have n2_ := Aside0.mk (below_step (by repeat (first | (with_reducible first | exact HB.out | apply below_alloc | apply pw_below_drewN | apply below_drew1 | refine below_set ?_ GE611.out) | exact HB.out)) hb); clear BK611; clear HB; have HO621 := n0_; have BK611 := n1_; have HB := n2_; clear n0_ n1_ n2_; (try clear hb); (try clear hb2); (try clear hk); (try clear hi); (try clear ho0)) | ((with_reducible refine gate_dst (N := 6) rfl ?_); (try (refine gate_guard (by rfl) ?_; dsimp only)); refine box_event ?hg (N := 6) ?hd (cs := #[.int .i64 0, .int .i64 0, .int .i64 0, .int .i64 0, .bool false]) (t := 71) ?hr ?_; (case hd => rfl); (case hg => rfl); (case hr => first | (go_simp; done) | (go_simp; rfl)); intro gb623 hg w18 hbox hb; have n0_ := Aside0.mk (Kd.R_below (by (with_reducible repeat (first | apply Kd.R_alloc | apply Kd.R_drewN | apply Kd.R_drew)); exact HO621.out) hb); have n1_ := Aside0.mk (blk_below (g := gb611) (o := .cells #[.int .i64 a0_0, .int .i64 a0_1, .slice A0_2 l0_2.length c0_2] 69 (0, 0)) (by (with_reducible repeat (first | refine blk_drewN ?_ _ | refine blk_drew ?_ | refine blk_alloc ?_ _)); exact BK611.out) hb); have n2_ := Aside0.mk (below_step (by repeat (first | (with_reducible first | exact HB.out | apply below_alloc | apply pw_below_drewN | apply below_drew1 | refine below_set ?_ GE611.out) | exact HB.out)) hb); have n3_ := Aside0.mk (hbox); have n4_ := Aside0.mk ((by rw [hg]; exact (below_size (by repeat (first | (with_reducible first | exact HB.out | apply below_alloc | apply pw_below_drewN | apply below_drew1 | refine below_set ?_ GE611.out) | exact HB.out))) : w.heap.size ≤ gb623)); have n5_ := Aside0.mk ((by rw [hg]; exact (below_size (by repeat (first | (with_reducible first | exact HB.out | apply below_alloc | apply pw_below_drewN | apply below_drew1 | refine below_set ?_ GE611.out) | exact HB.out))) : w.heap.size ≤ gb623)); have n6_ := Aside0.mk ((by rw [hg]; exact Nat.ne_of_lt (blk_lt (g := gb611) (o := .cells #[.int .i64 a0_0, .int .i64 a0_1, .slice A0_2 l0_2.length c0_2] 69 (0, 0)) (by (with_reducible repeat (first | refine blk_drewN ?_ _ | refine blk_drew ?_ | refine blk_alloc ?_ _)); exact BK611.out)) : gb611 ≠ gb623)); have n7_ := Aside0.mk ((by rw [hg]; exact Nat.ne_of_gt (blk_lt (g := gb611) (o := .cells #[.int .i64 a0_0, .int .i64 a0_1, .slice A0_2 l0_2.length c0_2] 69 (0, 0)) (by (with_reducible repeat (first | refine blk_drewN ?_ _ | refine blk_drew ?_ | refine blk_alloc ?_ _)); exact BK611.out)) : gb623 ≠ gb611)); clear HO621; clear BK611; clear HB; have HO621 := n0_; have BK611 := n1_; have HB := n2_; have BK623 := n3_; have GW623 := n4_; have GE623 := n5_; have NB611_623 := n6_; have NB623_611 := n7_; clear n0_ n1_ n2_ n3_ n4_ n5_ n6_ n7_; clear hb hbox hg; have hnb19 := NB623_611.out; have hnc19 := NB611_623.out; have hcz20_0 : w18.cell? ⟨gb623, 0, none⟩ = some (.int .i64 0) := (blk_cell BK623.out 0).trans rfl; have hcz20_1 : w18.cell? ⟨gb623, 1, none⟩ = some (.int .i64 0) := (blk_cell BK623.out 1).trans rfl; have hcz20_2 : w18.cell? ⟨gb623, 2, none⟩ = some (.int .i64 0) := (blk_cell BK623.out 2).trans rfl; have hcz20_3 : w18.cell? ⟨gb623, 3, none⟩ = some (.int .i64 0) := (blk_cell BK623.out 3).trans rfl; have hcz20_4 : w18.cell? ⟨gb623, 4, none⟩ = some (.bool false) := (blk_cell BK623.out 4).trans rfl; have hfz20_0 := blk_frozen BK623.out 0; have hfz20_1 := blk_frozen BK623.out 1; have hfz20_2 := blk_frozen BK623.out 2; have hfz20_3 := blk_frozen BK623.out 3; have hfz20_4 := blk_frozen BK623.out 4))
    (try simp only [Act.put, List.setIfInBounds_toArray, List.set_cons_zero, List.set_cons_succ])
    go_cut [40] (fun v40 wc => ∃ (kq : Nat) (x40_14 : Bool), v40 = .bool x40_14 ∧ Aside0 (formelaw38_ContractCourses.j1 kq l1 t612 t619 t622 x40_14 a0_0 a0_1 l0_2 t614 t615 t616 t617 t618 = some r) ∧ Aside0 (kq ≤ kj3) ∧ Aside0 (Kd.R (Kd.int .i64) 3 wc w.heap.size (fun _ => True) v620 t619) ∧ Aside0 (wc.heap[gb611]? = some (.cells #[.int .i64 a0_0, .int .i64 a0_1, (.slice A0_2 l0_2.length c0_2)] 69 (0, 0))) ∧ Aside0 (wc.heap[gb623]? = some (.cells #[.int .i64 t614, .int .i64 t615, .int .i64 t616, .int .i64 t617, .bool t618] 71 (0, 0))) ∧ Aside0 (Below w.heap.size w wc))
    case first =>
     have H := HC15.out
     clear HC15
     by_cases c21 : t622 = 0
     ·rw [if_pos c21] at H
      have c21b0 : (t622 == 0) = true := beq_iff_eq.mpr c21
      have c21b1 : (t622 != 0) = false := bne_eq_false_iff_eq.mpr c21
      clear c21
      (first | rw [c21b0] | (simp only [i64_w, i32_w]; rw [c21b0]) | skip)
      have H' := Aside0.mk H
      clear H
      obtain ⟨Ao22, co22, eo22⟩ := Kd.R_slice HO621.out
      subst eo22
      go_wp2
      go_meet
      case rel => exact ⟨_, (((t619.length : Int) != (l1.length : Int))), (by first | rfl | (simp; done) | (simp [*]; done)), H', ⟨by have := HJ3.out; first | omega | exact Nat.le_refl _⟩, ⟨by (with_reducible repeat (first | apply Kd.R_alloc | apply Kd.R_drewN | apply Kd.R_drew)); exact Kd.R_mono (Kd.R_far (p := ⟨gb623, 4, none⟩) (Kd.R_far (p := ⟨gb623, 3, none⟩) (Kd.R_far (p := ⟨gb623, 2, none⟩) (Kd.R_far (p := ⟨gb623, 1, none⟩) (Kd.R_far (p := ⟨gb623, 0, none⟩) (Kd.R_types HO621.out BK623.out (by decide)) (fun _ hk => hk.2) (.int .i64 t614)) (fun _ hk => hk.2) (.int .i64 t615)) (fun _ hk => hk.2) (.int .i64 t616)) (fun _ hk => hk.2) (.int .i64 t617)) (fun _ hk => hk.2) (.bool t618)) (fun _ hk => trivial)⟩, ⟨by (with_reducible repeat (first | refine blk_drewN ?_ _ | refine blk_drew ?_ | refine blk_alloc ?_ _)); refine blk_far ?_ NB611_623.out _; (with_reducible repeat (first | refine blk_drewN ?_ _ | refine blk_drew ?_ | refine blk_alloc ?_ _)); refine blk_far ?_ NB611_623.out _; (with_reducible repeat (first | refine blk_drewN ?_ _ | refine blk_drew ?_ | refine blk_alloc ?_ _)); refine blk_far ?_ NB611_623.out _; (with_reducible repeat (first | refine blk_drewN ?_ _ | refine blk_drew ?_ | refine blk_alloc ?_ _)); refine blk_far ?_ NB611_623.out _; (with_reducible repeat (first | refine blk_drewN ?_ _ | refine blk_drew ?_ | refine blk_alloc ?_ _)); refine blk_far ?_ NB611_623.out _; (with_reducible repeat (first | refine blk_drewN ?_ _ | refine blk_drew ?_ | refine blk_alloc ?_ _)); exact BK611.out⟩, ⟨by (with_reducible repeat (first | refine blk_drewN ?_ _ | refine blk_drew ?_ | refine blk_alloc ?_ _)); refine blk_put (cs := #[.int .i64 t614, .int .i64 t615, .int .i64 t616, .int .i64 t617, .bool false]) ?_ 4 _ rfl; (with_reducible repeat (first | refine blk_drewN ?_ _ | refine blk_drew ?_ | refine blk_alloc ?_ _)); refine blk_put (cs := #[.int .i64 t614, .int .i64 t615, .int .i64 t616, .int .i64 0, .bool false]) ?_ 3 _ rfl; (with_reducible repeat (first | refine blk_drewN ?_ _ | refine blk_drew ?_ | refine blk_alloc ?_ _)); refine blk_put (cs := #[.int .i64 t614, .int .i64 t615, .int .i64 0, .int .i64 0, .bool false]) ?_ 2 _ rfl; (with_reducible repeat (first | refine blk_drewN ?_ _ | refine blk_drew ?_ | refine blk_alloc ?_ _)); refine blk_put (cs := #[.int .i64 t614, .int .i64 0, .int .i64 0, .int .i64 0, .bool false]) ?_ 1 _ rfl; (with_reducible repeat (first | refine blk_drewN ?_ _ | refine blk_drew ?_ | refine blk_alloc ?_ _)); refine blk_put (cs := #[.int .i64 0, .int .i64 0, .int .i64 0, .int .i64 0, .bool false]) ?_ 0 _ rfl; (with_reducible repeat (first | refine blk_drewN ?_ _ | refine blk_drew ?_ | refine blk_alloc ?_ _)); exact BK623.out⟩, ⟨by repeat (first | (with_reducible first | exact HB.out | apply below_alloc | apply pw_below_drewN | apply below_drew1 | refine below_set ?_ GE611.out | refine below_set ?_ GE623.out) | exact HB.out)⟩⟩
     ·rw [if_neg c21] at H
      have c21b0 : (t622 == 0) = false := beq_eq_false_iff_ne.mpr c21
      have c21b1 : (t622 != 0) = true := bne_iff_ne.mpr c21
      (first | rw [c21b0] | (simp only [i64_w, i32_w]; rw [c21b0]) | skip)
      have H' := Aside0.mk H
      clear H
      go_wp2
      go_meet
      case rel => exact ⟨_, (true), (by first | rfl | (simp; done) | (simp [*]; done)), H', ⟨by have := HJ3.out; first | omega | exact Nat.le_refl _⟩, ⟨by (with_reducible repeat (first | apply Kd.R_alloc | apply Kd.R_drewN | apply Kd.R_drew)); exact Kd.R_mono (Kd.R_far (p := ⟨gb623, 4, none⟩) (Kd.R_far (p := ⟨gb623, 3, none⟩) (Kd.R_far (p := ⟨gb623, 2, none⟩) (Kd.R_far (p := ⟨gb623, 1, none⟩) (Kd.R_far (p := ⟨gb623, 0, none⟩) (Kd.R_types HO621.out BK623.out (by decide)) (fun _ hk => hk.2) (.int .i64 t614)) (fun _ hk => hk.2) (.int .i64 t615)) (fun _ hk => hk.2) (.int .i64 t616)) (fun _ hk => hk.2) (.int .i64 t617)) (fun _ hk => hk.2) (.bool t618)) (fun _ hk => trivial)⟩, ⟨by (with_reducible repeat (first | refine blk_drewN ?_ _ | refine blk_drew ?_ | refine blk_alloc ?_ _)); refine blk_far ?_ NB611_623.out _; (with_reducible repeat (first | refine blk_drewN ?_ _ | refine blk_drew ?_ | refine blk_alloc ?_ _)); refine blk_far ?_ NB611_623.out _; (with_reducible repeat (first | refine blk_drewN ?_ _ | refine blk_drew ?_ | refine blk_alloc ?_ _)); refine blk_far ?_ NB611_623.out _; (with_reducible repeat (first | refine blk_drewN ?_ _ | refine blk_drew ?_ | refine blk_alloc ?_ _)); refine blk_far ?_ NB611_623.out _; (with_reducible repeat (first | refine blk_drewN ?_ _ | refine blk_drew ?_ | refine blk_alloc ?_ _)); refine blk_far ?_ NB611_623.out _; (with_reducible repeat (first | refine blk_drewN ?_ _ | refine blk_drew ?_ | refine blk_alloc ?_ _)); exact BK611.out⟩, ⟨by (with_reducible repeat (first | refine blk_drewN ?_ _ | refine blk_drew ?_ | refine blk_alloc ?_ _)); refine blk_put (cs := #[.int .i64 t614, .int .i64 t615, .int .i64 t616, .int .i64 t617, .bool false]) ?_ 4 _ rfl; (with_reducible repeat (first | refine blk_drewN ?_ _ | refine blk_drew ?_ | refine blk_alloc ?_ _)); refine blk_put (cs := #[.int .i64 t614, .int .i64 t615, .int .i64 t616, .int .i64 0, .bool false]) ?_ 3 _ rfl; (with_reducible repeat (first | refine blk_drewN ?_ _ | refine blk_drew ?_ | refine blk_alloc ?_ _)); refine blk_put (cs := #[.int .i64 t614, .int .i64 t615, .int .i64 0, .int .i64 0, .bool false]) ?_ 2 _ rfl; (with_reducible repeat (first | refine blk_drewN ?_ _ | refine blk_drew ?_ | refine blk_alloc ?_ _)); refine blk_put (cs := #[.int .i64 t614, .int .i64 0, .int .i64 0, .int .i64 0, .bool false]) ?_ 1 _ rfl; (with_reducible repeat (first | refine blk_drewN ?_ _ | refine blk_drew ?_ | refine blk_alloc ?_ _)); refine blk_put (cs := #[.int .i64 0, .int .i64 0, .int .i64 0, .int .i64 0, .bool false]) ?_ 0 _ rfl; (with_reducible repeat (first | refine blk_drewN ?_ _ | refine blk_drew ?_ | refine blk_alloc ?_ _)); exact BK623.out⟩, ⟨by repeat (first | (with_reducible first | exact HB.out | apply below_alloc | apply pw_below_drewN | apply below_drew1 | refine below_set ?_ GE611.out | refine below_set ?_ GE623.out) | exact HB.out)⟩⟩
    case rest =>
     clear HC15
     try clear c1
     try clear c2
     try clear p2
     try clear c5
     try clear c6
     try clear c8
     try clear c13
     try clear c19
     try clear c21
     try clear c21b0
     try clear c21b1
     try clear c22
     try clear hcz11_0
     try clear hcz11_1
     try clear hcz11_2
     try clear hcz16_0
     try clear hcz16_1
     try clear hcz16_2
     try clear hcz20_0
     try clear hcz20_1
     try clear hcz20_2
     try clear hcz20_3
     try clear hcz20_4
     try clear hcz9_0
     try clear hcz9_1
     try clear hcz9_2
     try clear hfz11_0
     try clear hfz11_1
     try clear hfz11_2
     try clear hfz16_0
     try clear hfz16_1
     try clear hfz16_2
     try clear hfz20_0
     try clear hfz20_1
     try clear hfz20_2
     try clear hfz20_3
     try clear hfz20_4
     try clear hfz9_0
     try clear hfz9_1
     try clear hfz9_2
     try clear p2
     obtain ⟨kq, x40_14, rfl, HA, HJ14, HO_7, BK611, BK623, HB⟩ := hcut
     cases kq with
     | zero => exact absurd HA.out (by simp [formelaw38_ContractCourses.j1])
     | succ kj14 =>
      have H := HA.out
      clear HA
      simp only [formelaw38_ContractCourses.j1] at H
      by_cases c23 : x40_14 = true
      ·subst c23
       have H1 : (if t612 = true then (some (t622 != 0)) else (some false)) = some r := by rw [if_pos rfl] at H; exact H
       clear H
       have H := H1
       clear H1
       by_cases c24 : t612 = true
       ·subst c24
        have H1 : (some (t622 != 0)) = some r := by rw [if_pos rfl] at H; exact H
        clear H
        have H := H1
        clear H1
        obtain rfl := Option.some.inj H
        go_wp2
        go_ret
        exact ⟨by first | rfl | (simp [errW_none, errW_some] <;> rfl) | (simp [*, errW_none, errW_some] <;> rfl), by repeat (first | (with_reducible first | exact HB.out | apply below_alloc | apply pw_below_drewN | apply below_drew1 | refine below_set ?_ GE611.out | refine below_set ?_ GE623.out) | exact HB.out)⟩
       ·replace c24 := Bool.eq_false_iff.mpr c24
        subst c24
        have H1 : (some false) = some r := by rw [if_neg (show ¬ (false = true) by decide)] at H; exact H
        clear H
        have H := H1
        clear H1
        exact absurd ((Option.some.inj H).trans HTr.out) (by decide)
      ·replace c23 := Bool.eq_false_iff.mpr c23
       subst c23
       have H1 : (formelaw38_ContractCourses.l0 kj14 l1 t612 t619 0 a0_0 a0_1 l0_2 t614 t615 t616 t617 t618 a0_0 0 0 0 false) = some r := by rw [if_neg (show ¬ (false = true) by decide)] at H; exact H
       clear H
       have H := H1
       clear H1
       have H' := Aside0.mk H
       clear H
       have hnb25 := NB611_623.out
       have hnc25 := NB623_611.out
       have hcz26_0 : wc.cell? ⟨gb611, 0, none⟩ = some (.int .i64 a0_0) := (blk_cell BK611.out 0).trans rfl
       have hcz26_1 : wc.cell? ⟨gb611, 1, none⟩ = some (.int .i64 a0_1) := (blk_cell BK611.out 1).trans rfl
       have hcz26_2 : wc.cell? ⟨gb611, 2, none⟩ = some (.slice A0_2 l0_2.length c0_2) := (blk_cell BK611.out 2).trans rfl
       have hfz26_0 := blk_frozen BK611.out 0
       have hfz26_1 := blk_frozen BK611.out 1
       have hfz26_2 := blk_frozen BK611.out 2
       go_wp2_with (first | ((with_reducible refine gate_dst (N := 9) rfl ?_); (try (refine gate_guard (by rfl) ?_; dsimp only)); refine box_event ?hg (N := 9) ?hd (cs := #[.int .i64 0, .int .i64 0, .int .i64 0, .int .i64 0, .bool false]) (t := 71) ?hr ?_; (case hd => rfl); (case hg => rfl); (case hr => first | (go_simp; done) | (go_simp; rfl)); intro gb624 hg w27 hbox hb; have n0_ := Aside0.mk (Kd.R_below (by (with_reducible repeat (first | apply Kd.R_alloc | apply Kd.R_drewN | apply Kd.R_drew)); exact HO_7.out) hb); have n1_ := Aside0.mk (blk_below (g := gb611) (o := .cells #[.int .i64 a0_0, .int .i64 a0_1, .slice A0_2 l0_2.length c0_2] 69 (0, 0)) (by (with_reducible repeat (first | refine blk_drewN ?_ _ | refine blk_drew ?_ | refine blk_alloc ?_ _)); exact BK611.out) hb); have n2_ := Aside0.mk (blk_below (g := gb623) (o := .cells #[.int .i64 t614, .int .i64 t615, .int .i64 t616, .int .i64 t617, .bool t618] 71 (0, 0)) (by (with_reducible repeat (first | refine blk_drewN ?_ _ | refine blk_drew ?_ | refine blk_alloc ?_ _)); exact BK623.out) hb); have n3_ := Aside0.mk (below_step (by repeat (first | (with_reducible first | exact HB.out | apply below_alloc | apply pw_below_drewN | apply below_drew1 | refine below_set ?_ GE611.out | refine below_set ?_ GE623.out) | exact HB.out)) hb); have n4_ := Aside0.mk (hbox); have n5_ := Aside0.mk ((by rw [hg]; exact (below_size (by repeat (first | (with_reducible first | exact HB.out | apply below_alloc | apply pw_below_drewN | apply below_drew1 | refine below_set ?_ GE611.out | refine below_set ?_ GE623.out) | exact HB.out))) : w.heap.size ≤ gb624)); have n6_ := Aside0.mk ((by rw [hg]; exact (below_size (by repeat (first | (with_reducible first | exact HB.out | apply below_alloc | apply pw_below_drewN | apply below_drew1 | refine below_set ?_ GE611.out | refine below_set ?_ GE623.out) | exact HB.out))) : w.heap.size ≤ gb624)); have n7_ := Aside0.mk ((by rw [hg]; exact Nat.ne_of_lt (blk_lt (g := gb611) (o := .cells #[.int .i64 a0_0, .int .i64 a0_1, .slice A0_2 l0_2.length c0_2] 69 (0, 0)) (by (with_reducible repeat (first | refine blk_drewN ?_ _ | refine blk_drew ?_ | refine blk_alloc ?_ _)); exact BK611.out)) : gb611 ≠ gb624)); have n8_ := Aside0.mk ((by rw [hg]; exact Nat.ne_of_gt (blk_lt (g := gb611) (o := .cells #[.int .i64 a0_0, .int .i64 a0_1, .slice A0_2 l0_2.length c0_2] 69 (0, 0)) (by (with_reducible repeat (first | refine blk_drewN ?_ _ | refine blk_drew ?_ | refine blk_alloc ?_ _)); exact BK611.out)) : gb624 ≠ gb611)); have n9_ := Aside0.mk ((by rw [hg]; exact Nat.ne_of_lt (blk_lt (g := gb623) (o := .cells #[.int .i64 t614, .int .i64 t615, .int .i64 t616, .int .i64 t617, .bool t618] 71 (0, 0)) (by (with_reducible repeat (first | refine blk_drewN ?_ _ | refine blk_drew ?_ | refine blk_alloc ?_ _)); exact BK623.out)) : gb623 ≠ gb624)); have n10_ := Aside0.mk ((by rw [hg]; exact Nat.ne_of_gt (blk_lt (g := gb623) (o := .cells #[.int .i64 t614, .int .i64 t615, .int .i64 t616, .int .i64 t617, .bool t618] 71 (0, 0)) (by (with_reducible repeat (first | refine blk_drewN ?_ _ | refine blk_drew ?_ | refine blk_alloc ?_ _)); exact BK623.out)) : gb624 ≠ gb623)); clear HO_7; clear BK611; clear BK623; clear HB; have HO_7 := n0_; have BK611 := n1_; have BK623 := n2_; have HB := n3_; have BK624 := n4_; have GW624 := n5_; have GE624 := n6_; have NB611_624 := n7_; have NB624_611 := n8_; have NB623_624 := n9_; have NB624_623 := n10_; clear n0_ n1_ n2_ n3_ n4_ n5_ n6_ n7_ n8_ n9_ n10_; clear hb hbox hg; have hnb28 := NB624_611.out; have hnc28 := NB611_624.out; have hnb29 := NB624_623.out; have hnc29 := NB623_624.out; have hcz30_0 : w27.cell? ⟨gb624, 0, none⟩ = some (.int .i64 0) := (blk_cell BK624.out 0).trans rfl; have hcz30_1 : w27.cell? ⟨gb624, 1, none⟩ = some (.int .i64 0) := (blk_cell BK624.out 1).trans rfl; have hcz30_2 : w27.cell? ⟨gb624, 2, none⟩ = some (.int .i64 0) := (blk_cell BK624.out 2).trans rfl; have hcz30_3 : w27.cell? ⟨gb624, 3, none⟩ = some (.int .i64 0) := (blk_cell BK624.out 3).trans rfl; have hcz30_4 : w27.cell? ⟨gb624, 4, none⟩ = some (.bool false) := (blk_cell BK624.out 4).trans rfl; have hfz30_0 := blk_frozen BK624.out 0; have hfz30_1 := blk_frozen BK624.out 1; have hfz30_2 := blk_frozen BK624.out 2; have hfz30_3 := blk_frozen BK624.out 3; have hfz30_4 := blk_frozen BK624.out 4))
       go_loopg [10] kj14 (fun kq v10 w' => ∃ (x10_3 : Int) (x625000_3 : Int) (x625001_3 : Int) (x625002_3 : Int) (x625003_3 : Int) (x625004_3 : Bool), v10 = .int .i64 x10_3 ∧ Aside0 (formelaw38_ContractCourses.l0 kq l1 t612 t619 x10_3 a0_0 a0_1 l0_2 t614 t615 t616 t617 t618 x625000_3 x625001_3 x625002_3 x625003_3 x625004_3 = some r) ∧ Aside0 (kq ≤ kj14) ∧ Aside0 (Kd.R (Kd.int .i64) 3 w' w.heap.size (fun _ => True) v620 t619) ∧ Aside0 (w'.heap[gb611]? = some (.cells #[.int .i64 a0_0, .int .i64 a0_1, (.slice A0_2 l0_2.length c0_2)] 69 (0, 0))) ∧ Aside0 (w'.heap[gb623]? = some (.cells #[.int .i64 t614, .int .i64 t615, .int .i64 t616, .int .i64 t617, .bool t618] 71 (0, 0))) ∧ Aside0 (w'.heap[gb624]? = some (.cells #[.int .i64 x625000_3, .int .i64 x625001_3, .int .i64 x625002_3, .int .i64 x625003_3, .bool x625004_3] 71 (0, 0))) ∧ Aside0 (Below w.heap.size w w'))
       case atStart => exact ⟨(0), (a0_0), (0), (0), (0), (false), (by first | rfl | (simp; done) | (simp [*]; done)), H', ⟨Nat.le_refl _⟩, ⟨by (with_reducible repeat (first | apply Kd.R_alloc | apply Kd.R_drewN | apply Kd.R_drew)); exact Kd.R_mono (Kd.R_far (p := ⟨gb624, 4, none⟩) (Kd.R_far (p := ⟨gb624, 3, none⟩) (Kd.R_far (p := ⟨gb624, 2, none⟩) (Kd.R_far (p := ⟨gb624, 1, none⟩) (Kd.R_far (p := ⟨gb624, 0, none⟩) (Kd.R_types HO_7.out BK624.out (by decide)) (fun _ hk => hk.2) (.int .i64 a0_0)) (fun _ hk => hk.2) (.int .i64 0)) (fun _ hk => hk.2) (.int .i64 0)) (fun _ hk => hk.2) (.int .i64 0)) (fun _ hk => hk.2) (.bool false)) (fun _ hk => trivial)⟩, ⟨by (with_reducible repeat (first | refine blk_drewN ?_ _ | refine blk_drew ?_ | refine blk_alloc ?_ _)); refine blk_far ?_ NB611_624.out _; (with_reducible repeat (first | refine blk_drewN ?_ _ | refine blk_drew ?_ | refine blk_alloc ?_ _)); refine blk_far ?_ NB611_624.out _; (with_reducible repeat (first | refine blk_drewN ?_ _ | refine blk_drew ?_ | refine blk_alloc ?_ _)); refine blk_far ?_ NB611_624.out _; (with_reducible repeat (first | refine blk_drewN ?_ _ | refine blk_drew ?_ | refine blk_alloc ?_ _)); refine blk_far ?_ NB611_624.out _; (with_reducible repeat (first | refine blk_drewN ?_ _ | refine blk_drew ?_ | refine blk_alloc ?_ _)); refine blk_far ?_ NB611_624.out _; (with_reducible repeat (first | refine blk_drewN ?_ _ | refine blk_drew ?_ | refine blk_alloc ?_ _)); exact BK611.out⟩, ⟨by (with_reducible repeat (first | refine blk_drewN ?_ _ | refine blk_drew ?_ | refine blk_alloc ?_ _)); refine blk_far ?_ NB623_624.out _; (with_reducible repeat (first | refine blk_drewN ?_ _ | refine blk_drew ?_ | refine blk_alloc ?_ _)); refine blk_far ?_ NB623_624.out _; (with_reducible repeat (first | refine blk_drewN ?_ _ | refine blk_drew ?_ | refine blk_alloc ?_ _)); refine blk_far ?_ NB623_624.out _; (with_reducible repeat (first | refine blk_drewN ?_ _ | refine blk_drew ?_ | refine blk_alloc ?_ _)); refine blk_far ?_ NB623_624.out _; (with_reducible repeat (first | refine blk_drewN ?_ _ | refine blk_drew ?_ | refine blk_alloc ?_ _)); refine blk_far ?_ NB623_624.out _; (with_reducible repeat (first | refine blk_drewN ?_ _ | refine blk_drew ?_ | refine blk_alloc ?_ _)); exact BK623.out⟩, ⟨by (with_reducible repeat (first | refine blk_drewN ?_ _ | refine blk_drew ?_ | refine blk_alloc ?_ _)); refine blk_put (cs := #[.int .i64 a0_0, .int .i64 0, .int .i64 0, .int .i64 0, .bool false]) ?_ 4 _ rfl; (with_reducible repeat (first | refine blk_drewN ?_ _ | refine blk_drew ?_ | refine blk_alloc ?_ _)); refine blk_put (cs := #[.int .i64 a0_0, .int .i64 0, .int .i64 0, .int .i64 0, .bool false]) ?_ 3 _ rfl; (with_reducible repeat (first | refine blk_drewN ?_ _ | refine blk_drew ?_ | refine blk_alloc ?_ _)); refine blk_put (cs := #[.int .i64 a0_0, .int .i64 0, .int .i64 0, .int .i64 0, .bool false]) ?_ 2 _ rfl; (with_reducible repeat (first | refine blk_drewN ?_ _ | refine blk_drew ?_ | refine blk_alloc ?_ _)); refine blk_put (cs := #[.int .i64 a0_0, .int .i64 0, .int .i64 0, .int .i64 0, .bool false]) ?_ 1 _ rfl; (with_reducible repeat (first | refine blk_drewN ?_ _ | refine blk_drew ?_ | refine blk_alloc ?_ _)); refine blk_put (cs := #[.int .i64 0, .int .i64 0, .int .i64 0, .int .i64 0, .bool false]) ?_ 0 _ rfl; (with_reducible repeat (first | refine blk_drewN ?_ _ | refine blk_drew ?_ | refine blk_alloc ?_ _)); exact BK624.out⟩, ⟨by repeat (first | (with_reducible first | exact HB.out | apply below_alloc | apply pw_below_drewN | apply below_drew1 | refine below_set ?_ GE611.out | refine below_set ?_ GE623.out | refine below_set ?_ GE624.out) | exact HB.out)⟩⟩
       case round =>
        clear H'
        try clear c1
        try clear c2
        try clear p2
        try clear c5
        try clear c6
        try clear c8
        try clear c13
        try clear c19
        try clear c21
        try clear c21b0
        try clear c21b1
        try clear c22
        try clear c23
        try clear c24
        try clear c25
        try clear c28
        try clear c29
        try clear hcz11_0
        try clear hcz11_1
        try clear hcz11_2
        try clear hcz16_0
        try clear hcz16_1
        try clear hcz16_2
        try clear hcz20_0
        try clear hcz20_1
        try clear hcz20_2
        try clear hcz20_3
        try clear hcz20_4
        try clear hcz26_0
        try clear hcz26_1
        try clear hcz26_2
        try clear hcz30_0
        try clear hcz30_1
        try clear hcz30_2
        try clear hcz30_3
        try clear hcz30_4
        try clear hcz9_0
        try clear hcz9_1
        try clear hcz9_2
        try clear hfz11_0
        try clear hfz11_1
        try clear hfz11_2
        try clear hfz16_0
        try clear hfz16_1
        try clear hfz16_2
        try clear hfz20_0
        try clear hfz20_1
        try clear hfz20_2
        try clear hfz20_3
        try clear hfz20_4
        try clear hfz26_0
        try clear hfz26_1
        try clear hfz26_2
        try clear hfz30_0
        try clear hfz30_1
        try clear hfz30_2
        try clear hfz30_3
        try clear hfz30_4
        try clear hfz9_0
        try clear hfz9_1
        try clear hfz9_2
        try clear p2
        obtain ⟨x10_3, x625000_3, x625001_3, x625002_3, x625003_3, x625004_3, rfl, HA, HK3, HO_7, BK611, BK623, BK624, HB⟩ := hrel
        cases gk with
        | zero => exact absurd HA.out (by simp [formelaw38_ContractCourses.l0])
        | succ k3 =>
         have H := HA.out
         clear HA
         simp only [formelaw38_ContractCourses.l0] at H
         by_cases c31 : x10_3 < (l1.length : Int)
         ·rw [if_pos c31] at H
          have c31b0 : decide (x10_3 < (l1.length : Int)) = true := decide_eq_true c31
          clear c31
          by_cases c32 : 0 ≤ x10_3
          ·rw [if_pos c32] at H
           have c32b0 : decide (0 ≤ x10_3) = true := decide_eq_true c32
           clear c32
           replace H := Option.bind_eq_some_iff.mp H
           obtain ⟨⟨t626, t627, t628, t629, t630, t631, t632, t633⟩, A330, H⟩ := H
           replace H : (if t633 = 0 then (if x10_3 < (t619.length : Int) then (if t631 = (rd t619 x10_3) then (formelaw38_ContractCourses.l0 k3 l1 t612 t619 (wrap64 (x10_3 + 1)) a0_0 a0_1 l0_2 t614 t615 t616 t617 t618 t626 t627 t628 t629 t630) else (some false)) else (none)) else (some false)) = some r := H
           have A33 := Aside0.mk A330
           clear A330
           by_cases c34 : t633 = 0
           ·rw [if_pos c34] at H
            have c34b0 : (t633 == 0) = true := beq_iff_eq.mpr c34
            have c34b1 : (t633 != 0) = false := bne_eq_false_iff_eq.mpr c34
            clear c34
            by_cases c35 : x10_3 < (t619.length : Int)
            ·rw [if_pos c35] at H
             have c35b0 : decide (x10_3 < (t619.length : Int)) = true := decide_eq_true c35
             clear c35
             by_cases c36 : t631 = (rd t619 x10_3)
             ·rw [if_pos c36] at H
              have c36b0 : (t631 == (rd t619 x10_3)) = true := beq_iff_eq.mpr c36
              have c36b1 : (t631 != (rd t619 x10_3)) = false := bne_eq_false_iff_eq.mpr c36
              clear c36
              have H' := Aside0.mk H
              clear H
              try go_wp2
              have n0_ := Aside0.mk (Kd.R_drew HO_7.out)
              have n1_ := Aside0.mk (blk_drew BK611.out)
              have n2_ := Aside0.mk (blk_drew BK623.out)
              have n3_ := Aside0.mk (blk_drew BK624.out)
              have n4_ := Aside0.mk (below_drew1 HB.out)
              clear HO_7
              clear BK611
              clear BK623
              clear BK624
              clear HB
              have HO_7 := n0_
              have BK611 := n1_
              have BK623 := n2_
              have BK624 := n3_
              have HB := n4_
              clear n0_ n1_ n2_ n3_ n4_
              have p625 : 0 ≤ (x10_3 : Int) := of_decide_eq_true (by first | (with_reducible assumption) | assumption)
              have q625 : x10_3 < (l1.length : Int) := of_decide_eq_true (by first | (with_reducible assumption) | assumption)
              obtain ⟨ad625, e625, hx625_0, hx625_1, hx625_2, hx625_3⟩ := at_T78 HR1.out x10_3 p625 q625
              have hw625_3 := hx625_3
              have hw625_2 := hx625_2
              have hw625_1 := hx625_1
              have hw625_0 := hx625_0
              cases e625
              replace hx625_0 := (HB.out.cell (World.block_lt_of_cell? w _ hx625_0)).trans hx625_0
              replace hx625_1 := (HB.out.cell (World.block_lt_of_cell? w _ hx625_1)).trans hx625_1
              replace hx625_2 := (HB.out.cell (World.block_lt_of_cell? w _ hx625_2)).trans hx625_2
              replace hx625_3 := (HB.out.cell (World.block_lt_of_cell? w _ hx625_3)).trans hx625_3
              replace p625 := eq_true p625
              replace q625 := eq_true q625
              refine start_ (n := 17) (S := fun w' => w'.cell? ⟨gb611, 0, none⟩ = some (.int .i64 a0_0) ∧ w'.cell? ⟨gb611, 1, none⟩ = some (.int .i64 a0_1) ∧ w'.cell? ⟨gb611, 2, none⟩ = some (.slice A0_2 l0_2.length c0_2) ∧ w'.cell? ⟨gb624, 0, none⟩ = some (.int .i64 x625000_3) ∧ w'.cell? ⟨gb624, 1, none⟩ = some (.int .i64 x625001_3) ∧ w'.cell? ⟨gb624, 2, none⟩ = some (.int .i64 x625002_3) ∧ w'.cell? ⟨gb624, 3, none⟩ = some (.int .i64 x625003_3) ∧ w'.cell? ⟨gb624, 4, none⟩ = some (.bool x625004_3) ∧ w'.cell? (ad625.add ((x10_3).toNat * 4)) = some (.int .i64 ((rd_T78 l1 x10_3).f0)) ∧ w'.cell? ⟨(ad625.add ((x10_3).toNat * 4)).block, (ad625.add ((x10_3).toNat * 4)).off + 1, none⟩ = some (.int .i64 ((rd_T78 l1 x10_3).f1)) ∧ w'.cell? ⟨(ad625.add ((x10_3).toNat * 4)).block, (ad625.add ((x10_3).toNat * 4)).off + 2, none⟩ = some (.int .i64 ((rd_T78 l1 x10_3).f2)) ∧ w'.cell? ⟨(ad625.add ((x10_3).toNat * 4)).block, (ad625.add ((x10_3).toNat * 4)).off + 3, none⟩ = some (.int .i64 ((rd_T78 l1 x10_3).f3))) (ds := []) #[false, false, false, false, false, false, false, false, false, false, false, false, false, false, false, false, false] (by kernel_rfl) rfl rfl ⟨(blk_cell BK611.out 0).trans rfl, (blk_cell BK611.out 1).trans rfl, (blk_cell BK611.out 2).trans rfl, (blk_cell BK624.out 0).trans rfl, (blk_cell BK624.out 1).trans rfl, (blk_cell BK624.out 2).trans rfl, (blk_cell BK624.out 3).trans rfl, (blk_cell BK624.out 4).trans rfl, ((HB.out.cell (World.block_lt_of_cell? w _ hw625_0)).trans hw625_0), ((HB.out.cell (World.block_lt_of_cell? w _ hw625_1)).trans hw625_1), ((HB.out.cell (World.block_lt_of_cell? w _ hw625_2)).trans hw625_2), ((HB.out.cell (World.block_lt_of_cell? w _ hw625_3)).trans hw625_3)⟩ (fun hHeld => ?_); refine with_tabW formelaw38_ContractCourses.tab11 formelaw38_ContractCourses.bits11 (fun HT_ HW_ => ?_)
              generalize wr.drew = w37 at HO_7 BK611 BK623 BK624 HB hx625_0 hx625_1 hx625_2 hx625_3 hHeld ⊢
              refine pure_ (i := 2) (N := some 58) (v := ?_) (a' := ?_) #[false, false, true, false, false, false, false, false, false, false, false, false, false, false, false, false, false] rfl rfl (any_of HT_.out (by kernel_rfl)) (fun _ _ _ h => h) (Or.inl ⟨by rfl, ?_⟩) ?_ ?_
              rotate_left
              ·intro w'
               go_simp
               with_reducible rfl
              rotate_left
              ·simp only [Act.put, List.setIfInBounds_toArray, List.set_cons_zero, List.set_cons_succ, i64_w, i32_w]
               rfl
              refine pure_ (i := 3) (N := some 59) (v := ?_) (a' := ?_) #[false, false, true, true, false, false, false, false, false, false, false, false, false, false, false, false, false] rfl rfl (any_of HT_.out (by kernel_rfl)) (fun _ _ _ h => h) (Or.inl ⟨by rfl, ?_⟩) ?_ ?_
              rotate_left
              ·intro w'
               go_simp
               with_reducible rfl
              rotate_left
              ·simp only [Act.put, List.setIfInBounds_toArray, List.set_cons_zero, List.set_cons_succ, i64_w, i32_w]
               rfl
              refine pure_ (i := 4) (N := some 60) (v := ?_) (a' := ?_) #[false, false, true, true, true, false, false, false, false, false, false, false, false, false, false, false, false] rfl rfl (any_of HT_.out (by kernel_rfl)) (fun _ _ _ h => h) (Or.inl ⟨by rfl, ?_⟩) ?_ ?_
              rotate_left
              ·intro w'
               go_simp
               with_reducible rfl
              rotate_left
              ·simp only [Act.put, List.setIfInBounds_toArray, List.set_cons_zero, List.set_cons_succ, i64_w, i32_w]
               rfl
              refine take_ (i := 0) (N := some 56) (v := ?_) (a' := ?_) #[true, false, true, true, true, false, false, false, false, false, false, false, false, false, false, false, false] rfl rfl (take_ofW HT_.out HW_.out (by kernel_rfl)) (fun _ _ _ h => h) (Or.inl ⟨by rfl, ?_⟩) hHeld ?_ ?_
              rotate_left
              ·rintro w' ⟨s0, s1, s2, s3, s4, s5, s6, s7, s8, s9, s10, s11⟩
               go_simp
               with_reducible rfl
              rotate_left
              ·simp only [Act.put, List.setIfInBounds_toArray, List.set_cons_zero, List.set_cons_succ, i64_w, i32_w]
               rfl
              refine take_ (i := 1) (N := some 57) (v := ?_) (a' := ?_) #[true, true, true, true, true, false, false, false, false, false, false, false, false, false, false, false, false] rfl rfl (take_ofW HT_.out HW_.out (by kernel_rfl)) (fun _ _ _ h => h) (Or.inl ⟨by rfl, ?_⟩) hHeld ?_ ?_
              rotate_left
              ·rintro w' ⟨s0, s1, s2, s3, s4, s5, s6, s7, s8, s9, s10, s11⟩
               go_simp
               with_reducible rfl
              rotate_left
              ·simp only [Act.put, List.setIfInBounds_toArray, List.set_cons_zero, List.set_cons_succ, i64_w, i32_w]
               rfl
              refine take_ (i := 5) (N := some 61) (v := ?_) (a' := ?_) #[true, true, true, true, true, true, false, false, false, false, false, false, false, false, false, false, false] rfl rfl (take_ofW HT_.out HW_.out (by kernel_rfl)) (fun _ _ _ h => h) (Or.inl ⟨by rfl, ?_⟩) hHeld ?_ ?_
              rotate_left
              ·rintro w' ⟨s0, s1, s2, s3, s4, s5, s6, s7, s8, s9, s10, s11⟩
               go_simp
               with_reducible rfl
              rotate_left
              ·simp only [Act.put, List.setIfInBounds_toArray, List.set_cons_zero, List.set_cons_succ, i64_w, i32_w]
               rfl
              refine join_ (σ := Nat) 4 #[true, true, true, true, true, true, true, true, true, true, true, true, true, false, false, false, false] (fun s_ => [(62, .tuple #[.agg #[.int .i64 t626, .int .i64 t627, .int .i64 t628, .int .i64 t629, .bool t630], .int .i64 t631, .bool t632, .int .i64 t633]), (11, .pointer (some ⟨s_, 0, none⟩)), (55, .tuple #[.agg #[.int .i64 t626, .int .i64 t627, .int .i64 t628, .int .i64 t629, .bool t630], .int .i64 t631, .bool t632, .int .i64 t633]), (63, .agg #[.int .i64 t626, .int .i64 t627, .int .i64 t628, .int .i64 t629, .bool t630]), (64, .int .i64 t631), (65, .bool t632), (66, .int .i64 t633)]) (fun s_ w' => (w'.cell? ⟨gb611, 0, none⟩ = some (.int .i64 a0_0) ∧ w'.cell? ⟨gb611, 1, none⟩ = some (.int .i64 a0_1) ∧ w'.cell? ⟨gb611, 2, none⟩ = some (.slice A0_2 l0_2.length c0_2) ∧ w'.cell? ⟨gb624, 0, none⟩ = some (.int .i64 x625000_3) ∧ w'.cell? ⟨gb624, 1, none⟩ = some (.int .i64 x625001_3) ∧ w'.cell? ⟨gb624, 2, none⟩ = some (.int .i64 x625002_3) ∧ w'.cell? ⟨gb624, 3, none⟩ = some (.int .i64 x625003_3) ∧ w'.cell? ⟨gb624, 4, none⟩ = some (.bool x625004_3) ∧ w'.cell? (ad625.add ((x10_3).toNat * 4)) = some (.int .i64 ((rd_T78 l1 x10_3).f0)) ∧ w'.cell? ⟨(ad625.add ((x10_3).toNat * 4)).block, (ad625.add ((x10_3).toNat * 4)).off + 1, none⟩ = some (.int .i64 ((rd_T78 l1 x10_3).f1)) ∧ w'.cell? ⟨(ad625.add ((x10_3).toNat * 4)).block, (ad625.add ((x10_3).toNat * 4)).off + 2, none⟩ = some (.int .i64 ((rd_T78 l1 x10_3).f2)) ∧ w'.cell? ⟨(ad625.add ((x10_3).toNat * 4)).block, (ad625.add ((x10_3).toNat * 4)).off + 3, none⟩ = some (.int .i64 ((rd_T78 l1 x10_3).f3))) ∧ (Kd.R (Kd.int .i64) 3 w' w.heap.size (fun _ => True) v620 t619) ∧ (w'.heap[gb611]? = some (.cells #[.int .i64 a0_0, .int .i64 a0_1, .slice A0_2 l0_2.length c0_2] 69 (0, 0))) ∧ (w'.heap[gb623]? = some (.cells #[.int .i64 t614, .int .i64 t615, .int .i64 t616, .int .i64 t617, .bool t618] 71 (0, 0))) ∧ (w'.heap[gb624]? = some (.cells #[.int .i64 x625000_3, .int .i64 x625001_3, .int .i64 x625002_3, .int .i64 x625003_3, .bool x625004_3] 71 (0, 0))) ∧ (w'.heap[s_]? = some (.cells #[.int .i64 0, .int .i64 0, .int .i64 0, .int .i64 0, .bool false] 71 (0, 0))) ∧ (w.heap.size ≤ s_) ∧ (w.heap.size ≤ s_) ∧ (gb611 ≠ s_) ∧ (s_ ≠ gb611) ∧ (gb623 ≠ s_) ∧ (s_ ≠ gb623) ∧ (gb624 ≠ s_) ∧ (s_ ≠ gb624) ∧ (Below w.heap.size w w')) ?_ ?_
              rotate_left
              ·intro hCont
               refine two_ (i := 6) (j := 12) (Ni := some 62) (Nj := some 11) #[true, true, true, true, true, true, true, false, false, false, false, false, false, false, false, false, false] #[true, true, true, true, true, true, false, false, false, false, false, false, true, false, false, false, false] rfl rfl rfl rfl (two_of HT_.out (by kernel_rfl)) (by decide) (by decide) (fun K hK => ?_) (fun K hK => ?_)
               ·skip
                refine goes_ Try.func63 (by kernel_rfl) rfl #[.agg #[.int .i64 a0_0, .int .i64 a0_1, .slice A0_2 l0_2.length c0_2], .agg #[.int .i64 x625000_3, .int .i64 x625001_3, .int .i64 x625002_3, .int .i64 x625003_3, .bool x625004_3], .agg #[.int .i64 ((rd_T78 l1 x10_3).f0), .int .i64 ((rd_T78 l1 x10_3).f1), .int .i64 ((rd_T78 l1 x10_3).f2), .int .i64 ((rd_T78 l1 x10_3).f3)]] (by rfl) rfl rfl (by (try simp only [List.map_toArray, List.map_cons, List.map_nil]); first | done | rfl | (simp only [List.length_drop, List.length_take]; rfl)) ?_
                with_reducible refine (contract_Judge.calls a0_0 a0_1 _ _ l0_2 x625000_3 x625001_3 x625002_3 x625003_3 x625004_3 ((rd_T78 l1 x10_3).f0) ((rd_T78 l1 x10_3).f1) ((rd_T78 l1 x10_3).f2) ((rd_T78 l1 x10_3).f3) t626 t627 t628 t629 t630 t631 t632 t633 _ ?side1 ?side2 A33.out).mono ?_
                (case side1 => repeat (first | exact (Kd.C_below HR0_2.out HB.out) | (with_reducible refine Kd.C_alloc ?_ _) | (with_reducible refine Kd.C_drewN ?_ _) | (with_reducible refine Kd.C_drew ?_)))
                (case side2 => exact HC0_2.out)
                rintro e w38 ⟨rfl, hb⟩
                refine ⟨_, rfl, ?_⟩
                have n0_ := Aside0.mk (Kd.R_below (by (with_reducible repeat (first | apply Kd.R_alloc | apply Kd.R_drewN | apply Kd.R_drew)); exact HO_7.out) hb)
                have n1_ := Aside0.mk (blk_below (g := gb611) (o := .cells #[.int .i64 a0_0, .int .i64 a0_1, .slice A0_2 l0_2.length c0_2] 69 (0, 0)) (by (with_reducible repeat (first | refine blk_drewN ?_ _ | refine blk_drew ?_ | refine blk_alloc ?_ _)); exact BK611.out) hb)
                have n2_ := Aside0.mk (blk_below (g := gb623) (o := .cells #[.int .i64 t614, .int .i64 t615, .int .i64 t616, .int .i64 t617, .bool t618] 71 (0, 0)) (by (with_reducible repeat (first | refine blk_drewN ?_ _ | refine blk_drew ?_ | refine blk_alloc ?_ _)); exact BK623.out) hb)
                have n3_ := Aside0.mk (blk_below (g := gb624) (o := .cells #[.int .i64 x625000_3, .int .i64 x625001_3, .int .i64 x625002_3, .int .i64 x625003_3, .bool x625004_3] 71 (0, 0)) (by (with_reducible repeat (first | refine blk_drewN ?_ _ | refine blk_drew ?_ | refine blk_alloc ?_ _)); exact BK624.out) hb)
                have n4_ := Aside0.mk (below_step (by repeat (first | (with_reducible first | exact HB.out | apply below_alloc | apply pw_below_drewN | apply below_drew1 | refine below_set ?_ GE611.out | refine below_set ?_ GE623.out | refine below_set ?_ GE624.out) | exact HB.out)) hb)
                clear HO_7
                clear BK611
                clear BK623
                clear BK624
                clear HB
                have HO_7 := n0_
                have BK611 := n1_
                have BK623 := n2_
                have BK624 := n3_
                have HB := n4_
                clear n0_ n1_ n2_ n3_ n4_
                (try clear hb)
                (try clear hb2)
                (try clear hk)
                (try clear hi)
                refine hK.out _ _ ⟨(blk_cell BK611.out 0).trans rfl, (blk_cell BK611.out 1).trans rfl, (blk_cell BK611.out 2).trans rfl, (blk_cell BK624.out 0).trans rfl, (blk_cell BK624.out 1).trans rfl, (blk_cell BK624.out 2).trans rfl, (blk_cell BK624.out 3).trans rfl, (blk_cell BK624.out 4).trans rfl, ((HB.out.cell (World.block_lt_of_cell? w _ hw625_0)).trans hw625_0), ((HB.out.cell (World.block_lt_of_cell? w _ hw625_1)).trans hw625_1), ((HB.out.cell (World.block_lt_of_cell? w _ hw625_2)).trans hw625_2), ((HB.out.cell (World.block_lt_of_cell? w _ hw625_3)).trans hw625_3)⟩ (fun hHeld => ?_)
                clear hK K
                refine norm_ (a' := ?_) ?_ ?_
                rotate_left
                ·show Act.put _ (some 62) _ = _
                 simp only [Act.put, List.setIfInBounds_toArray, List.set_cons_zero, List.set_cons_succ, i64_w, i32_w]
                 rfl
                refine pure_ (i := 7) (N := some 55) (v := ?_) (a' := ?_) #[true, true, true, true, true, true, true, true, false, false, false, false, false, false, false, false, false] rfl rfl (any_of HT_.out (by kernel_rfl)) (fun _ _ _ h => h) (Or.inl ⟨by rfl, ?_⟩) ?_ ?_
                rotate_left
                ·intro w'
                 go_simp
                 with_reducible rfl
                rotate_left
                ·simp only [Act.put, List.setIfInBounds_toArray, List.set_cons_zero, List.set_cons_succ, i64_w, i32_w]
                 rfl
                refine pure_ (i := 8) (N := some 63) (v := ?_) (a' := ?_) #[true, true, true, true, true, true, true, true, true, false, false, false, false, false, false, false, false] rfl rfl (any_of HT_.out (by kernel_rfl)) (fun _ _ _ h => h) (Or.inl ⟨by rfl, ?_⟩) ?_ ?_
                rotate_left
                ·intro w'
                 go_simp
                 with_reducible rfl
                rotate_left
                ·simp only [Act.put, List.setIfInBounds_toArray, List.set_cons_zero, List.set_cons_succ, i64_w, i32_w]
                 rfl
                refine pure_ (i := 9) (N := some 64) (v := ?_) (a' := ?_) #[true, true, true, true, true, true, true, true, true, true, false, false, false, false, false, false, false] rfl rfl (any_of HT_.out (by kernel_rfl)) (fun _ _ _ h => h) (Or.inl ⟨by rfl, ?_⟩) ?_ ?_
                rotate_left
                ·intro w'
                 go_simp
                 with_reducible rfl
                rotate_left
                ·simp only [Act.put, List.setIfInBounds_toArray, List.set_cons_zero, List.set_cons_succ, i64_w, i32_w]
                 rfl
                refine pure_ (i := 10) (N := some 65) (v := ?_) (a' := ?_) #[true, true, true, true, true, true, true, true, true, true, true, false, false, false, false, false, false] rfl rfl (any_of HT_.out (by kernel_rfl)) (fun _ _ _ h => h) (Or.inl ⟨by rfl, ?_⟩) ?_ ?_
                rotate_left
                ·intro w'
                 go_simp
                 with_reducible rfl
                rotate_left
                ·simp only [Act.put, List.setIfInBounds_toArray, List.set_cons_zero, List.set_cons_succ, i64_w, i32_w]
                 rfl
                refine pure_ (i := 11) (N := some 66) (v := ?_) (a' := ?_) #[true, true, true, true, true, true, true, true, true, true, true, true, false, false, false, false, false] rfl rfl (any_of HT_.out (by kernel_rfl)) (fun _ _ _ h => h) (Or.inl ⟨by rfl, ?_⟩) ?_ ?_
                rotate_left
                ·intro w'
                 go_simp
                 with_reducible rfl
                rotate_left
                ·simp only [Act.put, List.setIfInBounds_toArray, List.set_cons_zero, List.set_cons_succ, i64_w, i32_w]
                 rfl
                refine one_ (i := 12) (N := some 11) #[true, true, true, true, true, true, true, true, true, true, true, true, true, false, false, false, false] rfl rfl (one_of HT_.out (by kernel_rfl)) (by decide) (fun K hK => ?_)
                refine box_step ?hg (N := 11) ?hd (cs := #[.int .i64 0, .int .i64 0, .int .i64 0, .int .i64 0, .bool false]) (t := 71) ?hr ?_; (case hd => rfl); (case hg => rfl); (case hr => first | (go_simp; done) | (go_simp; rfl))
                intro gb634 hg w39 hbox hb
                have n0_ := Aside0.mk (Kd.R_below (by (with_reducible repeat (first | apply Kd.R_alloc | apply Kd.R_drewN | apply Kd.R_drew)); exact HO_7.out) hb)
                have n1_ := Aside0.mk (blk_below (g := gb611) (o := .cells #[.int .i64 a0_0, .int .i64 a0_1, .slice A0_2 l0_2.length c0_2] 69 (0, 0)) (by (with_reducible repeat (first | refine blk_drewN ?_ _ | refine blk_drew ?_ | refine blk_alloc ?_ _)); exact BK611.out) hb)
                have n2_ := Aside0.mk (blk_below (g := gb623) (o := .cells #[.int .i64 t614, .int .i64 t615, .int .i64 t616, .int .i64 t617, .bool t618] 71 (0, 0)) (by (with_reducible repeat (first | refine blk_drewN ?_ _ | refine blk_drew ?_ | refine blk_alloc ?_ _)); exact BK623.out) hb)
                have n3_ := Aside0.mk (blk_below (g := gb624) (o := .cells #[.int .i64 x625000_3, .int .i64 x625001_3, .int .i64 x625002_3, .int .i64 x625003_3, .bool x625004_3] 71 (0, 0)) (by (with_reducible repeat (first | refine blk_drewN ?_ _ | refine blk_drew ?_ | refine blk_alloc ?_ _)); exact BK624.out) hb)
                have n4_ := Aside0.mk (below_step (by repeat (first | (with_reducible first | exact HB.out | apply below_alloc | apply pw_below_drewN | apply below_drew1 | refine below_set ?_ GE611.out | refine below_set ?_ GE623.out | refine below_set ?_ GE624.out) | exact HB.out)) hb)
                have n5_ := Aside0.mk (hbox)
                have n6_ := Aside0.mk ((by rw [hg]; exact (below_size (by repeat (first | (with_reducible first | exact HB.out | apply below_alloc | apply pw_below_drewN | apply below_drew1 | refine below_set ?_ GE611.out | refine below_set ?_ GE623.out | refine below_set ?_ GE624.out) | exact HB.out))) : w.heap.size ≤ gb634))
                have n7_ := Aside0.mk ((by rw [hg]; exact (below_size (by repeat (first | (with_reducible first | exact HB.out | apply below_alloc | apply pw_below_drewN | apply below_drew1 | refine below_set ?_ GE611.out | refine below_set ?_ GE623.out | refine below_set ?_ GE624.out) | exact HB.out))) : w.heap.size ≤ gb634))
                have n8_ := Aside0.mk ((by rw [hg]; exact Nat.ne_of_lt (blk_lt (g := gb611) (o := .cells #[.int .i64 a0_0, .int .i64 a0_1, .slice A0_2 l0_2.length c0_2] 69 (0, 0)) (by (with_reducible repeat (first | refine blk_drewN ?_ _ | refine blk_drew ?_ | refine blk_alloc ?_ _)); exact BK611.out)) : gb611 ≠ gb634))
                have n9_ := Aside0.mk ((by rw [hg]; exact Nat.ne_of_gt (blk_lt (g := gb611) (o := .cells #[.int .i64 a0_0, .int .i64 a0_1, .slice A0_2 l0_2.length c0_2] 69 (0, 0)) (by (with_reducible repeat (first | refine blk_drewN ?_ _ | refine blk_drew ?_ | refine blk_alloc ?_ _)); exact BK611.out)) : gb634 ≠ gb611))
                have n10_ := Aside0.mk ((by rw [hg]; exact Nat.ne_of_lt (blk_lt (g := gb623) (o := .cells #[.int .i64 t614, .int .i64 t615, .int .i64 t616, .int .i64 t617, .bool t618] 71 (0, 0)) (by (with_reducible repeat (first | refine blk_drewN ?_ _ | refine blk_drew ?_ | refine blk_alloc ?_ _)); exact BK623.out)) : gb623 ≠ gb634))
                have n11_ := Aside0.mk ((by rw [hg]; exact Nat.ne_of_gt (blk_lt (g := gb623) (o := .cells #[.int .i64 t614, .int .i64 t615, .int .i64 t616, .int .i64 t617, .bool t618] 71 (0, 0)) (by (with_reducible repeat (first | refine blk_drewN ?_ _ | refine blk_drew ?_ | refine blk_alloc ?_ _)); exact BK623.out)) : gb634 ≠ gb623))
                have n12_ := Aside0.mk ((by rw [hg]; exact Nat.ne_of_lt (blk_lt (g := gb624) (o := .cells #[.int .i64 x625000_3, .int .i64 x625001_3, .int .i64 x625002_3, .int .i64 x625003_3, .bool x625004_3] 71 (0, 0)) (by (with_reducible repeat (first | refine blk_drewN ?_ _ | refine blk_drew ?_ | refine blk_alloc ?_ _)); exact BK624.out)) : gb624 ≠ gb634))
                have n13_ := Aside0.mk ((by rw [hg]; exact Nat.ne_of_gt (blk_lt (g := gb624) (o := .cells #[.int .i64 x625000_3, .int .i64 x625001_3, .int .i64 x625002_3, .int .i64 x625003_3, .bool x625004_3] 71 (0, 0)) (by (with_reducible repeat (first | refine blk_drewN ?_ _ | refine blk_drew ?_ | refine blk_alloc ?_ _)); exact BK624.out)) : gb634 ≠ gb624))
                clear HO_7
                clear BK611
                clear BK623
                clear BK624
                clear HB
                have HO_7 := n0_
                have BK611 := n1_
                have BK623 := n2_
                have BK624 := n3_
                have HB := n4_
                have BK634 := n5_
                have GW634 := n6_
                have GE634 := n7_
                have NB611_634 := n8_
                have NB634_611 := n9_
                have NB623_634 := n10_
                have NB634_623 := n11_
                have NB624_634 := n12_
                have NB634_624 := n13_
                clear n0_ n1_ n2_ n3_ n4_ n5_ n6_ n7_ n8_ n9_ n10_ n11_ n12_ n13_
                clear hb hbox hg
                refine hK.out _ _ ⟨(blk_cell BK611.out 0).trans rfl, (blk_cell BK611.out 1).trans rfl, (blk_cell BK611.out 2).trans rfl, (blk_cell BK624.out 0).trans rfl, (blk_cell BK624.out 1).trans rfl, (blk_cell BK624.out 2).trans rfl, (blk_cell BK624.out 3).trans rfl, (blk_cell BK624.out 4).trans rfl, ((HB.out.cell (World.block_lt_of_cell? w _ hw625_0)).trans hw625_0), ((HB.out.cell (World.block_lt_of_cell? w _ hw625_1)).trans hw625_1), ((HB.out.cell (World.block_lt_of_cell? w _ hw625_2)).trans hw625_2), ((HB.out.cell (World.block_lt_of_cell? w _ hw625_3)).trans hw625_3)⟩ (fun hHeld => ?_)
                clear hK K
                refine norm_ (a' := ?_) ?_ ?_
                rotate_left
                ·show Act.put _ (some 11) _ = _
                 simp only [Act.put, List.setIfInBounds_toArray, List.set_cons_zero, List.set_cons_succ, i64_w, i32_w]
                 rfl
                exact norm_ (by simp only [putAll, Act.put, List.setIfInBounds_toArray, List.set_cons_zero, List.set_cons_succ]) (hCont (gb634) _ ⟨hHeld, (by (with_reducible repeat (first | apply Kd.R_alloc | apply Kd.R_drewN | apply Kd.R_drew)); exact HO_7.out), (by (with_reducible repeat (first | refine blk_drewN ?_ _ | refine blk_drew ?_ | refine blk_alloc ?_ _)); exact BK611.out), (by (with_reducible repeat (first | refine blk_drewN ?_ _ | refine blk_drew ?_ | refine blk_alloc ?_ _)); exact BK623.out), (by (with_reducible repeat (first | refine blk_drewN ?_ _ | refine blk_drew ?_ | refine blk_alloc ?_ _)); exact BK624.out), (by (with_reducible repeat (first | refine blk_drewN ?_ _ | refine blk_drew ?_ | refine blk_alloc ?_ _)); exact BK634.out), GW634.out, GE634.out, NB611_634.out, NB634_611.out, NB623_634.out, NB634_623.out, NB624_634.out, NB634_624.out, (by repeat (first | (with_reducible first | exact HB.out | apply below_alloc | apply pw_below_drewN | apply below_drew1 | refine below_set ?_ GE611.out | refine below_set ?_ GE623.out | refine below_set ?_ GE624.out | refine below_set ?_ GE634.out) | exact HB.out))⟩)
               ·skip
                refine box_step ?hg (N := 11) ?hd (cs := #[.int .i64 0, .int .i64 0, .int .i64 0, .int .i64 0, .bool false]) (t := 71) ?hr ?_; (case hd => rfl); (case hg => rfl); (case hr => first | (go_simp; done) | (go_simp; rfl))
                intro gb634 hg w38 hbox hb
                have n0_ := Aside0.mk (Kd.R_below (by (with_reducible repeat (first | apply Kd.R_alloc | apply Kd.R_drewN | apply Kd.R_drew)); exact HO_7.out) hb)
                have n1_ := Aside0.mk (blk_below (g := gb611) (o := .cells #[.int .i64 a0_0, .int .i64 a0_1, .slice A0_2 l0_2.length c0_2] 69 (0, 0)) (by (with_reducible repeat (first | refine blk_drewN ?_ _ | refine blk_drew ?_ | refine blk_alloc ?_ _)); exact BK611.out) hb)
                have n2_ := Aside0.mk (blk_below (g := gb623) (o := .cells #[.int .i64 t614, .int .i64 t615, .int .i64 t616, .int .i64 t617, .bool t618] 71 (0, 0)) (by (with_reducible repeat (first | refine blk_drewN ?_ _ | refine blk_drew ?_ | refine blk_alloc ?_ _)); exact BK623.out) hb)
                have n3_ := Aside0.mk (blk_below (g := gb624) (o := .cells #[.int .i64 x625000_3, .int .i64 x625001_3, .int .i64 x625002_3, .int .i64 x625003_3, .bool x625004_3] 71 (0, 0)) (by (with_reducible repeat (first | refine blk_drewN ?_ _ | refine blk_drew ?_ | refine blk_alloc ?_ _)); exact BK624.out) hb)
                have n4_ := Aside0.mk (below_step (by repeat (first | (with_reducible first | exact HB.out | apply below_alloc | apply pw_below_drewN | apply below_drew1 | refine below_set ?_ GE611.out | refine below_set ?_ GE623.out | refine below_set ?_ GE624.out) | exact HB.out)) hb)
                have n5_ := Aside0.mk (hbox)
                have n6_ := Aside0.mk ((by rw [hg]; exact (below_size (by repeat (first | (with_reducible first | exact HB.out | apply below_alloc | apply pw_below_drewN | apply below_drew1 | refine below_set ?_ GE611.out | refine below_set ?_ GE623.out | refine below_set ?_ GE624.out) | exact HB.out))) : w.heap.size ≤ gb634))
                have n7_ := Aside0.mk ((by rw [hg]; exact (below_size (by repeat (first | (with_reducible first | exact HB.out | apply below_alloc | apply pw_below_drewN | apply below_drew1 | refine below_set ?_ GE611.out | refine below_set ?_ GE623.out | refine below_set ?_ GE624.out) | exact HB.out))) : w.heap.size ≤ gb634))
                have n8_ := Aside0.mk ((by rw [hg]; exact Nat.ne_of_lt (blk_lt (g := gb611) (o := .cells #[.int .i64 a0_0, .int .i64 a0_1, .slice A0_2 l0_2.length c0_2] 69 (0, 0)) (by (with_reducible repeat (first | refine blk_drewN ?_ _ | refine blk_drew ?_ | refine blk_alloc ?_ _)); exact BK611.out)) : gb611 ≠ gb634))
                have n9_ := Aside0.mk ((by rw [hg]; exact Nat.ne_of_gt (blk_lt (g := gb611) (o := .cells #[.int .i64 a0_0, .int .i64 a0_1, .slice A0_2 l0_2.length c0_2] 69 (0, 0)) (by (with_reducible repeat (first | refine blk_drewN ?_ _ | refine blk_drew ?_ | refine blk_alloc ?_ _)); exact BK611.out)) : gb634 ≠ gb611))
                have n10_ := Aside0.mk ((by rw [hg]; exact Nat.ne_of_lt (blk_lt (g := gb623) (o := .cells #[.int .i64 t614, .int .i64 t615, .int .i64 t616, .int .i64 t617, .bool t618] 71 (0, 0)) (by (with_reducible repeat (first | refine blk_drewN ?_ _ | refine blk_drew ?_ | refine blk_alloc ?_ _)); exact BK623.out)) : gb623 ≠ gb634))
                have n11_ := Aside0.mk ((by rw [hg]; exact Nat.ne_of_gt (blk_lt (g := gb623) (o := .cells #[.int .i64 t614, .int .i64 t615, .int .i64 t616, .int .i64 t617, .bool t618] 71 (0, 0)) (by (with_reducible repeat (first | refine blk_drewN ?_ _ | refine blk_drew ?_ | refine blk_alloc ?_ _)); exact BK623.out)) : gb634 ≠ gb623))
                have n12_ := Aside0.mk ((by rw [hg]; exact Nat.ne_of_lt (blk_lt (g := gb624) (o := .cells #[.int .i64 x625000_3, .int .i64 x625001_3, .int .i64 x625002_3, .int .i64 x625003_3, .bool x625004_3] 71 (0, 0)) (by (with_reducible repeat (first | refine blk_drewN ?_ _ | refine blk_drew ?_ | refine blk_alloc ?_ _)); exact BK624.out)) : gb624 ≠ gb634))
                have n13_ := Aside0.mk ((by rw [hg]; exact Nat.ne_of_gt (blk_lt (g := gb624) (o := .cells #[.int .i64 x625000_3, .int .i64 x625001_3, .int .i64 x625002_3, .int .i64 x625003_3, .bool x625004_3] 71 (0, 0)) (by (with_reducible repeat (first | refine blk_drewN ?_ _ | refine blk_drew ?_ | refine blk_alloc ?_ _)); exact BK624.out)) : gb634 ≠ gb624))
                clear HO_7
                clear BK611
                clear BK623
                clear BK624
                clear HB
                have HO_7 := n0_
                have BK611 := n1_
                have BK623 := n2_
                have BK624 := n3_
                have HB := n4_
                have BK634 := n5_
                have GW634 := n6_
                have GE634 := n7_
                have NB611_634 := n8_
                have NB634_611 := n9_
                have NB623_634 := n10_
                have NB634_623 := n11_
                have NB624_634 := n12_
                have NB634_624 := n13_
                clear n0_ n1_ n2_ n3_ n4_ n5_ n6_ n7_ n8_ n9_ n10_ n11_ n12_ n13_
                clear hb hbox hg
                refine hK.out _ _ ⟨(blk_cell BK611.out 0).trans rfl, (blk_cell BK611.out 1).trans rfl, (blk_cell BK611.out 2).trans rfl, (blk_cell BK624.out 0).trans rfl, (blk_cell BK624.out 1).trans rfl, (blk_cell BK624.out 2).trans rfl, (blk_cell BK624.out 3).trans rfl, (blk_cell BK624.out 4).trans rfl, ((HB.out.cell (World.block_lt_of_cell? w _ hw625_0)).trans hw625_0), ((HB.out.cell (World.block_lt_of_cell? w _ hw625_1)).trans hw625_1), ((HB.out.cell (World.block_lt_of_cell? w _ hw625_2)).trans hw625_2), ((HB.out.cell (World.block_lt_of_cell? w _ hw625_3)).trans hw625_3)⟩ (fun hHeld => ?_)
                clear hK K
                refine norm_ (a' := ?_) ?_ ?_
                rotate_left
                ·show Act.put _ (some 11) _ = _
                 simp only [Act.put, List.setIfInBounds_toArray, List.set_cons_zero, List.set_cons_succ, i64_w, i32_w]
                 rfl
                refine one_ (i := 6) (N := some 62) #[true, true, true, true, true, true, true, false, false, false, false, false, true, false, false, false, false] rfl rfl (one_of HT_.out (by kernel_rfl)) (by decide) (fun K hK => ?_)
                refine goes_ Try.func63 (by kernel_rfl) rfl #[.agg #[.int .i64 a0_0, .int .i64 a0_1, .slice A0_2 l0_2.length c0_2], .agg #[.int .i64 x625000_3, .int .i64 x625001_3, .int .i64 x625002_3, .int .i64 x625003_3, .bool x625004_3], .agg #[.int .i64 ((rd_T78 l1 x10_3).f0), .int .i64 ((rd_T78 l1 x10_3).f1), .int .i64 ((rd_T78 l1 x10_3).f2), .int .i64 ((rd_T78 l1 x10_3).f3)]] (by rfl) rfl rfl (by (try simp only [List.map_toArray, List.map_cons, List.map_nil]); first | done | rfl | (simp only [List.length_drop, List.length_take]; rfl)) ?_
                with_reducible refine (contract_Judge.calls a0_0 a0_1 _ _ l0_2 x625000_3 x625001_3 x625002_3 x625003_3 x625004_3 ((rd_T78 l1 x10_3).f0) ((rd_T78 l1 x10_3).f1) ((rd_T78 l1 x10_3).f2) ((rd_T78 l1 x10_3).f3) t626 t627 t628 t629 t630 t631 t632 t633 _ ?side1 ?side2 A33.out).mono ?_
                (case side1 => repeat (first | exact (Kd.C_below HR0_2.out HB.out) | (with_reducible refine Kd.C_alloc ?_ _) | (with_reducible refine Kd.C_drewN ?_ _) | (with_reducible refine Kd.C_drew ?_)))
                (case side2 => exact HC0_2.out)
                rintro e w39 ⟨rfl, hb⟩
                refine ⟨_, rfl, ?_⟩
                have n0_ := Aside0.mk (Kd.R_below (by (with_reducible repeat (first | apply Kd.R_alloc | apply Kd.R_drewN | apply Kd.R_drew)); exact HO_7.out) hb)
                have n1_ := Aside0.mk (blk_below (g := gb611) (o := .cells #[.int .i64 a0_0, .int .i64 a0_1, .slice A0_2 l0_2.length c0_2] 69 (0, 0)) (by (with_reducible repeat (first | refine blk_drewN ?_ _ | refine blk_drew ?_ | refine blk_alloc ?_ _)); exact BK611.out) hb)
                have n2_ := Aside0.mk (blk_below (g := gb623) (o := .cells #[.int .i64 t614, .int .i64 t615, .int .i64 t616, .int .i64 t617, .bool t618] 71 (0, 0)) (by (with_reducible repeat (first | refine blk_drewN ?_ _ | refine blk_drew ?_ | refine blk_alloc ?_ _)); exact BK623.out) hb)
                have n3_ := Aside0.mk (blk_below (g := gb624) (o := .cells #[.int .i64 x625000_3, .int .i64 x625001_3, .int .i64 x625002_3, .int .i64 x625003_3, .bool x625004_3] 71 (0, 0)) (by (with_reducible repeat (first | refine blk_drewN ?_ _ | refine blk_drew ?_ | refine blk_alloc ?_ _)); exact BK624.out) hb)
                have n4_ := Aside0.mk (blk_below (g := gb634) (o := .cells #[.int .i64 0, .int .i64 0, .int .i64 0, .int .i64 0, .bool false] 71 (0, 0)) (by (with_reducible repeat (first | refine blk_drewN ?_ _ | refine blk_drew ?_ | refine blk_alloc ?_ _)); exact BK634.out) hb)
                have n5_ := Aside0.mk (below_step (by repeat (first | (with_reducible first | exact HB.out | apply below_alloc | apply pw_below_drewN | apply below_drew1 | refine below_set ?_ GE611.out | refine below_set ?_ GE623.out | refine below_set ?_ GE624.out | refine below_set ?_ GE634.out) | exact HB.out)) hb)
                clear HO_7
                clear BK611
                clear BK623
                clear BK624
                clear BK634
                clear HB
                have HO_7 := n0_
                have BK611 := n1_
                have BK623 := n2_
                have BK624 := n3_
                have BK634 := n4_
                have HB := n5_
                clear n0_ n1_ n2_ n3_ n4_ n5_
                (try clear hb)
                (try clear hb2)
                (try clear hk)
                (try clear hi)
                refine hK.out _ _ ⟨(blk_cell BK611.out 0).trans rfl, (blk_cell BK611.out 1).trans rfl, (blk_cell BK611.out 2).trans rfl, (blk_cell BK624.out 0).trans rfl, (blk_cell BK624.out 1).trans rfl, (blk_cell BK624.out 2).trans rfl, (blk_cell BK624.out 3).trans rfl, (blk_cell BK624.out 4).trans rfl, ((HB.out.cell (World.block_lt_of_cell? w _ hw625_0)).trans hw625_0), ((HB.out.cell (World.block_lt_of_cell? w _ hw625_1)).trans hw625_1), ((HB.out.cell (World.block_lt_of_cell? w _ hw625_2)).trans hw625_2), ((HB.out.cell (World.block_lt_of_cell? w _ hw625_3)).trans hw625_3)⟩ (fun hHeld => ?_)
                clear hK K
                refine norm_ (a' := ?_) ?_ ?_
                rotate_left
                ·show Act.put _ (some 62) _ = _
                 simp only [Act.put, List.setIfInBounds_toArray, List.set_cons_zero, List.set_cons_succ, i64_w, i32_w]
                 rfl
                refine pure_ (i := 7) (N := some 55) (v := ?_) (a' := ?_) #[true, true, true, true, true, true, true, true, false, false, false, false, true, false, false, false, false] rfl rfl (any_of HT_.out (by kernel_rfl)) (fun _ _ _ h => h) (Or.inl ⟨by rfl, ?_⟩) ?_ ?_
                rotate_left
                ·intro w'
                 go_simp
                 with_reducible rfl
                rotate_left
                ·simp only [Act.put, List.setIfInBounds_toArray, List.set_cons_zero, List.set_cons_succ, i64_w, i32_w]
                 rfl
                refine pure_ (i := 8) (N := some 63) (v := ?_) (a' := ?_) #[true, true, true, true, true, true, true, true, true, false, false, false, true, false, false, false, false] rfl rfl (any_of HT_.out (by kernel_rfl)) (fun _ _ _ h => h) (Or.inl ⟨by rfl, ?_⟩) ?_ ?_
                rotate_left
                ·intro w'
                 go_simp
                 with_reducible rfl
                rotate_left
                ·simp only [Act.put, List.setIfInBounds_toArray, List.set_cons_zero, List.set_cons_succ, i64_w, i32_w]
                 rfl
                refine pure_ (i := 9) (N := some 64) (v := ?_) (a' := ?_) #[true, true, true, true, true, true, true, true, true, true, false, false, true, false, false, false, false] rfl rfl (any_of HT_.out (by kernel_rfl)) (fun _ _ _ h => h) (Or.inl ⟨by rfl, ?_⟩) ?_ ?_
                rotate_left
                ·intro w'
                 go_simp
                 with_reducible rfl
                rotate_left
                ·simp only [Act.put, List.setIfInBounds_toArray, List.set_cons_zero, List.set_cons_succ, i64_w, i32_w]
                 rfl
                refine pure_ (i := 10) (N := some 65) (v := ?_) (a' := ?_) #[true, true, true, true, true, true, true, true, true, true, true, false, true, false, false, false, false] rfl rfl (any_of HT_.out (by kernel_rfl)) (fun _ _ _ h => h) (Or.inl ⟨by rfl, ?_⟩) ?_ ?_
                rotate_left
                ·intro w'
                 go_simp
                 with_reducible rfl
                rotate_left
                ·simp only [Act.put, List.setIfInBounds_toArray, List.set_cons_zero, List.set_cons_succ, i64_w, i32_w]
                 rfl
                refine pure_ (i := 11) (N := some 66) (v := ?_) (a' := ?_) #[true, true, true, true, true, true, true, true, true, true, true, true, true, false, false, false, false] rfl rfl (any_of HT_.out (by kernel_rfl)) (fun _ _ _ h => h) (Or.inl ⟨by rfl, ?_⟩) ?_ ?_
                rotate_left
                ·intro w'
                 go_simp
                 with_reducible rfl
                rotate_left
                ·simp only [Act.put, List.setIfInBounds_toArray, List.set_cons_zero, List.set_cons_succ, i64_w, i32_w]
                 rfl
                exact norm_ (by simp only [putAll, Act.put, List.setIfInBounds_toArray, List.set_cons_zero, List.set_cons_succ]) (hCont (gb634) _ ⟨hHeld, (by (with_reducible repeat (first | apply Kd.R_alloc | apply Kd.R_drewN | apply Kd.R_drew)); exact HO_7.out), (by (with_reducible repeat (first | refine blk_drewN ?_ _ | refine blk_drew ?_ | refine blk_alloc ?_ _)); exact BK611.out), (by (with_reducible repeat (first | refine blk_drewN ?_ _ | refine blk_drew ?_ | refine blk_alloc ?_ _)); exact BK623.out), (by (with_reducible repeat (first | refine blk_drewN ?_ _ | refine blk_drew ?_ | refine blk_alloc ?_ _)); exact BK624.out), (by (with_reducible repeat (first | refine blk_drewN ?_ _ | refine blk_drew ?_ | refine blk_alloc ?_ _)); exact BK634.out), GW634.out, GE634.out, NB611_634.out, NB634_611.out, NB623_634.out, NB634_623.out, NB624_634.out, NB634_624.out, (by repeat (first | (with_reducible first | exact HB.out | apply below_alloc | apply pw_below_drewN | apply below_drew1 | refine below_set ?_ GE611.out | refine below_set ?_ GE623.out | refine below_set ?_ GE624.out | refine below_set ?_ GE634.out) | exact HB.out))⟩)
              rintro gb634 w40 ⟨hS_, h0_, h1_, h2_, h3_, h4_, h5_, h6_, h7_, h8_, h9_, h10_, h11_, h12_, h13_⟩
              have n0_ : Aside0 (Kd.R (Kd.int .i64) 3 w40 w.heap.size (fun _ => True) v620 t619) := ⟨h0_⟩
              have n1_ : Aside0 (w40.heap[gb611]? = some (.cells #[.int .i64 a0_0, .int .i64 a0_1, .slice A0_2 l0_2.length c0_2] 69 (0, 0))) := ⟨h1_⟩
              have n2_ : Aside0 (w40.heap[gb623]? = some (.cells #[.int .i64 t614, .int .i64 t615, .int .i64 t616, .int .i64 t617, .bool t618] 71 (0, 0))) := ⟨h2_⟩
              have n3_ : Aside0 (w40.heap[gb624]? = some (.cells #[.int .i64 x625000_3, .int .i64 x625001_3, .int .i64 x625002_3, .int .i64 x625003_3, .bool x625004_3] 71 (0, 0))) := ⟨h3_⟩
              have n4_ : Aside0 (w40.heap[gb634]? = some (.cells #[.int .i64 0, .int .i64 0, .int .i64 0, .int .i64 0, .bool false] 71 (0, 0))) := ⟨h4_⟩
              have n5_ : Aside0 (w.heap.size ≤ gb634) := ⟨h5_⟩
              have n6_ : Aside0 (w.heap.size ≤ gb634) := ⟨h6_⟩
              have n7_ : Aside0 (gb611 ≠ gb634) := ⟨h7_⟩
              have n8_ : Aside0 (gb634 ≠ gb611) := ⟨h8_⟩
              have n9_ : Aside0 (gb623 ≠ gb634) := ⟨h9_⟩
              have n10_ : Aside0 (gb634 ≠ gb623) := ⟨h10_⟩
              have n11_ : Aside0 (gb624 ≠ gb634) := ⟨h11_⟩
              have n12_ : Aside0 (gb634 ≠ gb624) := ⟨h12_⟩
              have n13_ : Aside0 (Below w.heap.size w w40) := ⟨h13_⟩
              clear HO_7
              clear BK611
              clear BK623
              clear BK624
              clear HB
              clear h0_ h1_ h2_ h3_ h4_ h5_ h6_ h7_ h8_ h9_ h10_ h11_ h12_ h13_
              have HO_7 := n0_
              have BK611 := n1_
              have BK623 := n2_
              have BK624 := n3_
              have BK634 := n4_
              have GW634 := n5_
              have GE634 := n6_
              have NB611_634 := n7_
              have NB634_611 := n8_
              have NB623_634 := n9_
              have NB634_623 := n10_
              have NB624_634 := n11_
              have NB634_624 := n12_
              have HB := n13_
              clear n0_ n1_ n2_ n3_ n4_ n5_ n6_ n7_ n8_ n9_ n10_ n11_ n12_ n13_
              have hHeld : w40.cell? ⟨gb611, 0, none⟩ = some (.int .i64 a0_0) ∧ w40.cell? ⟨gb611, 1, none⟩ = some (.int .i64 a0_1) ∧ w40.cell? ⟨gb611, 2, none⟩ = some (.slice A0_2 l0_2.length c0_2) ∧ w40.cell? ⟨gb624, 0, none⟩ = some (.int .i64 x625000_3) ∧ w40.cell? ⟨gb624, 1, none⟩ = some (.int .i64 x625001_3) ∧ w40.cell? ⟨gb624, 2, none⟩ = some (.int .i64 x625002_3) ∧ w40.cell? ⟨gb624, 3, none⟩ = some (.int .i64 x625003_3) ∧ w40.cell? ⟨gb624, 4, none⟩ = some (.bool x625004_3) ∧ w40.cell? (ad625.add ((x10_3).toNat * 4)) = some (.int .i64 ((rd_T78 l1 x10_3).f0)) ∧ w40.cell? ⟨(ad625.add ((x10_3).toNat * 4)).block, (ad625.add ((x10_3).toNat * 4)).off + 1, none⟩ = some (.int .i64 ((rd_T78 l1 x10_3).f1)) ∧ w40.cell? ⟨(ad625.add ((x10_3).toNat * 4)).block, (ad625.add ((x10_3).toNat * 4)).off + 2, none⟩ = some (.int .i64 ((rd_T78 l1 x10_3).f2)) ∧ w40.cell? ⟨(ad625.add ((x10_3).toNat * 4)).block, (ad625.add ((x10_3).toNat * 4)).off + 3, none⟩ = some (.int .i64 ((rd_T78 l1 x10_3).f3)) := hS_
              refine norm_ (a' := ?_) ?_ ?_
              rotate_left
              ·simp only [putAll, Act.put, List.setIfInBounds_toArray, List.set_cons_zero, List.set_cons_succ]
               rfl
              refine one_ (i := 13) (N := none) #[true, true, true, true, true, true, true, true, true, true, true, true, true, true, false, false, false] rfl rfl (one_of HT_.out (by kernel_rfl)) (by decide) (fun K hK => ?_)
              have hs41 : w40.cell? ⟨gb634, 0, none⟩ = some (.int .i64 0) := (blk_cell BK634.out 0).trans rfl
              have hfs41 := blk_frozen BK634.out 0
              have hns41_0 := NB611_634.out
              have hns41_1 := NB623_634.out
              have hns41_2 := NB624_634.out
              have hms41_0 := NB634_611.out
              have hms41_1 := NB634_623.out
              have hms41_2 := NB634_624.out
              have hs42 : w40.cell? ⟨gb634, 1, none⟩ = some (.int .i64 0) := (blk_cell BK634.out 1).trans rfl
              have hfs42 := blk_frozen BK634.out 1
              have hns42_0 := NB611_634.out
              have hns42_1 := NB623_634.out
              have hns42_2 := NB624_634.out
              have hms42_0 := NB634_611.out
              have hms42_1 := NB634_623.out
              have hms42_2 := NB634_624.out
              have hs43 : w40.cell? ⟨gb634, 2, none⟩ = some (.int .i64 0) := (blk_cell BK634.out 2).trans rfl
              have hfs43 := blk_frozen BK634.out 2
              have hns43_0 := NB611_634.out
              have hns43_1 := NB623_634.out
              have hns43_2 := NB624_634.out
              have hms43_0 := NB634_611.out
              have hms43_1 := NB634_623.out
              have hms43_2 := NB634_624.out
              have hs44 : w40.cell? ⟨gb634, 3, none⟩ = some (.int .i64 0) := (blk_cell BK634.out 3).trans rfl
              have hfs44 := blk_frozen BK634.out 3
              have hns44_0 := NB611_634.out
              have hns44_1 := NB623_634.out
              have hns44_2 := NB624_634.out
              have hms44_0 := NB634_611.out
              have hms44_1 := NB634_623.out
              have hms44_2 := NB634_624.out
              have hs45 : w40.cell? ⟨gb634, 4, none⟩ = some (.bool false) := (blk_cell BK634.out 4).trans rfl
              have hfs45 := blk_frozen BK634.out 4
              have hns45_0 := NB611_634.out
              have hns45_1 := NB623_634.out
              have hns45_2 := NB624_634.out
              have hms45_0 := NB634_611.out
              have hms45_1 := NB634_623.out
              have hms45_2 := NB634_624.out
              refine skip_ (w1 := ?_) (by rfl) rfl ?_ ?_
              rotate_left
              ·go_simp
               rfl
              refine hK.out _ _ ⟨((cell_far (p := ⟨gb634, _, none⟩) NB611_634.out _).trans (((cell_far (p := ⟨gb634, _, none⟩) NB611_634.out _).trans (((cell_far (p := ⟨gb634, _, none⟩) NB611_634.out _).trans (((cell_far (p := ⟨gb634, _, none⟩) NB611_634.out _).trans (((cell_far (p := ⟨gb634, _, none⟩) NB611_634.out _).trans (hHeld.1)))))))))), ((cell_far (p := ⟨gb634, _, none⟩) NB611_634.out _).trans (((cell_far (p := ⟨gb634, _, none⟩) NB611_634.out _).trans (((cell_far (p := ⟨gb634, _, none⟩) NB611_634.out _).trans (((cell_far (p := ⟨gb634, _, none⟩) NB611_634.out _).trans (((cell_far (p := ⟨gb634, _, none⟩) NB611_634.out _).trans (hHeld.2.1)))))))))), ((cell_far (p := ⟨gb634, _, none⟩) NB611_634.out _).trans (((cell_far (p := ⟨gb634, _, none⟩) NB611_634.out _).trans (((cell_far (p := ⟨gb634, _, none⟩) NB611_634.out _).trans (((cell_far (p := ⟨gb634, _, none⟩) NB611_634.out _).trans (((cell_far (p := ⟨gb634, _, none⟩) NB611_634.out _).trans (hHeld.2.2.1)))))))))), ((cell_far (p := ⟨gb634, _, none⟩) NB624_634.out _).trans (((cell_far (p := ⟨gb634, _, none⟩) NB624_634.out _).trans (((cell_far (p := ⟨gb634, _, none⟩) NB624_634.out _).trans (((cell_far (p := ⟨gb634, _, none⟩) NB624_634.out _).trans (((cell_far (p := ⟨gb634, _, none⟩) NB624_634.out _).trans (hHeld.2.2.2.1)))))))))), ((cell_far (p := ⟨gb634, _, none⟩) NB624_634.out _).trans (((cell_far (p := ⟨gb634, _, none⟩) NB624_634.out _).trans (((cell_far (p := ⟨gb634, _, none⟩) NB624_634.out _).trans (((cell_far (p := ⟨gb634, _, none⟩) NB624_634.out _).trans (((cell_far (p := ⟨gb634, _, none⟩) NB624_634.out _).trans (hHeld.2.2.2.2.1)))))))))), ((cell_far (p := ⟨gb634, _, none⟩) NB624_634.out _).trans (((cell_far (p := ⟨gb634, _, none⟩) NB624_634.out _).trans (((cell_far (p := ⟨gb634, _, none⟩) NB624_634.out _).trans (((cell_far (p := ⟨gb634, _, none⟩) NB624_634.out _).trans (((cell_far (p := ⟨gb634, _, none⟩) NB624_634.out _).trans (hHeld.2.2.2.2.2.1)))))))))), ((cell_far (p := ⟨gb634, _, none⟩) NB624_634.out _).trans (((cell_far (p := ⟨gb634, _, none⟩) NB624_634.out _).trans (((cell_far (p := ⟨gb634, _, none⟩) NB624_634.out _).trans (((cell_far (p := ⟨gb634, _, none⟩) NB624_634.out _).trans (((cell_far (p := ⟨gb634, _, none⟩) NB624_634.out _).trans (hHeld.2.2.2.2.2.2.1)))))))))), ((cell_far (p := ⟨gb634, _, none⟩) NB624_634.out _).trans (((cell_far (p := ⟨gb634, _, none⟩) NB624_634.out _).trans (((cell_far (p := ⟨gb634, _, none⟩) NB624_634.out _).trans (((cell_far (p := ⟨gb634, _, none⟩) NB624_634.out _).trans (((cell_far (p := ⟨gb634, _, none⟩) NB624_634.out _).trans (hHeld.2.2.2.2.2.2.2.1)))))))))), ((cell_far (p := ⟨gb634, _, none⟩) (by first | exact Nat.ne_of_lt (Nat.lt_of_lt_of_le (by have := World.block_lt_of_cell? _ _ hw625_0; first | rwa [add_block] at this | exact this) GW634.out) | (rw [add_block]; exact Nat.ne_of_lt (Nat.lt_of_lt_of_le (by have := World.block_lt_of_cell? _ _ hw625_0; first | rwa [add_block] at this | exact this) GW634.out)) | (show (Addr.add _ _).block ≠ _; rw [add_block]; exact Nat.ne_of_lt (Nat.lt_of_lt_of_le (by have := World.block_lt_of_cell? _ _ hw625_0; first | rwa [add_block] at this | exact this) GW634.out)) | (dsimp only; exact Nat.ne_of_lt (Nat.lt_of_lt_of_le (by have := World.block_lt_of_cell? _ _ hw625_0; first | rwa [add_block] at this | exact this) GW634.out))) _).trans (((cell_far (p := ⟨gb634, _, none⟩) (by first | exact Nat.ne_of_lt (Nat.lt_of_lt_of_le (by have := World.block_lt_of_cell? _ _ hw625_0; first | rwa [add_block] at this | exact this) GW634.out) | (rw [add_block]; exact Nat.ne_of_lt (Nat.lt_of_lt_of_le (by have := World.block_lt_of_cell? _ _ hw625_0; first | rwa [add_block] at this | exact this) GW634.out)) | (show (Addr.add _ _).block ≠ _; rw [add_block]; exact Nat.ne_of_lt (Nat.lt_of_lt_of_le (by have := World.block_lt_of_cell? _ _ hw625_0; first | rwa [add_block] at this | exact this) GW634.out)) | (dsimp only; exact Nat.ne_of_lt (Nat.lt_of_lt_of_le (by have := World.block_lt_of_cell? _ _ hw625_0; first | rwa [add_block] at this | exact this) GW634.out))) _).trans (((cell_far (p := ⟨gb634, _, none⟩) (by first | exact Nat.ne_of_lt (Nat.lt_of_lt_of_le (by have := World.block_lt_of_cell? _ _ hw625_0; first | rwa [add_block] at this | exact this) GW634.out) | (rw [add_block]; exact Nat.ne_of_lt (Nat.lt_of_lt_of_le (by have := World.block_lt_of_cell? _ _ hw625_0; first | rwa [add_block] at this | exact this) GW634.out)) | (show (Addr.add _ _).block ≠ _; rw [add_block]; exact Nat.ne_of_lt (Nat.lt_of_lt_of_le (by have := World.block_lt_of_cell? _ _ hw625_0; first | rwa [add_block] at this | exact this) GW634.out)) | (dsimp only; exact Nat.ne_of_lt (Nat.lt_of_lt_of_le (by have := World.block_lt_of_cell? _ _ hw625_0; first | rwa [add_block] at this | exact this) GW634.out))) _).trans (((cell_far (p := ⟨gb634, _, none⟩) (by first | exact Nat.ne_of_lt (Nat.lt_of_lt_of_le (by have := World.block_lt_of_cell? _ _ hw625_0; first | rwa [add_block] at this | exact this) GW634.out) | (rw [add_block]; exact Nat.ne_of_lt (Nat.lt_of_lt_of_le (by have := World.block_lt_of_cell? _ _ hw625_0; first | rwa [add_block] at this | exact this) GW634.out)) | (show (Addr.add _ _).block ≠ _; rw [add_block]; exact Nat.ne_of_lt (Nat.lt_of_lt_of_le (by have := World.block_lt_of_cell? _ _ hw625_0; first | rwa [add_block] at this | exact this) GW634.out)) | (dsimp only; exact Nat.ne_of_lt (Nat.lt_of_lt_of_le (by have := World.block_lt_of_cell? _ _ hw625_0; first | rwa [add_block] at this | exact this) GW634.out))) _).trans (((cell_far (p := ⟨gb634, _, none⟩) (by first | exact Nat.ne_of_lt (Nat.lt_of_lt_of_le (by have := World.block_lt_of_cell? _ _ hw625_0; first | rwa [add_block] at this | exact this) GW634.out) | (rw [add_block]; exact Nat.ne_of_lt (Nat.lt_of_lt_of_le (by have := World.block_lt_of_cell? _ _ hw625_0; first | rwa [add_block] at this | exact this) GW634.out)) | (show (Addr.add _ _).block ≠ _; rw [add_block]; exact Nat.ne_of_lt (Nat.lt_of_lt_of_le (by have := World.block_lt_of_cell? _ _ hw625_0; first | rwa [add_block] at this | exact this) GW634.out)) | (dsimp only; exact Nat.ne_of_lt (Nat.lt_of_lt_of_le (by have := World.block_lt_of_cell? _ _ hw625_0; first | rwa [add_block] at this | exact this) GW634.out))) _).trans (hHeld.2.2.2.2.2.2.2.2.1)))))))))), ((cell_far (p := ⟨gb634, _, none⟩) (by first | exact Nat.ne_of_lt (Nat.lt_of_lt_of_le (by have := World.block_lt_of_cell? _ _ hw625_1; first | rwa [add_block] at this | exact this) GW634.out) | (rw [add_block]; exact Nat.ne_of_lt (Nat.lt_of_lt_of_le (by have := World.block_lt_of_cell? _ _ hw625_1; first | rwa [add_block] at this | exact this) GW634.out)) | (show (Addr.add _ _).block ≠ _; rw [add_block]; exact Nat.ne_of_lt (Nat.lt_of_lt_of_le (by have := World.block_lt_of_cell? _ _ hw625_1; first | rwa [add_block] at this | exact this) GW634.out)) | (dsimp only; exact Nat.ne_of_lt (Nat.lt_of_lt_of_le (by have := World.block_lt_of_cell? _ _ hw625_1; first | rwa [add_block] at this | exact this) GW634.out))) _).trans (((cell_far (p := ⟨gb634, _, none⟩) (by first | exact Nat.ne_of_lt (Nat.lt_of_lt_of_le (by have := World.block_lt_of_cell? _ _ hw625_1; first | rwa [add_block] at this | exact this) GW634.out) | (rw [add_block]; exact Nat.ne_of_lt (Nat.lt_of_lt_of_le (by have := World.block_lt_of_cell? _ _ hw625_1; first | rwa [add_block] at this | exact this) GW634.out)) | (show (Addr.add _ _).block ≠ _; rw [add_block]; exact Nat.ne_of_lt (Nat.lt_of_lt_of_le (by have := World.block_lt_of_cell? _ _ hw625_1; first | rwa [add_block] at this | exact this) GW634.out)) | (dsimp only; exact Nat.ne_of_lt (Nat.lt_of_lt_of_le (by have := World.block_lt_of_cell? _ _ hw625_1; first | rwa [add_block] at this | exact this) GW634.out))) _).trans (((cell_far (p := ⟨gb634, _, none⟩) (by first | exact Nat.ne_of_lt (Nat.lt_of_lt_of_le (by have := World.block_lt_of_cell? _ _ hw625_1; first | rwa [add_block] at this | exact this) GW634.out) | (rw [add_block]; exact Nat.ne_of_lt (Nat.lt_of_lt_of_le (by have := World.block_lt_of_cell? _ _ hw625_1; first | rwa [add_block] at this | exact this) GW634.out)) | (show (Addr.add _ _).block ≠ _; rw [add_block]; exact Nat.ne_of_lt (Nat.lt_of_lt_of_le (by have := World.block_lt_of_cell? _ _ hw625_1; first | rwa [add_block] at this | exact this) GW634.out)) | (dsimp only; exact Nat.ne_of_lt (Nat.lt_of_lt_of_le (by have := World.block_lt_of_cell? _ _ hw625_1; first | rwa [add_block] at this | exact this) GW634.out))) _).trans (((cell_far (p := ⟨gb634, _, none⟩) (by first | exact Nat.ne_of_lt (Nat.lt_of_lt_of_le (by have := World.block_lt_of_cell? _ _ hw625_1; first | rwa [add_block] at this | exact this) GW634.out) | (rw [add_block]; exact Nat.ne_of_lt (Nat.lt_of_lt_of_le (by have := World.block_lt_of_cell? _ _ hw625_1; first | rwa [add_block] at this | exact this) GW634.out)) | (show (Addr.add _ _).block ≠ _; rw [add_block]; exact Nat.ne_of_lt (Nat.lt_of_lt_of_le (by have := World.block_lt_of_cell? _ _ hw625_1; first | rwa [add_block] at this | exact this) GW634.out)) | (dsimp only; exact Nat.ne_of_lt (Nat.lt_of_lt_of_le (by have := World.block_lt_of_cell? _ _ hw625_1; first | rwa [add_block] at this | exact this) GW634.out))) _).trans (((cell_far (p := ⟨gb634, _, none⟩) (by first | exact Nat.ne_of_lt (Nat.lt_of_lt_of_le (by have := World.block_lt_of_cell? _ _ hw625_1; first | rwa [add_block] at this | exact this) GW634.out) | (rw [add_block]; exact Nat.ne_of_lt (Nat.lt_of_lt_of_le (by have := World.block_lt_of_cell? _ _ hw625_1; first | rwa [add_block] at this | exact this) GW634.out)) | (show (Addr.add _ _).block ≠ _; rw [add_block]; exact Nat.ne_of_lt (Nat.lt_of_lt_of_le (by have := World.block_lt_of_cell? _ _ hw625_1; first | rwa [add_block] at this | exact this) GW634.out)) | (dsimp only; exact Nat.ne_of_lt (Nat.lt_of_lt_of_le (by have := World.block_lt_of_cell? _ _ hw625_1; first | rwa [add_block] at this | exact this) GW634.out))) _).trans (hHeld.2.2.2.2.2.2.2.2.2.1)))))))))), ((cell_far (p := ⟨gb634, _, none⟩) (by first | exact Nat.ne_of_lt (Nat.lt_of_lt_of_le (by have := World.block_lt_of_cell? _ _ hw625_2; first | rwa [add_block] at this | exact this) GW634.out) | (rw [add_block]; exact Nat.ne_of_lt (Nat.lt_of_lt_of_le (by have := World.block_lt_of_cell? _ _ hw625_2; first | rwa [add_block] at this | exact this) GW634.out)) | (show (Addr.add _ _).block ≠ _; rw [add_block]; exact Nat.ne_of_lt (Nat.lt_of_lt_of_le (by have := World.block_lt_of_cell? _ _ hw625_2; first | rwa [add_block] at this | exact this) GW634.out)) | (dsimp only; exact Nat.ne_of_lt (Nat.lt_of_lt_of_le (by have := World.block_lt_of_cell? _ _ hw625_2; first | rwa [add_block] at this | exact this) GW634.out))) _).trans (((cell_far (p := ⟨gb634, _, none⟩) (by first | exact Nat.ne_of_lt (Nat.lt_of_lt_of_le (by have := World.block_lt_of_cell? _ _ hw625_2; first | rwa [add_block] at this | exact this) GW634.out) | (rw [add_block]; exact Nat.ne_of_lt (Nat.lt_of_lt_of_le (by have := World.block_lt_of_cell? _ _ hw625_2; first | rwa [add_block] at this | exact this) GW634.out)) | (show (Addr.add _ _).block ≠ _; rw [add_block]; exact Nat.ne_of_lt (Nat.lt_of_lt_of_le (by have := World.block_lt_of_cell? _ _ hw625_2; first | rwa [add_block] at this | exact this) GW634.out)) | (dsimp only; exact Nat.ne_of_lt (Nat.lt_of_lt_of_le (by have := World.block_lt_of_cell? _ _ hw625_2; first | rwa [add_block] at this | exact this) GW634.out))) _).trans (((cell_far (p := ⟨gb634, _, none⟩) (by first | exact Nat.ne_of_lt (Nat.lt_of_lt_of_le (by have := World.block_lt_of_cell? _ _ hw625_2; first | rwa [add_block] at this | exact this) GW634.out) | (rw [add_block]; exact Nat.ne_of_lt (Nat.lt_of_lt_of_le (by have := World.block_lt_of_cell? _ _ hw625_2; first | rwa [add_block] at this | exact this) GW634.out)) | (show (Addr.add _ _).block ≠ _; rw [add_block]; exact Nat.ne_of_lt (Nat.lt_of_lt_of_le (by have := World.block_lt_of_cell? _ _ hw625_2; first | rwa [add_block] at this | exact this) GW634.out)) | (dsimp only; exact Nat.ne_of_lt (Nat.lt_of_lt_of_le (by have := World.block_lt_of_cell? _ _ hw625_2; first | rwa [add_block] at this | exact this) GW634.out))) _).trans (((cell_far (p := ⟨gb634, _, none⟩) (by first | exact Nat.ne_of_lt (Nat.lt_of_lt_of_le (by have := World.block_lt_of_cell? _ _ hw625_2; first | rwa [add_block] at this | exact this) GW634.out) | (rw [add_block]; exact Nat.ne_of_lt (Nat.lt_of_lt_of_le (by have := World.block_lt_of_cell? _ _ hw625_2; first | rwa [add_block] at this | exact this) GW634.out)) | (show (Addr.add _ _).block ≠ _; rw [add_block]; exact Nat.ne_of_lt (Nat.lt_of_lt_of_le (by have := World.block_lt_of_cell? _ _ hw625_2; first | rwa [add_block] at this | exact this) GW634.out)) | (dsimp only; exact Nat.ne_of_lt (Nat.lt_of_lt_of_le (by have := World.block_lt_of_cell? _ _ hw625_2; first | rwa [add_block] at this | exact this) GW634.out))) _).trans (((cell_far (p := ⟨gb634, _, none⟩) (by first | exact Nat.ne_of_lt (Nat.lt_of_lt_of_le (by have := World.block_lt_of_cell? _ _ hw625_2; first | rwa [add_block] at this | exact this) GW634.out) | (rw [add_block]; exact Nat.ne_of_lt (Nat.lt_of_lt_of_le (by have := World.block_lt_of_cell? _ _ hw625_2; first | rwa [add_block] at this | exact this) GW634.out)) | (show (Addr.add _ _).block ≠ _; rw [add_block]; exact Nat.ne_of_lt (Nat.lt_of_lt_of_le (by have := World.block_lt_of_cell? _ _ hw625_2; first | rwa [add_block] at this | exact this) GW634.out)) | (dsimp only; exact Nat.ne_of_lt (Nat.lt_of_lt_of_le (by have := World.block_lt_of_cell? _ _ hw625_2; first | rwa [add_block] at this | exact this) GW634.out))) _).trans (hHeld.2.2.2.2.2.2.2.2.2.2.1)))))))))), ((cell_far (p := ⟨gb634, _, none⟩) (by first | exact Nat.ne_of_lt (Nat.lt_of_lt_of_le (by have := World.block_lt_of_cell? _ _ hw625_3; first | rwa [add_block] at this | exact this) GW634.out) | (rw [add_block]; exact Nat.ne_of_lt (Nat.lt_of_lt_of_le (by have := World.block_lt_of_cell? _ _ hw625_3; first | rwa [add_block] at this | exact this) GW634.out)) | (show (Addr.add _ _).block ≠ _; rw [add_block]; exact Nat.ne_of_lt (Nat.lt_of_lt_of_le (by have := World.block_lt_of_cell? _ _ hw625_3; first | rwa [add_block] at this | exact this) GW634.out)) | (dsimp only; exact Nat.ne_of_lt (Nat.lt_of_lt_of_le (by have := World.block_lt_of_cell? _ _ hw625_3; first | rwa [add_block] at this | exact this) GW634.out))) _).trans (((cell_far (p := ⟨gb634, _, none⟩) (by first | exact Nat.ne_of_lt (Nat.lt_of_lt_of_le (by have := World.block_lt_of_cell? _ _ hw625_3; first | rwa [add_block] at this | exact this) GW634.out) | (rw [add_block]; exact Nat.ne_of_lt (Nat.lt_of_lt_of_le (by have := World.block_lt_of_cell? _ _ hw625_3; first | rwa [add_block] at this | exact this) GW634.out)) | (show (Addr.add _ _).block ≠ _; rw [add_block]; exact Nat.ne_of_lt (Nat.lt_of_lt_of_le (by have := World.block_lt_of_cell? _ _ hw625_3; first | rwa [add_block] at this | exact this) GW634.out)) | (dsimp only; exact Nat.ne_of_lt (Nat.lt_of_lt_of_le (by have := World.block_lt_of_cell? _ _ hw625_3; first | rwa [add_block] at this | exact this) GW634.out))) _).trans (((cell_far (p := ⟨gb634, _, none⟩) (by first | exact Nat.ne_of_lt (Nat.lt_of_lt_of_le (by have := World.block_lt_of_cell? _ _ hw625_3; first | rwa [add_block] at this | exact this) GW634.out) | (rw [add_block]; exact Nat.ne_of_lt (Nat.lt_of_lt_of_le (by have := World.block_lt_of_cell? _ _ hw625_3; first | rwa [add_block] at this | exact this) GW634.out)) | (show (Addr.add _ _).block ≠ _; rw [add_block]; exact Nat.ne_of_lt (Nat.lt_of_lt_of_le (by have := World.block_lt_of_cell? _ _ hw625_3; first | rwa [add_block] at this | exact this) GW634.out)) | (dsimp only; exact Nat.ne_of_lt (Nat.lt_of_lt_of_le (by have := World.block_lt_of_cell? _ _ hw625_3; first | rwa [add_block] at this | exact this) GW634.out))) _).trans (((cell_far (p := ⟨gb634, _, none⟩) (by first | exact Nat.ne_of_lt (Nat.lt_of_lt_of_le (by have := World.block_lt_of_cell? _ _ hw625_3; first | rwa [add_block] at this | exact this) GW634.out) | (rw [add_block]; exact Nat.ne_of_lt (Nat.lt_of_lt_of_le (by have := World.block_lt_of_cell? _ _ hw625_3; first | rwa [add_block] at this | exact this) GW634.out)) | (show (Addr.add _ _).block ≠ _; rw [add_block]; exact Nat.ne_of_lt (Nat.lt_of_lt_of_le (by have := World.block_lt_of_cell? _ _ hw625_3; first | rwa [add_block] at this | exact this) GW634.out)) | (dsimp only; exact Nat.ne_of_lt (Nat.lt_of_lt_of_le (by have := World.block_lt_of_cell? _ _ hw625_3; first | rwa [add_block] at this | exact this) GW634.out))) _).trans (((cell_far (p := ⟨gb634, _, none⟩) (by first | exact Nat.ne_of_lt (Nat.lt_of_lt_of_le (by have := World.block_lt_of_cell? _ _ hw625_3; first | rwa [add_block] at this | exact this) GW634.out) | (rw [add_block]; exact Nat.ne_of_lt (Nat.lt_of_lt_of_le (by have := World.block_lt_of_cell? _ _ hw625_3; first | rwa [add_block] at this | exact this) GW634.out)) | (show (Addr.add _ _).block ≠ _; rw [add_block]; exact Nat.ne_of_lt (Nat.lt_of_lt_of_le (by have := World.block_lt_of_cell? _ _ hw625_3; first | rwa [add_block] at this | exact this) GW634.out)) | (dsimp only; exact Nat.ne_of_lt (Nat.lt_of_lt_of_le (by have := World.block_lt_of_cell? _ _ hw625_3; first | rwa [add_block] at this | exact this) GW634.out))) _).trans (hHeld.2.2.2.2.2.2.2.2.2.2.2))))))))))⟩ (fun hHeld => ?_)
              clear hK K
              refine pure_ (i := 14) (N := some 12) (v := ?_) (a' := ?_) #[true, true, true, true, true, true, true, true, true, true, true, true, true, true, true, false, false] rfl rfl (any_of HT_.out (by kernel_rfl)) (fun _ _ _ h => h) (Or.inl ⟨by rfl, ?_⟩) ?_ ?_
              rotate_left
              ·intro w'
               go_simp
               with_reducible rfl
              rotate_left
              ·simp only [Act.put, List.setIfInBounds_toArray, List.set_cons_zero, List.set_cons_succ, i64_w, i32_w]
               rfl
              refine pure_ (i := 15) (N := some 13) (v := ?_) (a' := ?_) #[true, true, true, true, true, true, true, true, true, true, true, true, true, true, true, true, false] rfl rfl (any_of HT_.out (by kernel_rfl)) (fun _ _ _ h => h) (Or.inl ⟨by rfl, ?_⟩) ?_ ?_
              rotate_left
              ·intro w'
               go_simp
               with_reducible rfl
              rotate_left
              ·simp only [Act.put, List.setIfInBounds_toArray, List.set_cons_zero, List.set_cons_succ, i64_w, i32_w]
               rfl
              refine pure_ (i := 16) (N := some 14) (v := ?_) (a' := ?_) #[true, true, true, true, true, true, true, true, true, true, true, true, true, true, true, true, true] rfl rfl (any_of HT_.out (by kernel_rfl)) (fun _ _ _ h => h) (Or.inl ⟨by rfl, ?_⟩) ?_ ?_
              rotate_left
              ·intro w'
               go_simp
               with_reducible rfl
              rotate_left
              ·simp only [Act.put, List.setIfInBounds_toArray, List.set_cons_zero, List.set_cons_succ, i64_w, i32_w]
               rfl
              refine done_ (done_of HT_.out (by kernel_rfl)) ?_
              obtain ⟨Ao46, co46, eo46⟩ := Kd.R_slice HO_7.out
              subst eo46
              have p635 : 0 ≤ (x10_3 : Int) := of_decide_eq_true (by first | (with_reducible assumption) | assumption)
              have q635 : x10_3 < (t619.length : Int) := of_decide_eq_true (by first | (with_reducible assumption) | assumption)
              obtain ⟨ad635, e635, hx635_0⟩ := Kd.at_int (Kd.R_reads' HO_7.out).2.2 x10_3 p635 q635
              cases e635
              have hn635_0 : ad635.block ≠ gb634 := Kd.own_blk (Kd.R_ne HO_7.out BK634.out (by decide))
              have hn635_1 : ad635.block ≠ gb634 := Kd.own_blk (Kd.R_ne HO_7.out BK634.out (by decide))
              have hn635_2 : ad635.block ≠ gb634 := Kd.own_blk (Kd.R_ne HO_7.out BK634.out (by decide))
              have hn635_3 : ad635.block ≠ gb634 := Kd.own_blk (Kd.R_ne HO_7.out BK634.out (by decide))
              have hn635_4 : ad635.block ≠ gb634 := Kd.own_blk (Kd.R_ne HO_7.out BK634.out (by decide))
              replace hx635_0 := (cell_far (p := ⟨gb634, 0, none⟩) (by first | (rw [add_block]; exact hn635_0) | (show (Addr.add _ _).block ≠ _; rw [add_block]; exact hn635_0) | exact hn635_0) (.int .i64 t626)).trans hx635_0
              replace hx635_0 := (cell_far (p := ⟨gb634, 1, none⟩) (by first | (rw [add_block]; exact hn635_1) | (show (Addr.add _ _).block ≠ _; rw [add_block]; exact hn635_1) | exact hn635_1) (.int .i64 t627)).trans hx635_0
              replace hx635_0 := (cell_far (p := ⟨gb634, 2, none⟩) (by first | (rw [add_block]; exact hn635_2) | (show (Addr.add _ _).block ≠ _; rw [add_block]; exact hn635_2) | exact hn635_2) (.int .i64 t628)).trans hx635_0
              replace hx635_0 := (cell_far (p := ⟨gb634, 3, none⟩) (by first | (rw [add_block]; exact hn635_3) | (show (Addr.add _ _).block ≠ _; rw [add_block]; exact hn635_3) | exact hn635_3) (.int .i64 t629)).trans hx635_0
              replace hx635_0 := (cell_far (p := ⟨gb634, 4, none⟩) (by first | (rw [add_block]; exact hn635_4) | (show (Addr.add _ _).block ≠ _; rw [add_block]; exact hn635_4) | exact hn635_4) (.bool t630)).trans hx635_0
              clear hn635_0
              clear hn635_1
              clear hn635_2
              clear hn635_3
              clear hn635_4
              replace p635 := eq_true p635
              replace q635 := eq_true q635
              have hnb47 := NB634_611.out
              have hnc47 := NB611_634.out
              have hnb48 := NB634_623.out
              have hnc48 := NB623_634.out
              have hnb49 := NB634_624.out
              have hnc49 := NB624_634.out
              have hcz50_0 : w40.cell? ⟨gb634, 0, none⟩ = some (.int .i64 0) := (blk_cell BK634.out 0).trans rfl
              have hcz50_1 : w40.cell? ⟨gb634, 1, none⟩ = some (.int .i64 0) := (blk_cell BK634.out 1).trans rfl
              have hcz50_2 : w40.cell? ⟨gb634, 2, none⟩ = some (.int .i64 0) := (blk_cell BK634.out 2).trans rfl
              have hcz50_3 : w40.cell? ⟨gb634, 3, none⟩ = some (.int .i64 0) := (blk_cell BK634.out 3).trans rfl
              have hcz50_4 : w40.cell? ⟨gb634, 4, none⟩ = some (.bool false) := (blk_cell BK634.out 4).trans rfl
              have hfz50_0 := blk_frozen BK634.out 0
              have hfz50_1 := blk_frozen BK634.out 1
              have hfz50_2 := blk_frozen BK634.out 2
              have hfz50_3 := blk_frozen BK634.out 3
              have hfz50_4 := blk_frozen BK634.out 4
              have hnb51 := NB624_611.out
              have hnc51 := NB611_624.out
              have hnb52 := NB624_623.out
              have hnc52 := NB623_624.out
              have hcz53_0 : w40.cell? ⟨gb624, 0, none⟩ = some (.int .i64 x625000_3) := (blk_cell BK624.out 0).trans rfl
              have hcz53_1 : w40.cell? ⟨gb624, 1, none⟩ = some (.int .i64 x625001_3) := (blk_cell BK624.out 1).trans rfl
              have hcz53_2 : w40.cell? ⟨gb624, 2, none⟩ = some (.int .i64 x625002_3) := (blk_cell BK624.out 2).trans rfl
              have hcz53_3 : w40.cell? ⟨gb624, 3, none⟩ = some (.int .i64 x625003_3) := (blk_cell BK624.out 3).trans rfl
              have hcz53_4 : w40.cell? ⟨gb624, 4, none⟩ = some (.bool x625004_3) := (blk_cell BK624.out 4).trans rfl
              have hfz53_0 := blk_frozen BK624.out 0
              have hfz53_1 := blk_frozen BK624.out 1
              have hfz53_2 := blk_frozen BK624.out 2
              have hfz53_3 := blk_frozen BK624.out 3
              have hfz53_4 := blk_frozen BK624.out 4
              try go_wp2
              go_roundg k3
              case measure => have := HJ3.out; have := HJ14.out; have := HK3.out; omega
              case rel => exact ⟨(wrap64 (x10_3 + 1)), (t626), (t627), (t628), (t629), (t630), (by first | rfl | (simp; done) | (simp [*]; done)), H', ⟨by have := HJ3.out; have := HJ14.out; have := HK3.out; omega⟩, ⟨by (with_reducible repeat (first | apply Kd.R_alloc | apply Kd.R_drewN | apply Kd.R_drew)); exact Kd.R_mono (Kd.R_far (p := ⟨gb624, 4, none⟩) (Kd.R_far (p := ⟨gb624, 3, none⟩) (Kd.R_far (p := ⟨gb624, 2, none⟩) (Kd.R_far (p := ⟨gb624, 1, none⟩) (Kd.R_far (p := ⟨gb624, 0, none⟩) (Kd.R_far (p := ⟨gb634, 4, none⟩) (Kd.R_far (p := ⟨gb634, 3, none⟩) (Kd.R_far (p := ⟨gb634, 2, none⟩) (Kd.R_far (p := ⟨gb634, 1, none⟩) (Kd.R_far (p := ⟨gb634, 0, none⟩) (Kd.R_types (Kd.R_types HO_7.out BK634.out (by decide)) BK624.out (by decide)) (fun _ hk => hk.1.2) (.int .i64 t626)) (fun _ hk => hk.1.2) (.int .i64 t627)) (fun _ hk => hk.1.2) (.int .i64 t628)) (fun _ hk => hk.1.2) (.int .i64 t629)) (fun _ hk => hk.1.2) (.bool t630)) (fun _ hk => hk.2) (.int .i64 t626)) (fun _ hk => hk.2) (.int .i64 t627)) (fun _ hk => hk.2) (.int .i64 t628)) (fun _ hk => hk.2) (.int .i64 t629)) (fun _ hk => hk.2) (.bool t630)) (fun _ hk => trivial)⟩, ⟨by (with_reducible repeat (first | refine blk_drewN ?_ _ | refine blk_drew ?_ | refine blk_alloc ?_ _)); refine blk_far ?_ NB611_624.out _; (with_reducible repeat (first | refine blk_drewN ?_ _ | refine blk_drew ?_ | refine blk_alloc ?_ _)); refine blk_far ?_ NB611_624.out _; (with_reducible repeat (first | refine blk_drewN ?_ _ | refine blk_drew ?_ | refine blk_alloc ?_ _)); refine blk_far ?_ NB611_624.out _; (with_reducible repeat (first | refine blk_drewN ?_ _ | refine blk_drew ?_ | refine blk_alloc ?_ _)); refine blk_far ?_ NB611_624.out _; (with_reducible repeat (first | refine blk_drewN ?_ _ | refine blk_drew ?_ | refine blk_alloc ?_ _)); refine blk_far ?_ NB611_624.out _; (with_reducible repeat (first | refine blk_drewN ?_ _ | refine blk_drew ?_ | refine blk_alloc ?_ _)); refine blk_far ?_ NB611_634.out _; (with_reducible repeat (first | refine blk_drewN ?_ _ | refine blk_drew ?_ | refine blk_alloc ?_ _)); refine blk_far ?_ NB611_634.out _; (with_reducible repeat (first | refine blk_drewN ?_ _ | refine blk_drew ?_ | refine blk_alloc ?_ _)); refine blk_far ?_ NB611_634.out _; (with_reducible repeat (first | refine blk_drewN ?_ _ | refine blk_drew ?_ | refine blk_alloc ?_ _)); refine blk_far ?_ NB611_634.out _; (with_reducible repeat (first | refine blk_drewN ?_ _ | refine blk_drew ?_ | refine blk_alloc ?_ _)); refine blk_far ?_ NB611_634.out _; (with_reducible repeat (first | refine blk_drewN ?_ _ | refine blk_drew ?_ | refine blk_alloc ?_ _)); exact BK611.out⟩, ⟨by (with_reducible repeat (first | refine blk_drewN ?_ _ | refine blk_drew ?_ | refine blk_alloc ?_ _)); refine blk_far ?_ NB623_624.out _; (with_reducible repeat (first | refine blk_drewN ?_ _ | refine blk_drew ?_ | refine blk_alloc ?_ _)); refine blk_far ?_ NB623_624.out _; (with_reducible repeat (first | refine blk_drewN ?_ _ | refine blk_drew ?_ | refine blk_alloc ?_ _)); refine blk_far ?_ NB623_624.out _; (with_reducible repeat (first | refine blk_drewN ?_ _ | refine blk_drew ?_ | refine blk_alloc ?_ _)); refine blk_far ?_ NB623_624.out _; (with_reducible repeat (first | refine blk_drewN ?_ _ | refine blk_drew ?_ | refine blk_alloc ?_ _)); refine blk_far ?_ NB623_624.out _; (with_reducible repeat (first | refine blk_drewN ?_ _ | refine blk_drew ?_ | refine blk_alloc ?_ _)); refine blk_far ?_ NB623_634.out _; (with_reducible repeat (first | refine blk_drewN ?_ _ | refine blk_drew ?_ | refine blk_alloc ?_ _)); refine blk_far ?_ NB623_634.out _; (with_reducible repeat (first | refine blk_drewN ?_ _ | refine blk_drew ?_ | refine blk_alloc ?_ _)); refine blk_far ?_ NB623_634.out _; (with_reducible repeat (first | refine blk_drewN ?_ _ | refine blk_drew ?_ | refine blk_alloc ?_ _)); refine blk_far ?_ NB623_634.out _; (with_reducible repeat (first | refine blk_drewN ?_ _ | refine blk_drew ?_ | refine blk_alloc ?_ _)); refine blk_far ?_ NB623_634.out _; (with_reducible repeat (first | refine blk_drewN ?_ _ | refine blk_drew ?_ | refine blk_alloc ?_ _)); exact BK623.out⟩, ⟨by (with_reducible repeat (first | refine blk_drewN ?_ _ | refine blk_drew ?_ | refine blk_alloc ?_ _)); refine blk_put (cs := #[.int .i64 t626, .int .i64 t627, .int .i64 t628, .int .i64 t629, .bool x625004_3]) ?_ 4 _ rfl; (with_reducible repeat (first | refine blk_drewN ?_ _ | refine blk_drew ?_ | refine blk_alloc ?_ _)); refine blk_put (cs := #[.int .i64 t626, .int .i64 t627, .int .i64 t628, .int .i64 x625003_3, .bool x625004_3]) ?_ 3 _ rfl; (with_reducible repeat (first | refine blk_drewN ?_ _ | refine blk_drew ?_ | refine blk_alloc ?_ _)); refine blk_put (cs := #[.int .i64 t626, .int .i64 t627, .int .i64 x625002_3, .int .i64 x625003_3, .bool x625004_3]) ?_ 2 _ rfl; (with_reducible repeat (first | refine blk_drewN ?_ _ | refine blk_drew ?_ | refine blk_alloc ?_ _)); refine blk_put (cs := #[.int .i64 t626, .int .i64 x625001_3, .int .i64 x625002_3, .int .i64 x625003_3, .bool x625004_3]) ?_ 1 _ rfl; (with_reducible repeat (first | refine blk_drewN ?_ _ | refine blk_drew ?_ | refine blk_alloc ?_ _)); refine blk_put (cs := #[.int .i64 x625000_3, .int .i64 x625001_3, .int .i64 x625002_3, .int .i64 x625003_3, .bool x625004_3]) ?_ 0 _ rfl; (with_reducible repeat (first | refine blk_drewN ?_ _ | refine blk_drew ?_ | refine blk_alloc ?_ _)); refine blk_far ?_ NB624_634.out _; (with_reducible repeat (first | refine blk_drewN ?_ _ | refine blk_drew ?_ | refine blk_alloc ?_ _)); refine blk_far ?_ NB624_634.out _; (with_reducible repeat (first | refine blk_drewN ?_ _ | refine blk_drew ?_ | refine blk_alloc ?_ _)); refine blk_far ?_ NB624_634.out _; (with_reducible repeat (first | refine blk_drewN ?_ _ | refine blk_drew ?_ | refine blk_alloc ?_ _)); refine blk_far ?_ NB624_634.out _; (with_reducible repeat (first | refine blk_drewN ?_ _ | refine blk_drew ?_ | refine blk_alloc ?_ _)); refine blk_far ?_ NB624_634.out _; (with_reducible repeat (first | refine blk_drewN ?_ _ | refine blk_drew ?_ | refine blk_alloc ?_ _)); exact BK624.out⟩, ⟨by repeat (first | (with_reducible first | exact HB.out | apply below_alloc | apply pw_below_drewN | apply below_drew1 | refine below_set ?_ GE611.out | refine below_set ?_ GE623.out | refine below_set ?_ GE624.out | refine below_set ?_ GE634.out) | exact HB.out)⟩⟩
             ·rw [if_neg c36] at H
              have c36b0 : (t631 == (rd t619 x10_3)) = false := beq_eq_false_iff_ne.mpr c36
              have c36b1 : (t631 != (rd t619 x10_3)) = true := bne_iff_ne.mpr c36
              exact absurd ((Option.some.inj H).trans HTr.out) (by decide)
            ·rw [if_neg c35] at H
             exact absurd H (by simp)
           ·rw [if_neg c34] at H
            have c34b0 : (t633 == 0) = false := beq_eq_false_iff_ne.mpr c34
            have c34b1 : (t633 != 0) = true := bne_iff_ne.mpr c34
            exact absurd ((Option.some.inj H).trans HTr.out) (by decide)
          ·rw [if_neg c32] at H
           exact absurd H (by simp)
         ·rw [if_neg c31] at H
          have c31b0 : decide (x10_3 < (l1.length : Int)) = false := decide_eq_false c31
          clear c31
          by_cases c54 : t612 = true
          ·subst c54
           have H1 : (some (t614 == x625000_3 && (t615 == x625001_3 && (t616 == x625002_3 && (t617 == x625003_3 && (t618 == x625004_3)))))) = some r := by rw [if_pos rfl] at H; exact H
           clear H
           have H := H1
           clear H1
           obtain rfl := Option.some.inj H
           have hnb55 := NB623_611.out
           have hnc55 := NB611_623.out
           have hnb56 := NB623_624.out
           have hnc56 := NB624_623.out
           have hcz57_0 : wr.cell? ⟨gb623, 0, none⟩ = some (.int .i64 t614) := (blk_cell BK623.out 0).trans rfl
           have hcz57_1 : wr.cell? ⟨gb623, 1, none⟩ = some (.int .i64 t615) := (blk_cell BK623.out 1).trans rfl
           have hcz57_2 : wr.cell? ⟨gb623, 2, none⟩ = some (.int .i64 t616) := (blk_cell BK623.out 2).trans rfl
           have hcz57_3 : wr.cell? ⟨gb623, 3, none⟩ = some (.int .i64 t617) := (blk_cell BK623.out 3).trans rfl
           have hcz57_4 : wr.cell? ⟨gb623, 4, none⟩ = some (.bool t618) := (blk_cell BK623.out 4).trans rfl
           have hfz57_0 := blk_frozen BK623.out 0
           have hfz57_1 := blk_frozen BK623.out 1
           have hfz57_2 := blk_frozen BK623.out 2
           have hfz57_3 := blk_frozen BK623.out 3
           have hfz57_4 := blk_frozen BK623.out 4
           have hnb58 := NB624_611.out
           have hnc58 := NB611_624.out
           have hcz59_0 : wr.cell? ⟨gb624, 0, none⟩ = some (.int .i64 x625000_3) := (blk_cell BK624.out 0).trans rfl
           have hcz59_1 : wr.cell? ⟨gb624, 1, none⟩ = some (.int .i64 x625001_3) := (blk_cell BK624.out 1).trans rfl
           have hcz59_2 : wr.cell? ⟨gb624, 2, none⟩ = some (.int .i64 x625002_3) := (blk_cell BK624.out 2).trans rfl
           have hcz59_3 : wr.cell? ⟨gb624, 3, none⟩ = some (.int .i64 x625003_3) := (blk_cell BK624.out 3).trans rfl
           have hcz59_4 : wr.cell? ⟨gb624, 4, none⟩ = some (.bool x625004_3) := (blk_cell BK624.out 4).trans rfl
           have hfz59_0 := blk_frozen BK624.out 0
           have hfz59_1 := blk_frozen BK624.out 1
           have hfz59_2 := blk_frozen BK624.out 2
           have hfz59_3 := blk_frozen BK624.out 3
           have hfz59_4 := blk_frozen BK624.out 4
           go_wp2
           go_ret
           exact ⟨by first | rfl | (simp [errW_none, errW_some] <;> rfl) | (simp [*, errW_none, errW_some] <;> rfl), by repeat (first | (with_reducible first | exact HB.out | apply below_alloc | apply pw_below_drewN | apply below_drew1 | refine below_set ?_ GE611.out | refine below_set ?_ GE623.out | refine below_set ?_ GE624.out) | exact HB.out)⟩
          ·replace c54 := Bool.eq_false_iff.mpr c54
           subst c54
           have H1 : (some false) = some r := by rw [if_neg (show ¬ (false = true) by decide)] at H; exact H
           clear H
           have H := H1
           clear H1
           exact absurd ((Option.some.inj H).trans HTr.out) (by decide)
end Go.Proofs.Ytjpghfjaloglhaa.PContract

