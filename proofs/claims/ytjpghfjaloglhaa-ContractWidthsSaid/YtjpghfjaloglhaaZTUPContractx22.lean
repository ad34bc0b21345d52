import Derived.Test.YtjpghfjaloglhaaZTUPContractx0
import Derived.Test.YtjpghfjaloglhaaZTUPContractx8
import Derived.Test.YtjpghfjaloglhaaZTUPContractx9
import Derived.Test.YtjpghfjaloglhaaZTUEContractHead38
import Derived.Test.YtjpghfjaloglhaaZTUEContractValues
namespace Go.Proofs.Ytjpghfjaloglhaa.PContract
open Go.RowKit Go.Proofs.YtjpghfjaloglhaaW.PrintWords Go.Proofs.YtjpghfjaloglhaaW.PrintLast Go.Proofs.YtjpghfjaloglhaaW.PrintMore
attribute [local go_sem] max2_int min2_int max_two min_two max_three min_three max_four min_four   -- for this text's walks alone
set_option linter.unusedVariables false
set_option linter.unusedSimpArgs false
def formelaw38_ContractWidths.f (k : Nat) (a0_0 : Int) (a0_1 : Int) (l0_2 : List (S61)) (a1 : Int) : Option (Bool) := (formelaw38_head.f).bind fun t601 => ((formeref38_Few.f k a0_0 a0_1 l0_2).bind fun t602 => (if t602 = true then ((contract_Promised.f a0_0 a0_1 l0_2 a1).bind fun bt603 => (if bt603.2 = 0 then ((curve_Values.f l0_2).bind fun bt605 => (if bt605.2 = 0 then (if (bt605.1.length : Int) = 0 then (some false) else (if (l0_2.length : Int) = 0 then (some false) else (if 0 < (l0_2.length : Int) then (if t601 = true then (if 0 ≤ (mn (mx (wrap64 (a1 - ((rd_T61 l0_2 0).f0))) 0) (wrap64 ((bt605.1.length : Int) - 1))) then (if (mn (mx (wrap64 (a1 - ((rd_T61 l0_2 0).f0))) 0) (wrap64 ((bt605.1.length : Int) - 1))) < (bt605.1.length : Int) then (if bt603.1 = (rd bt605.1 (mn (mx (wrap64 (a1 - ((rd_T61 l0_2 0).f0))) 0) (wrap64 ((bt605.1.length : Int) - 1)))) then (some (decide (bt603.1 ≥ 0))) else (some false)) else (none)) else (none)) else (some false)) else (none)))) else (some false))) else (if t601 = true then (if bt603.2 = 1 then (some (bt603.1 == 0)) else (some false)) else (some false)))) else (some t601)))
theorem formelaw38_ContractWidths.mono : ∀ a0 a1 a2 a3 k, LeO (formelaw38_ContractWidths.f k a0 a1 a2 a3) (formelaw38_ContractWidths.f (k + 1) a0 a1 a2 a3) := by
 intro a0 a1 a2 a3 k
 unfold formelaw38_ContractWidths.f
 repeat' first
   | (with_reducible exact formeref38_Few.mono _ _ _ _)
   | (with_reducible exact LeO.refl _)
   | (with_reducible exact LeO.none _)
   | (with_reducible refine LeO.ite ?_ ?_)
   | (with_reducible refine LeO.bind ?_ (fun _ => ?_))
   | exact formeref38_Few.mono _ _ _ _
   | exact LeO.none _
   | refine LeO.ite ?_ ?_
   | refine LeO.bind ?_ (fun _ => ?_)
set_option maxHeartbeats 8000000 in
set_option maxRecDepth 100000 in
theorem formelaw38_ContractWidths.calls (k : Nat) (a0_0 : Int) (a0_1 : Int) (A0_2 : Option Addr) (c0_2 : Nat) (l0_2 : List (S61)) (a1 : Int) (r : Bool) (w : World) (hr0_2 : Kd.C k61 w A0_2 l0_2.length l0_2) (hc0_2 : l0_2.length ≤ c0_2) (h : formelaw38_ContractWidths.f k a0_0 a0_1 l0_2 a1 = some r) (hTr : r = true := by first | rfl | exact Aside0.out (by assumption)) :
  Calls Try.prog 21 #[.agg #[.int .i64 a0_0, .int .i64 a0_1, .slice A0_2 l0_2.length c0_2], .int .i64 a1] w fun e w' => e = .returned (.bool r) ∧ Below w.heap.size w w' := by
 have HTr := Aside0.mk hTr
 clear hTr
 have hu69 := Try.underlying69
 have HR0_2 := Aside0.mk hr0_2
 have HC0_2 := Aside0.mk hc0_2
 clear hr0_2 hc0_2
 have HB := Aside0.mk (Below.refl w.heap.size w)
 have H : ((formelaw38_head.f).bind fun t601 => ((formeref38_Few.f k a0_0 a0_1 l0_2).bind fun t602 => (if t602 = true then ((contract_Promised.f a0_0 a0_1 l0_2 a1).bind fun bt603 => (if bt603.2 = 0 then ((curve_Values.f l0_2).bind fun bt605 => (if bt605.2 = 0 then (if (bt605.1.length : Int) = 0 then (some false) else (if (l0_2.length : Int) = 0 then (some false) else (if 0 < (l0_2.length : Int) then (if t601 = true then (if 0 ≤ (mn (mx (wrap64 (a1 - ((rd_T61 l0_2 0).f0))) 0) (wrap64 ((bt605.1.length : Int) - 1))) then (if (mn (mx (wrap64 (a1 - ((rd_T61 l0_2 0).f0))) 0) (wrap64 ((bt605.1.length : Int) - 1))) < (bt605.1.length : Int) then (if bt603.1 = (rd bt605.1 (mn (mx (wrap64 (a1 - ((rd_T61 l0_2 0).f0))) 0) (wrap64 ((bt605.1.length : Int) - 1)))) then (some (decide (bt603.1 ≥ 0))) else (some false)) else (none)) else (none)) else (some false)) else (none)))) else (some false))) else (if t601 = true then (if bt603.2 = 1 then (some (bt603.1 == 0)) else (some false)) else (some false)))) else (some t601)))) = some r := h
 clear h
 replace H := Option.bind_eq_some_iff.mp H
 obtain ⟨t601, A30, H⟩ := H
 replace H : ((formeref38_Few.f k a0_0 a0_1 l0_2).bind fun t602 => (if t602 = true then ((contract_Promised.f a0_0 a0_1 l0_2 a1).bind fun bt603 => (if bt603.2 = 0 then ((curve_Values.f l0_2).bind fun bt605 => (if bt605.2 = 0 then (if (bt605.1.length : Int) = 0 then (some false) else (if (l0_2.length : Int) = 0 then (some false) else (if 0 < (l0_2.length : Int) then (if t601 = true then (if 0 ≤ (mn (mx (wrap64 (a1 - ((rd_T61 l0_2 0).f0))) 0) (wrap64 ((bt605.1.length : Int) - 1))) then (if (mn (mx (wrap64 (a1 - ((rd_T61 l0_2 0).f0))) 0) (wrap64 ((bt605.1.length : Int) - 1))) < (bt605.1.length : Int) then (if bt603.1 = (rd bt605.1 (mn (mx (wrap64 (a1 - ((rd_T61 l0_2 0).f0))) 0) (wrap64 ((bt605.1.length : Int) - 1)))) then (some (decide (bt603.1 ≥ 0))) else (some false)) else (none)) else (none)) else (some false)) else (none)))) else (some false))) else (if t601 = true then (if bt603.2 = 1 then (some (bt603.1 == 0)) else (some false)) else (some false)))) else (some t601))) = some r := H
 have A3 := Aside0.mk A30
 clear A30
 replace H := Option.bind_eq_some_iff.mp H
 obtain ⟨t602, A40, H⟩ := H
 replace H : (if t602 = true then ((contract_Promised.f a0_0 a0_1 l0_2 a1).bind fun bt603 => (if bt603.2 = 0 then ((curve_Values.f l0_2).bind fun bt605 => (if bt605.2 = 0 then (if (bt605.1.length : Int) = 0 then (some false) else (if (l0_2.length : Int) = 0 then (some false) else (if 0 < (l0_2.length : Int) then (if t601 = true then (if 0 ≤ (mn (mx (wrap64 (a1 - ((rd_T61 l0_2 0).f0))) 0) (wrap64 ((bt605.1.length : Int) - 1))) then (if (mn (mx (wrap64 (a1 - ((rd_T61 l0_2 0).f0))) 0) (wrap64 ((bt605.1.length : Int) - 1))) < (bt605.1.length : Int) then (if bt603.1 = (rd bt605.1 (mn (mx (wrap64 (a1 - ((rd_T61 l0_2 0).f0))) 0) (wrap64 ((bt605.1.length : Int) - 1)))) then (some (decide (bt603.1 ≥ 0))) else (some false)) else (none)) else (none)) else (some false)) else (none)))) else (some false))) else (if t601 = true then (if bt603.2 = 1 then (some (bt603.1 == 0)) else (some false)) else (some false)))) else (some t601)) = some r := H
 have A4 := Aside0.mk A40
 clear A40
 by_cases c5 : t602 = true
 ·subst c5
  have H1 : ((contract_Promised.f a0_0 a0_1 l0_2 a1).bind fun bt603 => (if bt603.2 = 0 then ((curve_Values.f l0_2).bind fun bt605 => (if bt605.2 = 0 then (if (bt605.1.length : Int) = 0 then (some false) else (if (l0_2.length : Int) = 0 then (some false) else (if 0 < (l0_2.length : Int) then (if t601 = true then (if 0 ≤ (mn (mx (wrap64 (a1 - ((rd_T61 l0_2 0).f0))) 0) (wrap64 ((bt605.1.length : Int) - 1))) then (if (mn (mx (wrap64 (a1 - ((rd_T61 l0_2 0).f0))) 0) (wrap64 ((bt605.1.length : Int) - 1))) < (bt605.1.length : Int) then (if bt603.1 = (rd bt605.1 (mn (mx (wrap64 (a1 - ((rd_T61 l0_2 0).f0))) 0) (wrap64 ((bt605.1.length : Int) - 1)))) then (some (decide (bt603.1 ≥ 0))) else (some false)) else (none)) else (none)) else (some false)) else (none)))) else (some false))) else (if t601 = true then (if bt603.2 = 1 then (some (bt603.1 == 0)) else (some false)) else (some false)))) = some r := by rw [if_pos rfl] at H; exact H
  clear H
  have H := H1
  clear H1
  replace H := Option.bind_eq_some_iff.mp H
  obtain ⟨⟨t603, t604⟩, A60, H⟩ := H
  replace H : (if t604 = 0 then ((curve_Values.f l0_2).bind fun bt605 => (if bt605.2 = 0 then (if (bt605.1.length : Int) = 0 then (some false) else (if (l0_2.length : Int) = 0 then (some false) else (if 0 < (l0_2.length : Int) then (if t601 = true then (if 0 ≤ (mn (mx (wrap64 (a1 - ((rd_T61 l0_2 0).f0))) 0) (wrap64 ((bt605.1.length : Int) - 1))) then (if (mn (mx (wrap64 (a1 - ((rd_T61 l0_2 0).f0))) 0) (wrap64 ((bt605.1.length : Int) - 1))) < (bt605.1.length : Int) then (if t603 = (rd bt605.1 (mn (mx (wrap64 (a1 - ((rd_T61 l0_2 0).f0))) 0) (wrap64 ((bt605.1.length : Int) - 1)))) then (some (decide (t603 ≥ 0))) else (some false)) else (none)) else (none)) else (some false)) else (none)))) else (some false))) else (if t601 = true then (if t604 = 1 then (some (t603 == 0)) else (some false)) else (some false))) = some r := H
  have A6 := Aside0.mk A60
  clear A60
  by_cases c7 : t604 = 0
  ·rw [if_pos c7] at H
   have c7b0 : (t604 == 0) = true := beq_iff_eq.mpr c7
   have c7b1 : (t604 != 0) = false := bne_eq_false_iff_eq.mpr c7
   clear c7
   replace H := Option.bind_eq_some_iff.mp H
   obtain ⟨⟨t605, t606⟩, A80, H⟩ := H
   replace H : (if t606 = 0 then (if (t605.length : Int) = 0 then (some false) else (if (l0_2.length : Int) = 0 then (some false) else (if 0 < (l0_2.length : Int) then (if t601 = true then (if 0 ≤ (mn (mx (wrap64 (a1 - ((rd_T61 l0_2 0).f0))) 0) (wrap64 ((t605.length : Int) - 1))) then (if (mn (mx (wrap64 (a1 - ((rd_T61 l0_2 0).f0))) 0) (wrap64 ((t605.length : Int) - 1))) < (t605.length : Int) then (if t603 = (rd t605 (mn (mx (wrap64 (a1 - ((rd_T61 l0_2 0).f0))) 0) (wrap64 ((t605.length : Int) - 1)))) then (some (decide (t603 ≥ 0))) else (some false)) else (none)) else (none)) else (some false)) else (none)))) else (some false)) = some r := H
   have A8 := Aside0.mk A80
   clear A80
   by_cases c9 : t606 = 0
   ·rw [if_pos c9] at H
    have c9b0 : (t606 == 0) = true := beq_iff_eq.mpr c9
    have c9b1 : (t606 != 0) = false := bne_eq_false_iff_eq.mpr c9
    clear c9
    by_cases c10 : (t605.length : Int) = 0
    ·rw [if_pos c10] at H
     have c10b0 : ((t605.length : Int) == 0) = true := beq_iff_eq.mpr c10
     have c10b1 : ((t605.length : Int) != 0) = false := bne_eq_false_iff_eq.mpr c10
     clear c10
     exact absurd ((Option.some.inj H).trans HTr.out) (by decide)
    ·rw [if_neg c10] at H
     have c10b0 : ((t605.length : Int) == 0) = false := beq_eq_false_iff_ne.mpr c10
     have c10b1 : ((t605.length : Int) != 0) = true := bne_iff_ne.mpr c10
     have c10b2 : ¬ (t605 = []) := fun h_ => c10 (by rw [h_]; rfl)
     by_cases c11 : (l0_2.length : Int) = 0
     ·rw [if_pos c11] at H
      have c11b0 : ((l0_2.length : Int) == 0) = true := beq_iff_eq.mpr c11
      have c11b1 : ((l0_2.length : Int) != 0) = false := bne_eq_false_iff_eq.mpr c11
      clear c11
      exact absurd ((Option.some.inj H).trans HTr.out) (by decide)
     ·rw [if_neg c11] at H
      have c11b0 : ((l0_2.length : Int) == 0) = false := beq_eq_false_iff_ne.mpr c11
      have c11b1 : ((l0_2.length : Int) != 0) = true := bne_iff_ne.mpr c11
      have c11b2 : ¬ (l0_2 = []) := fun h_ => c11 (by rw [h_]; rfl)
      by_cases c12 : 0 < (l0_2.length : Int)
      ·rw [if_pos c12] at H
       have c12b0 : decide (0 < (l0_2.length : Int)) = true := decide_eq_true c12
       have c12b1 : decide (0 < l0_2.length) = true := decide_eq_true (by omega)
       clear c12
       obtain ⟨ji13, hji13⟩ : ∃ j_ : Int, (mx (wrap64 (a1 - ((rd_T61 l0_2 0).f0))) 0) = j_ := ⟨_, rfl⟩
       replace H : (if t601 = true then (if 0 ≤ (mn (ji13) (wrap64 ((t605.length : Int) - 1))) then (if (mn (ji13) (wrap64 ((t605.length : Int) - 1))) < (t605.length : Int) then (if t603 = (rd t605 (mn (ji13) (wrap64 ((t605.length : Int) - 1)))) then (some (decide (t603 ≥ 0))) else (some false)) else (none)) else (none)) else (some false)) = some r := by first | (rw [hji13] at H; exact H) | (simp only [hji13] at H ⊢; exact H)
       (try rw [hji13] at A3)
       (try rw [hji13] at A4)
       (try rw [hji13] at A6)
       (try rw [hji13] at A8)
       (try (have hji13l : 0 ≤ ji13 := by (rw [← hji13]; unfold mx; (repeat' split) <;> omega)))
       (try (have hji13m : 0 ≤ ji13 := by omega))
       have hji13_ : (if (wrap64 (a1 - ((rd_T61 l0_2 0).f0))) < 0 then 0 else (wrap64 (a1 - ((rd_T61 l0_2 0).f0)))) = ji13 := hji13
       obtain ⟨ji14, hji14⟩ : ∃ j_ : Int, (mn (ji13) (wrap64 ((t605.length : Int) - 1))) = j_ := ⟨_, rfl⟩
       replace H : (if t601 = true then (if 0 ≤ (ji14) then (if (ji14) < (t605.length : Int) then (if t603 = (rd t605 (ji14)) then (some (decide (t603 ≥ 0))) else (some false)) else (none)) else (none)) else (some false)) = some r := by first | (rw [hji14] at H; exact H) | (simp only [hji14] at H ⊢; exact H)
       (try rw [hji14] at A3)
       (try rw [hji14] at A4)
       (try rw [hji14] at A6)
       (try rw [hji14] at A8)
       have hji14_ : (if (wrap64 ((t605.length : Int) - 1)) < (ji13) then (wrap64 ((t605.length : Int) - 1)) else (ji13)) = ji14 := hji14
       by_cases c15 : t601 = true
       ·subst c15
        have H1 : (if 0 ≤ (ji14) then (if (ji14) < (t605.length : Int) then (if t603 = (rd t605 (ji14)) then (some (decide (t603 ≥ 0))) else (some false)) else (none)) else (none)) = some r := by rw [if_pos rfl] at H; exact H
        clear H
        have H := H1
        clear H1
        by_cases c16 : 0 ≤ (ji14)
        ·rw [if_pos c16] at H
         have c16b0 : decide (0 ≤ (ji14)) = true := decide_eq_true c16
         clear c16
         by_cases c17 : (ji14) < (t605.length : Int)
         ·rw [if_pos c17] at H
          have c17b0 : decide ((ji14) < (t605.length : Int)) = true := decide_eq_true c17
          clear c17
          by_cases c18 : t603 = (rd t605 (ji14))
          ·rw [if_pos c18] at H
           have c18b0 : (t603 == (rd t605 (ji14))) = true := beq_iff_eq.mpr c18
           have c18b1 : (t603 != (rd t605 (ji14))) = false := bne_eq_false_iff_eq.mpr c18
           clear c18
           obtain rfl := Option.some.inj H
           go_enter Try.func21, Try.ntmps21
           go_wp2_with (first | ((with_reducible refine gate_dst (N := 2) rfl ?_); (try (refine gate_guard (by rfl) ?_; dsimp only)); refine box_event ?hg (N := 2) ?hd (cs := #[.int .i64 a0_0, .int .i64 a0_1, .slice A0_2 l0_2.length c0_2]) (t := 69) ?hr ?_; (case hd => rfl); (case hg => rfl); (case hr => first | (go_simp; done) | (go_simp; rfl)); intro gb600 hg w19 hbox hb; have n0_ := Aside0.mk (below_step (by repeat (first | (with_reducible first | exact HB.out | apply below_alloc | apply pw_below_drewN | apply below_drew1) | exact HB.out)) hb); have n1_ := Aside0.mk (hbox); have n2_ := Aside0.mk ((by rw [hg]; exact (below_size (by repeat (first | (with_reducible first | exact HB.out | apply below_alloc | apply pw_below_drewN | apply below_drew1) | exact HB.out))) : w.heap.size ≤ gb600)); have n3_ := Aside0.mk ((by rw [hg]; exact (below_size (by repeat (first | (with_reducible first | exact HB.out | apply below_alloc | apply pw_below_drewN | apply below_drew1) | exact HB.out))) : w.heap.size ≤ gb600)); clear HB; have HB := n0_; have BK600 := n1_; have GW600 := n2_; have GE600 := n3_; clear n0_ n1_ n2_ n3_; clear hb hbox hg) | ((with_reducible refine gate_callee (f := 57) rfl ?_); refine goesL_ (some 11) rfl rfl Try.func57 (by kernel_rfl) rfl #[] rfl (by (try simp only [List.map_toArray, List.map_cons, List.map_nil]); first | done | rfl | (simp only [List.length_drop, List.length_take]; rfl)) ?_; (with_reducible refine (formelaw38_head.calls  true _ A3.out).mono ?_); rintro e w20 ⟨rfl, hb⟩; refine ⟨_, rfl, ?_⟩; have n0_ := Aside0.mk (blk_below (g := gb600) (o := .cells #[.int .i64 a0_0, .int .i64 a0_1, .slice A0_2 l0_2.length c0_2] 69 (0, 0)) (by (with_reducible repeat (first | refine blk_drewN ?_ _ | refine blk_drew ?_ | refine blk_alloc ?_ _)); exact BK600.out) hb); have n1_ := Aside0.mk (below_step (by repeat (first | (with_reducible first | exact HB.out | apply below_alloc | apply pw_below_drewN | apply below_drew1 | refine below_set ?_ GE600.out) | exact HB.out)) hb); clear BK600; clear HB; have BK600 := n0_; have HB := n1_; clear n0_ n1_; (try clear hb); (try clear hb2); (try clear hk); (try clear hi); have hcz21_0 : w20.cell? ⟨gb600, 0, none⟩ = some (.int .i64 a0_0) := (blk_cell BK600.out 0).trans rfl; have hcz21_1 : w20.cell? ⟨gb600, 1, none⟩ = some (.int .i64 a0_1) := (blk_cell BK600.out 1).trans rfl; have hcz21_2 : w20.cell? ⟨gb600, 2, none⟩ = some (.slice A0_2 l0_2.length c0_2) := (blk_cell BK600.out 2).trans rfl; have hfz21_0 := blk_frozen BK600.out 0; have hfz21_1 := blk_frozen BK600.out 1; have hfz21_2 := blk_frozen BK600.out 2) | ((with_reducible refine gate_callee (f := 58) rfl ?_); refine goesL_ (some 13) rfl rfl Try.func58 (by kernel_rfl) rfl #[.agg #[.int .i64 a0_0, .int .i64 a0_1, .slice A0_2 l0_2.length c0_2]] rfl (by (try simp only [List.map_toArray, List.map_cons, List.map_nil]); first | done | rfl | (simp only [List.length_drop, List.length_take]; rfl)) ?_; (with_reducible refine (formeref38_Few.calls k a0_0 a0_1 _ _ l0_2 true _ ?side1 ?side2 A4.out).mono ?_); (case side1 => repeat (first | exact (Kd.C_below HR0_2.out HB.out) | (with_reducible refine Kd.C_alloc ?_ _) | (with_reducible refine Kd.C_drewN ?_ _) | (with_reducible refine Kd.C_drew ?_))); (case side2 => exact HC0_2.out); rintro e w22 ⟨rfl, hb⟩; refine ⟨_, rfl, ?_⟩; have n0_ := Aside0.mk (blk_below (g := gb600) (o := .cells #[.int .i64 a0_0, .int .i64 a0_1, .slice A0_2 l0_2.length c0_2] 69 (0, 0)) (by (with_reducible repeat (first | refine blk_drewN ?_ _ | refine blk_drew ?_ | refine blk_alloc ?_ _)); exact BK600.out) hb); have n1_ := Aside0.mk (below_step (by repeat (first | (with_reducible first | exact HB.out | apply below_alloc | apply pw_below_drewN | apply below_drew1 | refine below_set ?_ GE600.out) | exact HB.out)) hb); clear BK600; clear HB; have BK600 := n0_; have HB := n1_; clear n0_ n1_; (try clear hb); (try clear hb2); (try clear hk); (try clear hi); have hcz23_0 : w22.cell? ⟨gb600, 0, none⟩ = some (.int .i64 a0_0) := (blk_cell BK600.out 0).trans rfl; have hcz23_1 : w22.cell? ⟨gb600, 1, none⟩ = some (.int .i64 a0_1) := (blk_cell BK600.out 1).trans rfl; have hcz23_2 : w22.cell? ⟨gb600, 2, none⟩ = some (.slice A0_2 l0_2.length c0_2) := (blk_cell BK600.out 2).trans rfl; have hfz23_0 := blk_frozen BK600.out 0; have hfz23_1 := blk_frozen BK600.out 1; have hfz23_2 := blk_frozen BK600.out 2) | ((with_reducible refine gate_callee (f := 59) rfl ?_); refine goesL_ (some 19) rfl rfl Try.func59 (by kernel_rfl) rfl #[.agg #[.int .i64 a0_0, .int .i64 a0_1, .slice A0_2 l0_2.length c0_2], .int .i64 a1] rfl (by (try simp only [List.map_toArray, List.map_cons, List.map_nil]); first | done | rfl | (simp only [List.length_drop, List.length_take]; rfl)) ?_; (with_reducible refine (contract_Promised.calls a0_0 a0_1 _ _ l0_2 a1 t603 t604 _ ?side1 ?side2 A6.out).mono ?_); (case side1 => repeat (first | exact (Kd.C_below HR0_2.out HB.out) | (with_reducible refine Kd.C_alloc ?_ _) | (with_reducible refine Kd.C_drewN ?_ _) | (with_reducible refine Kd.C_drew ?_))); (case side2 => exact HC0_2.out); rintro e w24 ⟨rfl, hb⟩; refine ⟨_, rfl, ?_⟩; have n0_ := Aside0.mk (blk_below (g := gb600) (o := .cells #[.int .i64 a0_0, .int .i64 a0_1, .slice A0_2 l0_2.length c0_2] 69 (0, 0)) (by (with_reducible repeat (first | refine blk_drewN ?_ _ | refine blk_drew ?_ | refine blk_alloc ?_ _)); exact BK600.out) hb); have n1_ := Aside0.mk (below_step (by repeat (first | (with_reducible first | exact HB.out | apply below_alloc | apply pw_below_drewN | apply below_drew1 | refine below_set ?_ GE600.out) | exact HB.out)) hb); clear BK600; clear HB; have BK600 := n0_; have HB := n1_; clear n0_ n1_; (try clear hb); (try clear hb2); (try clear hk); (try clear hi); have hcz25_0 : w24.cell? ⟨gb600, 0, none⟩ = some (.int .i64 a0_0) := (blk_cell BK600.out 0).trans rfl; have hcz25_1 : w24.cell? ⟨gb600, 1, none⟩ = some (.int .i64 a0_1) := (blk_cell BK600.out 1).trans rfl; have hcz25_2 : w24.cell? ⟨gb600, 2, none⟩ = some (.slice A0_2 l0_2.length c0_2) := (blk_cell BK600.out 2).trans rfl; have hfz25_0 := blk_frozen BK600.out 0; have hfz25_1 := blk_frozen BK600.out 1; have hfz25_2 := blk_frozen BK600.out 2) | ((with_reducible refine gate_callee (f := 43) rfl ?_); refine goesL_ (some 36) rfl rfl Try.func43 (by kernel_rfl) rfl #[.slice A0_2 l0_2.length c0_2] rfl (by (try simp only [List.map_toArray, List.map_cons, List.map_nil]); first | done | rfl | (simp only [List.length_drop, List.length_take]; rfl)) ?_; (with_reducible refine (curve_Values.calls _ _ l0_2 t605 t606 _ ?side1 ?side2 A8.out).mono ?_); (case side1 => repeat (first | exact (Kd.C_below HR0_2.out HB.out) | (with_reducible refine Kd.C_alloc ?_ _) | (with_reducible refine Kd.C_drewN ?_ _) | (with_reducible refine Kd.C_drew ?_))); (case side2 => exact HC0_2.out); rintro e w26 ⟨v607, rfl, ho0, hb⟩; refine ⟨_, rfl, ?_⟩; have n0_ := Aside0.mk (Kd.R_lower ho0 (below_size (by repeat (first | (with_reducible first | exact HB.out | apply below_alloc | apply pw_below_drewN | apply below_drew1 | refine below_set ?_ GE600.out) | exact HB.out)))); have n1_ := Aside0.mk (blk_below (g := gb600) (o := .cells #[.int .i64 a0_0, .int .i64 a0_1, .slice A0_2 l0_2.length c0_2] 69 (0, 0)) (by (with_reducible repeat (first | refine blk_drewN ?_ _ | refine blk_drew ?_ | refine blk_alloc ?_ _)); exact BK600.out) hb); have n2_ := Aside0.mk (below_step (by repeat (first | (with_reducible first | exact HB.out | apply below_alloc | apply pw_below_drewN | apply below_drew1 | refine below_set ?_ GE600.out) | exact HB.out)) hb); clear BK600; clear HB; have HO608 := n0_; have BK600 := n1_; have HB := n2_; clear n0_ n1_ n2_; (try clear hb); (try clear hb2); (try clear hk); (try clear hi); (try clear ho0); obtain ⟨Ao27, co27, eo27⟩ := Kd.R_slice HO608.out; subst eo27; have hcz28_0 : w26.cell? ⟨gb600, 0, none⟩ = some (.int .i64 a0_0) := (blk_cell BK600.out 0).trans rfl; have hcz28_1 : w26.cell? ⟨gb600, 1, none⟩ = some (.int .i64 a0_1) := (blk_cell BK600.out 1).trans rfl; have hcz28_2 : w26.cell? ⟨gb600, 2, none⟩ = some (.slice A0_2 l0_2.length c0_2) := (blk_cell BK600.out 2).trans rfl; have hfz28_0 := blk_frozen BK600.out 0; have hfz28_1 := blk_frozen BK600.out 1; have hfz28_2 := blk_frozen BK600.out 2; have p609 : 0 ≤ (0 : Int) := (by omega); have q609 : 0 < (l0_2.length : Int) := of_decide_eq_true (by first | (with_reducible assumption) | assumption); obtain ⟨ad609, e609, hx609_0, hx609_1, hx609_2, hx609_3, hx609_4⟩ := at_T61 HR0_2.out 0 p609 q609; cases e609; have qi609 : (0 < l0_2.length) = True := eq_true (by omega); (try rw [show ((0 : Int)).toNat = 0 from rfl] at hx609_0); (try rw [show 0 * 5 = 0 from rfl] at hx609_0); (try rw [Addr.add_zero'] at hx609_0); (try rw [show ((0 : Int)).toNat = 0 from rfl] at hx609_1); (try rw [show 0 * 5 = 0 from rfl] at hx609_1); (try rw [Addr.add_zero'] at hx609_1); (try rw [show ((0 : Int)).toNat = 0 from rfl] at hx609_2); (try rw [show 0 * 5 = 0 from rfl] at hx609_2); (try rw [Addr.add_zero'] at hx609_2); (try rw [show ((0 : Int)).toNat = 0 from rfl] at hx609_3); (try rw [show 0 * 5 = 0 from rfl] at hx609_3); (try rw [Addr.add_zero'] at hx609_3); (try rw [show ((0 : Int)).toNat = 0 from rfl] at hx609_4); (try rw [show 0 * 5 = 0 from rfl] at hx609_4); (try rw [Addr.add_zero'] at hx609_4); replace hx609_0 := (HB.out.cell (World.block_lt_of_cell? w _ hx609_0)).trans hx609_0; replace hx609_1 := (HB.out.cell (World.block_lt_of_cell? w _ hx609_1)).trans hx609_1; replace hx609_2 := (HB.out.cell (World.block_lt_of_cell? w _ hx609_2)).trans hx609_2; replace hx609_3 := (HB.out.cell (World.block_lt_of_cell? w _ hx609_3)).trans hx609_3; replace hx609_4 := (HB.out.cell (World.block_lt_of_cell? w _ hx609_4)).trans hx609_4; replace p609 := eq_true p609; replace q609 := eq_true q609; have p610 : 0 ≤ ((ji14) : Int) := of_decide_eq_true (by first | (with_reducible assumption) | assumption); have q610 : (ji14) < (t605.length : Int) := of_decide_eq_true (by first | (with_reducible assumption) | assumption); obtain ⟨ad610, e610, hx610_0⟩ := Kd.at_int (Kd.R_reads' HO608.out).2.2 (ji14) p610 q610; cases e610; replace p610 := eq_true p610; replace q610 := eq_true q610))
           go_ret
           exact ⟨by first | rfl | (simp [errW_none, errW_some] <;> rfl) | (simp only [← hji13, ← hji14]; first | rfl | (simp [errW_none, errW_some] <;> rfl)) | (simp [*, errW_none, errW_some] <;> rfl), by repeat (first | (with_reducible first | exact HB.out | apply below_alloc | apply pw_below_drewN | apply below_drew1 | refine below_set ?_ GE600.out) | exact HB.out)⟩
          ·rw [if_neg c18] at H
           have c18b0 : (t603 == (rd t605 (ji14))) = false := beq_eq_false_iff_ne.mpr c18
           have c18b1 : (t603 != (rd t605 (ji14))) = true := bne_iff_ne.mpr c18
           exact absurd ((Option.some.inj H).trans HTr.out) (by decide)
         ·rw [if_neg c17] at H
          exact absurd H (by simp)
        ·rw [if_neg c16] at H
         exact absurd H (by simp)
       ·replace c15 := Bool.eq_false_iff.mpr c15
        subst c15
        have H1 : (some false) = some r := by rw [if_neg (show ¬ (false = true) by decide)] at H; exact H
        clear H
        have H := H1
        clear H1
        exact absurd ((Option.some.inj H).trans HTr.out) (by decide)
      ·rw [if_neg c12] at H
       exact absurd H (by simp)
   ·rw [if_neg c9] at H
    have c9b0 : (t606 == 0) = false := beq_eq_false_iff_ne.mpr c9
    have c9b1 : (t606 != 0) = true := bne_iff_ne.mpr c9
    exact absurd ((Option.some.inj H).trans HTr.out) (by decide)
  ·rw [if_neg c7] at H
   have c7b0 : (t604 == 0) = false := beq_eq_false_iff_ne.mpr c7
   have c7b1 : (t604 != 0) = true := bne_iff_ne.mpr c7
   by_cases c29 : t601 = true
   ·subst c29
    have H1 : (if t604 = 1 then (some (t603 == 0)) else (some false)) = some r := by rw [if_pos rfl] at H; exact H
    clear H
    have H := H1
    clear H1
    by_cases c30 : t604 = 1
    ·rw [if_pos c30] at H
     have c30b0 : (t604 == 1) = true := beq_iff_eq.mpr c30
     have c30b1 : (t604 != 1) = false := bne_eq_false_iff_eq.mpr c30
     clear c30
     obtain rfl := Option.some.inj H
     go_enter Try.func21, Try.ntmps21
     go_wp2_with (first | ((with_reducible refine gate_dst (N := 2) rfl ?_); (try (refine gate_guard (by rfl) ?_; dsimp only)); refine box_event ?hg (N := 2) ?hd (cs := #[.int .i64 a0_0, .int .i64 a0_1, .slice A0_2 l0_2.length c0_2]) (t := 69) ?hr ?_; (case hd => rfl); (case hg => rfl); (case hr => first | (go_simp; done) | (go_simp; rfl)); intro gb600 hg w31 hbox hb; have n0_ := Aside0.mk (below_step (by repeat (first | (with_reducible first | exact HB.out | apply below_alloc | apply pw_below_drewN | apply below_drew1) | exact HB.out)) hb); have n1_ := Aside0.mk (hbox); have n2_ := Aside0.mk ((by rw [hg]; exact (below_size (by repeat (first | (with_reducible first | exact HB.out | apply below_alloc | apply pw_below_drewN | apply below_drew1) | exact HB.out))) : w.heap.size ≤ gb600)); have n3_ := Aside0.mk ((by rw [hg]; exact (below_size (by repeat (first | (with_reducible first | exact HB.out | apply below_alloc | apply pw_below_drewN | apply below_drew1) | exact HB.out))) : w.heap.size ≤ gb600)); clear HB; have HB := n0_; have BK600 := n1_; have GW600 := n2_; have GE600 := n3_; clear n0_ n1_ n2_ n3_; clear hb hbox hg) | ((with_reducible refine gate_callee (f := 57) rfl ?_); refine goesL_ (some 11) rfl rfl Try.func57 (by kernel_rfl) rfl #[] rfl (by (try simp only [List.map_toArray, List.map_cons, List.map_nil]); first | done | rfl | (simp only [List.length_drop, List.length_take]; rfl)) ?_; (with_reducible refine (formelaw38_head.calls  true _ A3.out).mono ?_); rintro e w32 ⟨rfl, hb⟩; refine ⟨_, rfl, ?_⟩; have n0_ := Aside0.mk (blk_below (g := gb600) (o := .cells #[.int .i64 a0_0, .int .i64 a0_1, .slice A0_2 l0_2.length c0_2] 69 (0, 0)) (by (with_reducible repeat (first | refine blk_drewN ?_ _ | refine blk_drew ?_ | refine blk_alloc ?_ _)); exact BK600.out) hb); have n1_ := Aside0.mk (below_step (by repeat (first | (with_reducible first | exact HB.out | apply below_alloc | apply pw_below_drewN | apply below_drew1 | refine below_set ?_ GE600.out) | exact HB.out)) hb); clear BK600; clear HB; have BK600 := n0_; have HB := n1_; clear n0_ n1_; (try clear hb); (try clear hb2); (try clear hk); (try clear hi); have hcz33_0 : w32.cell? ⟨gb600, 0, none⟩ = some (.int .i64 a0_0) := (blk_cell BK600.out 0).trans rfl; have hcz33_1 : w32.cell? ⟨gb600, 1, none⟩ = some (.int .i64 a0_1) := (blk_cell BK600.out 1).trans rfl; have hcz33_2 : w32.cell? ⟨gb600, 2, none⟩ = some (.slice A0_2 l0_2.length c0_2) := (blk_cell BK600.out 2).trans rfl; have hfz33_0 := blk_frozen BK600.out 0; have hfz33_1 := blk_frozen BK600.out 1; have hfz33_2 := blk_frozen BK600.out 2) | ((with_reducible refine gate_callee (f := 58) rfl ?_); refine goesL_ (some 13) rfl rfl Try.func58 (by kernel_rfl) rfl #[.agg #[.int .i64 a0_0, .int .i64 a0_1, .slice A0_2 l0_2.length c0_2]] rfl (by (try simp only [List.map_toArray, List.map_cons, List.map_nil]); first | done | rfl | (simp only [List.length_drop, List.length_take]; rfl)) ?_; (with_reducible refine (formeref38_Few.calls k a0_0 a0_1 _ _ l0_2 true _ ?side1 ?side2 A4.out).mono ?_); (case side1 => repeat (first | exact (Kd.C_below HR0_2.out HB.out) | (with_reducible refine Kd.C_alloc ?_ _) | (with_reducible refine Kd.C_drewN ?_ _) | (with_reducible refine Kd.C_drew ?_))); (case side2 => exact HC0_2.out); rintro e w34 ⟨rfl, hb⟩; refine ⟨_, rfl, ?_⟩; have n0_ := Aside0.mk (blk_below (g := gb600) (o := .cells #[.int .i64 a0_0, .int .i64 a0_1, .slice A0_2 l0_2.length c0_2] 69 (0, 0)) (by (with_reducible repeat (first | refine blk_drewN ?_ _ | refine blk_drew ?_ | refine blk_alloc ?_ _)); exact BK600.out) hb); have n1_ := Aside0.mk (below_step (by repeat (first | (with_reducible first | exact HB.out | apply below_alloc | apply pw_below_drewN | apply below_drew1 | refine below_set ?_ GE600.out) | exact HB.out)) hb); clear BK600; clear HB; have BK600 := n0_; have HB := n1_; clear n0_ n1_; (try clear hb); (try clear hb2); (try clear hk); (try clear hi); have hcz35_0 : w34.cell? ⟨gb600, 0, none⟩ = some (.int .i64 a0_0) := (blk_cell BK600.out 0).trans rfl; have hcz35_1 : w34.cell? ⟨gb600, 1, none⟩ = some (.int .i64 a0_1) := (blk_cell BK600.out 1).trans rfl; have hcz35_2 : w34.cell? ⟨gb600, 2, none⟩ = some (.slice A0_2 l0_2.length c0_2) := (blk_cell BK600.out 2).trans rfl; have hfz35_0 := blk_frozen BK600.out 0; have hfz35_1 := blk_frozen BK600.out 1; have hfz35_2 := blk_frozen BK600.out 2) | ((with_reducible refine gate_callee (f := 59) rfl ?_); refine goesL_ (some 19) rfl rfl Try.func59 (by kernel_rfl) rfl #[.agg #[.int .i64 a0_0, .int .i64 a0_1, .slice A0_2 l0_2.length c0_2], .int .i64 a1] rfl (by (try simp only [List.map_toArray, List.map_cons, List.map_nil]); first | done | rfl | (simp only [List.length_drop, List.length_take]; rfl)) ?_; (with_reducible refine (contract_Promised.calls a0_0 a0_1 _ _ l0_2 a1 t603 t604 _ ?side1 ?side2 A6.out).mono ?_); (case side1 => repeat (first | exact (Kd.C_below HR0_2.out HB.out) | (with_reducible refine Kd.C_alloc ?_ _) | (with_reducible refine Kd.C_drewN ?_ _) | (with_reducible refine Kd.C_drew ?_))); (case side2 => exact HC0_2.out); rintro e w36 ⟨rfl, hb⟩; refine ⟨_, rfl, ?_⟩; have n0_ := Aside0.mk (blk_below (g := gb600) (o := .cells #[.int .i64 a0_0, .int .i64 a0_1, .slice A0_2 l0_2.length c0_2] 69 (0, 0)) (by (with_reducible repeat (first | refine blk_drewN ?_ _ | refine blk_drew ?_ | refine blk_alloc ?_ _)); exact BK600.out) hb); have n1_ := Aside0.mk (below_step (by repeat (first | (with_reducible first | exact HB.out | apply below_alloc | apply pw_below_drewN | apply below_drew1 | refine below_set ?_ GE600.out) | exact HB.out)) hb); clear BK600; clear HB; have BK600 := n0_; have HB := n1_; clear n0_ n1_; (try clear hb); (try clear hb2); (try clear hk); (try clear hi)))
     go_ret
     exact ⟨by first | rfl | (simp [errW_none, errW_some] <;> rfl) | (simp [*, errW_none, errW_some] <;> rfl), by repeat (first | (with_reducible first | exact HB.out | apply below_alloc | apply pw_below_drewN | apply below_drew1 | refine below_set ?_ GE600.out) | exact HB.out)⟩
    ·rw [if_neg c30] at H
     have c30b0 : (t604 == 1) = false := beq_eq_false_iff_ne.mpr c30
     have c30b1 : (t604 != 1) = true := bne_iff_ne.mpr c30
     exact absurd ((Option.some.inj H).trans HTr.out) (by decide)
   ·replace c29 := Bool.eq_false_iff.mpr c29
    subst c29
    have H1 : (some false) = some r := by rw [if_neg (show ¬ (false = true) by decide)] at H; exact H
    clear H
    have H := H1
    clear H1
    exact absurd ((Option.some.inj H).trans HTr.out) (by decide)
 ·replace c5 := Bool.eq_false_iff.mpr c5
  subst c5
  have H1 : (some t601) = some r := by rw [if_neg (show ¬ (false = true) by decide)] at H; exact H
  clear H
  have H := H1
  clear H1
  obtain rfl := Option.some.inj H
  go_enter Try.func21, Try.ntmps21
  go_wp2_with (first | ((with_reducible refine gate_dst (N := 2) rfl ?_); (try (refine gate_guard (by rfl) ?_; dsimp only)); refine box_event ?hg (N := 2) ?hd (cs := #[.int .i64 a0_0, .int .i64 a0_1, .slice A0_2 l0_2.length c0_2]) (t := 69) ?hr ?_; (case hd => rfl); (case hg => rfl); (case hr => first | (go_simp; done) | (go_simp; rfl)); intro gb600 hg w37 hbox hb; have n0_ := Aside0.mk (below_step (by repeat (first | (with_reducible first | exact HB.out | apply below_alloc | apply pw_below_drewN | apply below_drew1) | exact HB.out)) hb); have n1_ := Aside0.mk (hbox); have n2_ := Aside0.mk ((by rw [hg]; exact (below_size (by repeat (first | (with_reducible first | exact HB.out | apply below_alloc | apply pw_below_drewN | apply below_drew1) | exact HB.out))) : w.heap.size ≤ gb600)); have n3_ := Aside0.mk ((by rw [hg]; exact (below_size (by repeat (first | (with_reducible first | exact HB.out | apply below_alloc | apply pw_below_drewN | apply below_drew1) | exact HB.out))) : w.heap.size ≤ gb600)); clear HB; have HB := n0_; have BK600 := n1_; have GW600 := n2_; have GE600 := n3_; clear n0_ n1_ n2_ n3_; clear hb hbox hg) | ((with_reducible refine gate_callee (f := 57) rfl ?_); refine goesL_ (some 11) rfl rfl Try.func57 (by kernel_rfl) rfl #[] rfl (by (try simp only [List.map_toArray, List.map_cons, List.map_nil]); first | done | rfl | (simp only [List.length_drop, List.length_take]; rfl)) ?_; (with_reducible refine (formelaw38_head.calls  t601 _ A3.out).mono ?_); rintro e w38 ⟨rfl, hb⟩; refine ⟨_, rfl, ?_⟩; have n0_ := Aside0.mk (blk_below (g := gb600) (o := .cells #[.int .i64 a0_0, .int .i64 a0_1, .slice A0_2 l0_2.length c0_2] 69 (0, 0)) (by (with_reducible repeat (first | refine blk_drewN ?_ _ | refine blk_drew ?_ | refine blk_alloc ?_ _)); exact BK600.out) hb); have n1_ := Aside0.mk (below_step (by repeat (first | (with_reducible first | exact HB.out | apply below_alloc | apply pw_below_drewN | apply below_drew1 | refine below_set ?_ GE600.out) | exact HB.out)) hb); clear BK600; clear HB; have BK600 := n0_; have HB := n1_; clear n0_ n1_; (try clear hb); (try clear hb2); (try clear hk); (try clear hi); have hcz39_0 : w38.cell? ⟨gb600, 0, none⟩ = some (.int .i64 a0_0) := (blk_cell BK600.out 0).trans rfl; have hcz39_1 : w38.cell? ⟨gb600, 1, none⟩ = some (.int .i64 a0_1) := (blk_cell BK600.out 1).trans rfl; have hcz39_2 : w38.cell? ⟨gb600, 2, none⟩ = some (.slice A0_2 l0_2.length c0_2) := (blk_cell BK600.out 2).trans rfl; have hfz39_0 := blk_frozen BK600.out 0; have hfz39_1 := blk_frozen BK600.out 1; have hfz39_2 := blk_frozen BK600.out 2) | ((with_reducible refine gate_callee (f := 58) rfl ?_); refine goesL_ (some 13) rfl rfl Try.func58 (by kernel_rfl) rfl #[.agg #[.int .i64 a0_0, .int .i64 a0_1, .slice A0_2 l0_2.length c0_2]] rfl (by (try simp only [List.map_toArray, List.map_cons, List.map_nil]); first | done | rfl | (simp only [List.length_drop, List.length_take]; rfl)) ?_; (with_reducible refine (formeref38_Few.calls k a0_0 a0_1 _ _ l0_2 false _ ?side1 ?side2 A4.out).mono ?_); (case side1 => repeat (first | exact (Kd.C_below HR0_2.out HB.out) | (with_reducible refine Kd.C_alloc ?_ _) | (with_reducible refine Kd.C_drewN ?_ _) | (with_reducible refine Kd.C_drew ?_))); (case side2 => exact HC0_2.out); rintro e w40 ⟨rfl, hb⟩; refine ⟨_, rfl, ?_⟩; have n0_ := Aside0.mk (blk_below (g := gb600) (o := .cells #[.int .i64 a0_0, .int .i64 a0_1, .slice A0_2 l0_2.length c0_2] 69 (0, 0)) (by (with_reducible repeat (first | refine blk_drewN ?_ _ | refine blk_drew ?_ | refine blk_alloc ?_ _)); exact BK600.out) hb); have n1_ := Aside0.mk (below_step (by repeat (first | (with_reducible first | exact HB.out | apply below_alloc | apply pw_below_drewN | apply below_drew1 | refine below_set ?_ GE600.out) | exact HB.out)) hb); clear BK600; clear HB; have BK600 := n0_; have HB := n1_; clear n0_ n1_; (try clear hb); (try clear hb2); (try clear hk); (try clear hi)))
  go_ret
  exact ⟨by first | rfl | (simp [errW_none, errW_some] <;> rfl) | (simp [*, errW_none, errW_some] <;> rfl), by repeat (first | (with_reducible first | exact HB.out | apply below_alloc | apply pw_below_drewN | apply below_drew1 | refine below_set ?_ GE600.out) | exact HB.out)⟩
end Go.Proofs.Ytjpghfjaloglhaa.PContract

