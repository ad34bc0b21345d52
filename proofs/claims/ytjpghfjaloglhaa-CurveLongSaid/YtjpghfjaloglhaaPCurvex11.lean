-- Laid by a turned copy of the kit's print (wip/tools/mkprint.py) out of the translation. Lean checks it.
import Derived.Test.YtjpghfjaloglhaaPCurvex0
import Derived.Test.YtjpghfjaloglhaaPCurvex1
import Derived.Test.YtjpghfjaloglhaaPCurvex8
import Derived.Test.YtjpghfjaloglhaaECurveFit
import Derived.Test.YtjpghfjaloglhaaECurveMake
namespace Go.Proofs.Ytjpghfjaloglhaa.PCurve
open Go.RowKit Go.Proofs.YtjpghfjaloglhaaW.PrintWords Go.Proofs.YtjpghfjaloglhaaW.PrintLast Go.Proofs.YtjpghfjaloglhaaW.PrintMore
attribute [local go_sem] max2_int min2_int max_two min_two max_three min_three max_four min_four   -- for this text's walks alone
set_option linter.unusedVariables false
set_option linter.unusedSimpArgs false

attribute [local go_sem high] eqA23
/-! ### formelaw02_CurveLong: function 11 -/
mutual
def formelaw02_CurveLong.l0 : Nat → Int → List Int → Bool → List (S61) → Int → Int → Option (Bool)
  | 0, _, _, _, _, _, _ => none
  | k + 1, x0, x1, x5, x6, x8, x9 => if x9 < (x6.length : Int) then (if 0 ≤ x9 then (if ((rd_T61 x6 x9).f0) = x8 then (if ((rd_T61 x6 x9).f1) ≤ x8 then (formelaw02_CurveLong.j1 k x0 x1 x5 x6 x8 x9 true) else (formelaw02_CurveLong.j1 k x0 x1 x5 x6 x8 x9 (decide (((rd_T61 x6 x9).f1) > (wrap64 (x0 + (x1.length : Int))))))) else (formelaw02_CurveLong.j1 k x0 x1 x5 x6 x8 x9 true)) else (none)) else (if x5 = true then (some (x8 == (wrap64 (x0 + (x1.length : Int))))) else (some false))
def formelaw02_CurveLong.j1 : Nat → Int → List Int → Bool → List (S61) → Int → Int → Bool → Option (Bool)
  | 0, _, _, _, _, _, _, _ => none
  | k + 1, x0, x1, x5, x6, x8, x9, x69 => if x69 = true then (some false) else (if 0 ≤ x9 then (if x9 < (x6.length : Int) then (if 0 ≤ (wrap64 (x8 - x0)) then (if (wrap64 (x8 - x0)) ≤ (wrap64 (((rd_T61 x6 x9).f1) - x0)) then (if (wrap64 (((rd_T61 x6 x9).f1) - x0)) ≤ (x1.length : Int) then ((quot_Fit.f ((x1.take ((wrap64 (((rd_T61 x6 x9).f1) - x0)) : Int).toNat).drop ((wrap64 (x8 - x0)) : Int).toNat)).bind fun bt261 => (if bt261.2.2.2.2 = 0 then (if bt261.2.2.2.1 = true then (formelaw02_CurveLong.j2 k x0 x1 x5 x6 ((rd_T61 x6 x9).f1) x9 (!(bt261.1 == ((rd_T61 x6 x9).f2.f0)) || (!(bt261.2.1 == ((rd_T61 x6 x9).f2.f1)) || (!(bt261.2.2.1 == ((rd_T61 x6 x9).f2.f2)))))) else (formelaw02_CurveLong.j2 k x0 x1 x5 x6 ((rd_T61 x6 x9).f1) x9 true)) else (formelaw02_CurveLong.j2 k x0 x1 x5 x6 ((rd_T61 x6 x9).f1) x9 true))) else (none)) else (none)) else (none)) else (none)) else (none))
def formelaw02_CurveLong.j2 : Nat → Int → List Int → Bool → List (S61) → Int → Int → Bool → Option (Bool)
  | 0, _, _, _, _, _, _, _ => none
  | k + 1, x0, x1, x5, x6, x8, x9, x106 => if x106 = true then (some false) else (if x8 = (wrap64 (x0 + (x1.length : Int))) then (formelaw02_CurveLong.l0 k x0 x1 x5 x6 x8 (wrap64 (x9 + 1))) else (if 0 ≤ x9 then (if x9 < (x6.length : Int) then (if 0 ≤ (wrap64 (((rd_T61 x6 x9).f0) - x0)) then (if (wrap64 (((rd_T61 x6 x9).f0) - x0)) ≤ (wrap64 ((wrap64 (x8 - x0)) + 1)) then (if (wrap64 ((wrap64 (x8 - x0)) + 1)) ≤ (x1.length : Int) then ((quot_Fit.f ((x1.take ((wrap64 ((wrap64 (x8 - x0)) + 1)) : Int).toNat).drop ((wrap64 (((rd_T61 x6 x9).f0) - x0)) : Int).toNat)).bind fun bt271 => (if bt271.2.2.2.2 = 0 then (if bt271.2.2.2.1 = true then (some false) else (formelaw02_CurveLong.l0 k x0 x1 x5 x6 x8 (wrap64 (x9 + 1)))) else (some false))) else (none)) else (none)) else (none)) else (none)) else (none)))
end
def formelaw02_CurveLong.f (k : Nat) (a0 : Int) (l1 : List Int) : Option (Bool) := (formelaw02_head.f k).bind fun t251 => (if (l1.length : Int) > 40 then (some t251) else ((curve_Make.f a0 l1).bind fun bt252 => (if bt252.2 = 0 then (formelaw02_CurveLong.l0 k a0 l1 t251 bt252.1 a0 0) else (if t251 = true then (some ((bt252.1.length : Int) == 0)) else (some false)))))
theorem formelaw02_CurveLong.mono_l : ∀ k, (∀ y0 y1 y2 y3 y4 y5, LeO (formelaw02_CurveLong.l0 k y0 y1 y2 y3 y4 y5) (formelaw02_CurveLong.l0 (k + 1) y0 y1 y2 y3 y4 y5)) ∧ (∀ y0 y1 y2 y3 y4 y5 y6, LeO (formelaw02_CurveLong.j1 k y0 y1 y2 y3 y4 y5 y6) (formelaw02_CurveLong.j1 (k + 1) y0 y1 y2 y3 y4 y5 y6)) ∧ (∀ y0 y1 y2 y3 y4 y5 y6, LeO (formelaw02_CurveLong.j2 k y0 y1 y2 y3 y4 y5 y6) (formelaw02_CurveLong.j2 (k + 1) y0 y1 y2 y3 y4 y5 y6))
  | 0 => ⟨fun _ _ _ _ _ _ r h => by simp [formelaw02_CurveLong.l0] at h, fun _ _ _ _ _ _ _ r h => by simp [formelaw02_CurveLong.j1] at h, fun _ _ _ _ _ _ _ r h => by simp [formelaw02_CurveLong.j2] at h⟩
  | k + 1 => by
    obtain ⟨ih0, ih1, ih2⟩ := formelaw02_CurveLong.mono_l k
    refine ⟨?_, ?_, ?_⟩
    · intro y0 y1 y2 y3 y4 y5
      unfold formelaw02_CurveLong.l0
      repeat' first
      | (with_reducible exact ih0 _ _ _ _ _ _)
      | (with_reducible exact ih1 _ _ _ _ _ _ _)
      | (with_reducible exact ih2 _ _ _ _ _ _ _)
      | (with_reducible exact formelaw02_head.mono _)
      | (with_reducible exact LeO.refl _)
      | (with_reducible exact LeO.none _)
      | (with_reducible refine LeO.ite ?_ ?_)
      | (with_reducible refine LeO.bind ?_ (fun _ => ?_))
      | exact ih0 _ _ _ _ _ _
      | exact ih1 _ _ _ _ _ _ _
      | exact ih2 _ _ _ _ _ _ _
      | exact formelaw02_head.mono _
      | exact LeO.none _
      | refine LeO.ite ?_ ?_
      | refine LeO.bind ?_ (fun _ => ?_)
    · intro y0 y1 y2 y3 y4 y5 y6
      unfold formelaw02_CurveLong.j1
      repeat' first
      | (with_reducible exact ih0 _ _ _ _ _ _)
      | (with_reducible exact ih1 _ _ _ _ _ _ _)
      | (with_reducible exact ih2 _ _ _ _ _ _ _)
      | (with_reducible exact formelaw02_head.mono _)
      | (with_reducible exact LeO.refl _)
      | (with_reducible exact LeO.none _)
      | (with_reducible refine LeO.ite ?_ ?_)
      | (with_reducible refine LeO.bind ?_ (fun _ => ?_))
      | exact ih0 _ _ _ _ _ _
      | exact ih1 _ _ _ _ _ _ _
      | exact ih2 _ _ _ _ _ _ _
      | exact formelaw02_head.mono _
      | exact LeO.none _
      | refine LeO.ite ?_ ?_
      | refine LeO.bind ?_ (fun _ => ?_)
    · intro y0 y1 y2 y3 y4 y5 y6
      unfold formelaw02_CurveLong.j2
      repeat' first
      | (with_reducible exact ih0 _ _ _ _ _ _)
      | (with_reducible exact ih1 _ _ _ _ _ _ _)
      | (with_reducible exact ih2 _ _ _ _ _ _ _)
      | (with_reducible exact formelaw02_head.mono _)
      | (with_reducible exact LeO.refl _)
      | (with_reducible exact LeO.none _)
      | (with_reducible refine LeO.ite ?_ ?_)
      | (with_reducible refine LeO.bind ?_ (fun _ => ?_))
      | exact ih0 _ _ _ _ _ _
      | exact ih1 _ _ _ _ _ _ _
      | exact ih2 _ _ _ _ _ _ _
      | exact formelaw02_head.mono _
      | exact LeO.none _
      | refine LeO.ite ?_ ?_
      | refine LeO.bind ?_ (fun _ => ?_)
theorem formelaw02_CurveLong.mono : ∀ a0 a1 k, LeO (formelaw02_CurveLong.f k a0 a1) (formelaw02_CurveLong.f (k + 1) a0 a1) := by
  intro a0 a1 k
  obtain ⟨ih0, ih1, ih2⟩ := formelaw02_CurveLong.mono_l k
  unfold formelaw02_CurveLong.f
  repeat' first
      | (with_reducible exact ih0 _ _ _ _ _ _)
      | (with_reducible exact ih1 _ _ _ _ _ _ _)
      | (with_reducible exact ih2 _ _ _ _ _ _ _)
      | (with_reducible exact formelaw02_head.mono _)
      | (with_reducible exact LeO.refl _)
      | (with_reducible exact LeO.none _)
      | (with_reducible refine LeO.ite ?_ ?_)
      | (with_reducible refine LeO.bind ?_ (fun _ => ?_))
      | exact ih0 _ _ _ _ _ _
      | exact ih1 _ _ _ _ _ _ _
      | exact ih2 _ _ _ _ _ _ _
      | exact formelaw02_head.mono _
      | exact LeO.none _
      | refine LeO.ite ?_ ?_
      | refine LeO.bind ?_ (fun _ => ?_)
set_option maxHeartbeats 8000000 in
set_option maxRecDepth 100000 in
theorem formelaw02_CurveLong.calls (k : Nat) (a0 : Int) (A1 : Option Addr) (c1 : Nat) (l1 : List Int) (r : Bool) (w : World) (hr1 : Kd.C (Kd.int .i64) w A1 l1.length l1) (hc1 : l1.length ≤ c1) (h : formelaw02_CurveLong.f k a0 l1 = some r) :
    Calls Try.prog 11 #[.int .i64 a0, .slice A1 l1.length c1] w fun e w' => e = .returned (.bool r) ∧ Below w.heap.size w w' := by
  have hu23 := Try.underlying23
  have HR1 := Aside0.mk hr1
  have HC1 := Aside0.mk hc1
  clear hr1 hc1
  have HB := Aside0.mk (Below.refl w.heap.size w)
  have H : ((formelaw02_head.f k).bind fun t251 => (if (l1.length : Int) > 40 then (some t251) else ((curve_Make.f a0 l1).bind fun bt252 => (if bt252.2 = 0 then (formelaw02_CurveLong.l0 k a0 l1 t251 bt252.1 a0 0) else (if t251 = true then (some ((bt252.1.length : Int) == 0)) else (some false)))))) = some r := h
  clear h
  replace H := Option.bind_eq_some_iff.mp H
  obtain ⟨t251, A30, H⟩ := H
  replace H : (if (l1.length : Int) > 40 then (some t251) else ((curve_Make.f a0 l1).bind fun bt252 => (if bt252.2 = 0 then (formelaw02_CurveLong.l0 k a0 l1 t251 bt252.1 a0 0) else (if t251 = true then (some ((bt252.1.length : Int) == 0)) else (some false))))) = some r := H
  have A3 := Aside0.mk A30
  clear A30
  by_cases c4 : (l1.length : Int) > 40
  · rw [if_pos c4] at H
    have c4b0 : decide (40 < (l1.length : Int)) = true := decide_eq_true c4
    have c4b1 : decide (40 < l1.length) = true := decide_eq_true (by omega)
    clear c4
    obtain rfl := Option.some.inj H
    go_enter Try.func11, Try.ntmps11
    go_wp2_with (first | (go_at_call 41; (with_reducible refine (formelaw02_head.calls k  t251 _ A3.out).mono ?_); rintro e w5 ⟨rfl, hb⟩; have n0_ := Aside0.mk (below_step (by repeat (first | (with_reducible first | exact HB.out | apply below_alloc | apply pw_below_drewN | apply below_drew1) | exact HB.out)) hb); clear HB; have HB := n0_; clear n0_; (try clear hb); (try clear hb2); (try clear hk); (try clear hi)))
    repeat (go_quiet (first | (go_at_call 41; (with_reducible refine (formelaw02_head.calls k  t251 _ A3.out).mono ?_); rintro e w5 ⟨rfl, hb⟩; have n0_ := Aside0.mk (below_step (by repeat (first | (with_reducible first | exact HB.out | apply below_alloc | apply pw_below_drewN | apply below_drew1) | exact HB.out)) hb); clear HB; have HB := n0_; clear n0_; (try clear hb); (try clear hb2); (try clear hk); (try clear hi))); try go_wp2_with (first | (go_at_call 41; (with_reducible refine (formelaw02_head.calls k  t251 _ A3.out).mono ?_); rintro e w5 ⟨rfl, hb⟩; have n0_ := Aside0.mk (below_step (by repeat (first | (with_reducible first | exact HB.out | apply below_alloc | apply pw_below_drewN | apply below_drew1) | exact HB.out)) hb); clear HB; have HB := n0_; clear n0_; (try clear hb); (try clear hb2); (try clear hk); (try clear hi))))
    go_ret
    exact ⟨by first | rfl | (simp [errW_none, errW_some] <;> rfl) | (simp [*, errW_none, errW_some] <;> rfl), by repeat (first | (with_reducible first | exact HB.out | apply below_alloc | apply pw_below_drewN | apply below_drew1) | exact HB.out)⟩
  · rw [if_neg c4] at H
    have c4b0 : decide (40 < (l1.length : Int)) = false := decide_eq_false c4
    have c4b1 : decide (40 < l1.length) = false := decide_eq_false (by omega)
    clear c4
    replace H := Option.bind_eq_some_iff.mp H
    obtain ⟨⟨t252, t253⟩, A60, H⟩ := H
    replace H : (if t253 = 0 then (formelaw02_CurveLong.l0 k a0 l1 t251 t252 a0 0) else (if t251 = true then (some ((t252.length : Int) == 0)) else (some false))) = some r := H
    have A6 := Aside0.mk A60
    clear A60
    by_cases c7 : t253 = 0
    · rw [if_pos c7] at H
      have c7b0 : (t253 == 0) = true := beq_iff_eq.mpr c7
      have c7b1 : (t253 != 0) = false := bne_eq_false_iff_eq.mpr c7
      clear c7
      have H' := Aside0.mk H
      clear H
      go_enter Try.func11, Try.ntmps11
      go_wp2_with (first | (go_at_call 41; (with_reducible refine (formelaw02_head.calls k  t251 _ A3.out).mono ?_); rintro e w8 ⟨rfl, hb⟩; have n0_ := Aside0.mk (below_step (by repeat (first | (with_reducible first | exact HB.out | apply below_alloc | apply pw_below_drewN | apply below_drew1) | exact HB.out)) hb); clear HB; have HB := n0_; clear n0_; (try clear hb); (try clear hb2); (try clear hk); (try clear hi)) | (go_at_call 42; (with_reducible refine (curve_Make.calls a0 _ _ l1 t252 t253 _ ?side1 ?side2 A6.out).mono ?_); (case side1 => repeat (first | exact (Kd.C_below HR1.out HB.out) | (with_reducible refine Kd.C_alloc ?_ _) | (with_reducible refine Kd.C_drewN ?_ _) | (with_reducible refine Kd.C_drew ?_))); (case side2 => exact HC1.out); rintro e w9 ⟨v254, rfl, ho0, hb⟩; have n0_ := Aside0.mk (Kd.R_lower ho0 (below_size (by repeat (first | (with_reducible first | exact HB.out | apply below_alloc | apply pw_below_drewN | apply below_drew1) | exact HB.out)))); have n1_ := Aside0.mk (below_step (by repeat (first | (with_reducible first | exact HB.out | apply below_alloc | apply pw_below_drewN | apply below_drew1) | exact HB.out)) hb); clear HB; have HO255 := n0_; have HB := n1_; clear n0_ n1_; (try clear hb); (try clear hb2); (try clear hk); (try clear hi); (try clear ho0)))
      repeat (go_quiet (first | (go_at_call 41; (with_reducible refine (formelaw02_head.calls k  t251 _ A3.out).mono ?_); rintro e w8 ⟨rfl, hb⟩; have n0_ := Aside0.mk (below_step (by repeat (first | (with_reducible first | exact HB.out | apply below_alloc | apply pw_below_drewN | apply below_drew1) | exact HB.out)) hb); clear HB; have HB := n0_; clear n0_; (try clear hb); (try clear hb2); (try clear hk); (try clear hi)) | (go_at_call 42; (with_reducible refine (curve_Make.calls a0 _ _ l1 t252 t253 _ ?side1 ?side2 A6.out).mono ?_); (case side1 => repeat (first | exact (Kd.C_below HR1.out HB.out) | (with_reducible refine Kd.C_alloc ?_ _) | (with_reducible refine Kd.C_drewN ?_ _) | (with_reducible refine Kd.C_drew ?_))); (case side2 => exact HC1.out); rintro e w9 ⟨v254, rfl, ho0, hb⟩; have n0_ := Aside0.mk (Kd.R_lower ho0 (below_size (by repeat (first | (with_reducible first | exact HB.out | apply below_alloc | apply pw_below_drewN | apply below_drew1) | exact HB.out)))); have n1_ := Aside0.mk (below_step (by repeat (first | (with_reducible first | exact HB.out | apply below_alloc | apply pw_below_drewN | apply below_drew1) | exact HB.out)) hb); clear HB; have HO255 := n0_; have HB := n1_; clear n0_ n1_; (try clear hb); (try clear hb2); (try clear hk); (try clear hi); (try clear ho0))); try go_wp2_with (first | (go_at_call 41; (with_reducible refine (formelaw02_head.calls k  t251 _ A3.out).mono ?_); rintro e w8 ⟨rfl, hb⟩; have n0_ := Aside0.mk (below_step (by repeat (first | (with_reducible first | exact HB.out | apply below_alloc | apply pw_below_drewN | apply below_drew1) | exact HB.out)) hb); clear HB; have HB := n0_; clear n0_; (try clear hb); (try clear hb2); (try clear hk); (try clear hi)) | (go_at_call 42; (with_reducible refine (curve_Make.calls a0 _ _ l1 t252 t253 _ ?side1 ?side2 A6.out).mono ?_); (case side1 => repeat (first | exact (Kd.C_below HR1.out HB.out) | (with_reducible refine Kd.C_alloc ?_ _) | (with_reducible refine Kd.C_drewN ?_ _) | (with_reducible refine Kd.C_drew ?_))); (case side2 => exact HC1.out); rintro e w9 ⟨v254, rfl, ho0, hb⟩; have n0_ := Aside0.mk (Kd.R_lower ho0 (below_size (by repeat (first | (with_reducible first | exact HB.out | apply below_alloc | apply pw_below_drewN | apply below_drew1) | exact HB.out)))); have n1_ := Aside0.mk (below_step (by repeat (first | (with_reducible first | exact HB.out | apply below_alloc | apply pw_below_drewN | apply below_drew1) | exact HB.out)) hb); clear HB; have HO255 := n0_; have HB := n1_; clear n0_ n1_; (try clear hb); (try clear hb2); (try clear hk); (try clear hi); (try clear ho0))))
      go_loopg [8, 9] k (fun kq v8 v9 w' => ∃ (x8_1 : Int) (x9_1 : Int), v8 = .int .i64 x8_1 ∧ v9 = .int .i64 x9_1 ∧ Aside0 (formelaw02_CurveLong.l0 kq a0 l1 t251 t252 x8_1 x9_1 = some r) ∧ Aside0 (kq ≤ k) ∧ Aside0 (Kd.R k61 61 w' w.heap.size (fun _ => True) v254 t252) ∧ Aside0 (Below w.heap.size w w'))
      case atStart => exact ⟨(a0), (0), (by first | rfl | (simp; done) | (simp [*]; done)), (by first | rfl | (simp; done) | (simp [*]; done)), H', ⟨Nat.le_refl _⟩, ⟨by (with_reducible repeat (first | apply Kd.R_alloc | apply Kd.R_drewN | apply Kd.R_drew)); exact HO255.out⟩, ⟨by repeat (first | (with_reducible first | exact HB.out | apply below_alloc | apply pw_below_drewN | apply below_drew1) | exact HB.out)⟩⟩
      case round =>
        clear H'
        try clear c1
        try clear p2
        try clear c4
        try clear c4b0
        try clear c4b1
        try clear c7
        try clear c7b0
        try clear c7b1
        obtain ⟨x8_1, x9_1, rfl, rfl, HA, HK1, HO_6, HB⟩ := hrel
        cases gk with
        | zero => exact absurd HA.out (by simp [formelaw02_CurveLong.l0])
        | succ k1 =>
          have H := HA.out
          clear HA
          simp only [formelaw02_CurveLong.l0] at H
          by_cases c10 : x9_1 < (t252.length : Int)
          · rw [if_pos c10] at H
            have c10b0 : decide (x9_1 < (t252.length : Int)) = true := decide_eq_true c10
            clear c10
            have HC11 := Aside0.mk H
            clear H
            obtain ⟨Ao12, co12, eo12⟩ := Kd.R_slice HO_6.out
            subst eo12
            go_upto_region 11 with (fail)
            repeat (go_quiet (fail); go_upto_region 11 with (fail))
            go_cut [69] (fun v69 wc => ∃ (kq : Nat) (x69_10 : Bool), v69 = .bool x69_10 ∧ Aside0 (formelaw02_CurveLong.j1 kq a0 l1 t251 t252 x8_1 x9_1 x69_10 = some r) ∧ Aside0 (kq ≤ k1) ∧ Aside0 (Kd.R k61 61 wc w.heap.size (fun _ => True) (.slice Ao12 t252.length co12) t252) ∧ Aside0 (Below w.heap.size w wc))
            case first =>
              have H := HC11.out
              clear HC11
              by_cases c13 : 0 ≤ x9_1
              · rw [if_pos c13] at H
                have c13b0 : decide (0 ≤ x9_1) = true := decide_eq_true c13
                clear c13
                (first | rw [c13b0] | (simp only [i64_w, i32_w]; rw [c13b0]) | skip)
                by_cases c14 : ((rd_T61 t252 x9_1).f0) = x8_1
                · rw [if_pos c14] at H
                  have c14b0 : (((rd_T61 t252 x9_1).f0) == x8_1) = true := beq_iff_eq.mpr c14
                  have c14b1 : (((rd_T61 t252 x9_1).f0) != x8_1) = false := bne_eq_false_iff_eq.mpr c14
                  clear c14
                  by_cases c15 : ((rd_T61 t252 x9_1).f1) ≤ x8_1
                  · rw [if_pos c15] at H
                    have c15b0 : decide (((rd_T61 t252 x9_1).f1) ≤ x8_1) = true := decide_eq_true c15
                    clear c15
                    have H' := Aside0.mk H
                    clear H
                    have p256 : 0 ≤ (x9_1 : Int) := of_decide_eq_true (by first | (with_reducible assumption) | assumption)
                    have q256 : x9_1 < (t252.length : Int) := of_decide_eq_true (by first | (with_reducible assumption) | assumption)
                    obtain ⟨ad256, e256, hx256_0, hx256_1, hx256_2, hx256_3, hx256_4⟩ := at_T61 (Kd.R_reads' HO_6.out).2.2 x9_1 p256 q256
                    cases e256
                    replace p256 := eq_true p256
                    replace q256 := eq_true q256
                    have p257 : 0 ≤ (x9_1 : Int) := of_decide_eq_true (by first | (with_reducible assumption) | assumption)
                    have q257 : x9_1 < (t252.length : Int) := of_decide_eq_true (by first | (with_reducible assumption) | assumption)
                    obtain ⟨ad257, e257, hx257_0, hx257_1, hx257_2, hx257_3, hx257_4⟩ := at_T61 (Kd.R_reads' HO_6.out).2.2 x9_1 p257 q257
                    obtain rfl : ad256 = ad257 := (by injection e257)
                    replace p257 := eq_true p257
                    replace q257 := eq_true q257
                    go_wp2
                    repeat (go_quiet (fail); try go_wp2)
                    go_meet
                    case rel => exact ⟨_, (true), (by first | rfl | (simp; done) | (simp [*]; done)), H', ⟨by have := HK1.out; first | omega | exact Nat.le_refl _⟩, ⟨by (with_reducible repeat (first | apply Kd.R_alloc | apply Kd.R_drewN | apply Kd.R_drew)); exact HO_6.out⟩, ⟨by repeat (first | (with_reducible first | exact HB.out | apply below_alloc | apply pw_below_drewN | apply below_drew1) | exact HB.out)⟩⟩
                  · rw [if_neg c15] at H
                    have c15b0 : decide (((rd_T61 t252 x9_1).f1) ≤ x8_1) = false := decide_eq_false c15
                    clear c15
                    have H' := Aside0.mk H
                    clear H
                    have p256 : 0 ≤ (x9_1 : Int) := of_decide_eq_true (by first | (with_reducible assumption) | assumption)
                    have q256 : x9_1 < (t252.length : Int) := of_decide_eq_true (by first | (with_reducible assumption) | assumption)
                    obtain ⟨ad256, e256, hx256_0, hx256_1, hx256_2, hx256_3, hx256_4⟩ := at_T61 (Kd.R_reads' HO_6.out).2.2 x9_1 p256 q256
                    cases e256
                    replace p256 := eq_true p256
                    replace q256 := eq_true q256
                    have p257 : 0 ≤ (x9_1 : Int) := of_decide_eq_true (by first | (with_reducible assumption) | assumption)
                    have q257 : x9_1 < (t252.length : Int) := of_decide_eq_true (by first | (with_reducible assumption) | assumption)
                    obtain ⟨ad257, e257, hx257_0, hx257_1, hx257_2, hx257_3, hx257_4⟩ := at_T61 (Kd.R_reads' HO_6.out).2.2 x9_1 p257 q257
                    obtain rfl : ad256 = ad257 := (by injection e257)
                    replace p257 := eq_true p257
                    replace q257 := eq_true q257
                    have p258 : 0 ≤ (x9_1 : Int) := of_decide_eq_true (by first | (with_reducible assumption) | assumption)
                    have q258 : x9_1 < (t252.length : Int) := of_decide_eq_true (by first | (with_reducible assumption) | assumption)
                    obtain ⟨ad258, e258, hx258_0, hx258_1, hx258_2, hx258_3, hx258_4⟩ := at_T61 (Kd.R_reads' HO_6.out).2.2 x9_1 p258 q258
                    obtain rfl : ad256 = ad258 := (by injection e258)
                    replace p258 := eq_true p258
                    replace q258 := eq_true q258
                    go_wp2
                    repeat (go_quiet (fail); try go_wp2)
                    go_meet
                    case rel => exact ⟨_, (decide (((rd_T61 t252 x9_1).f1) > (wrap64 (a0 + (l1.length : Int))))), (by first | rfl | (simp; done) | (simp [*]; done)), H', ⟨by have := HK1.out; first | omega | exact Nat.le_refl _⟩, ⟨by (with_reducible repeat (first | apply Kd.R_alloc | apply Kd.R_drewN | apply Kd.R_drew)); exact HO_6.out⟩, ⟨by repeat (first | (with_reducible first | exact HB.out | apply below_alloc | apply pw_below_drewN | apply below_drew1) | exact HB.out)⟩⟩
                · rw [if_neg c14] at H
                  have c14b0 : (((rd_T61 t252 x9_1).f0) == x8_1) = false := beq_eq_false_iff_ne.mpr c14
                  have c14b1 : (((rd_T61 t252 x9_1).f0) != x8_1) = true := bne_iff_ne.mpr c14
                  have H' := Aside0.mk H
                  clear H
                  have p256 : 0 ≤ (x9_1 : Int) := of_decide_eq_true (by first | (with_reducible assumption) | assumption)
                  have q256 : x9_1 < (t252.length : Int) := of_decide_eq_true (by first | (with_reducible assumption) | assumption)
                  obtain ⟨ad256, e256, hx256_0, hx256_1, hx256_2, hx256_3, hx256_4⟩ := at_T61 (Kd.R_reads' HO_6.out).2.2 x9_1 p256 q256
                  cases e256
                  replace p256 := eq_true p256
                  replace q256 := eq_true q256
                  go_wp2
                  repeat (go_quiet (fail); try go_wp2)
                  go_meet
                  case rel => exact ⟨_, (true), (by first | rfl | (simp; done) | (simp [*]; done)), H', ⟨by have := HK1.out; first | omega | exact Nat.le_refl _⟩, ⟨by (with_reducible repeat (first | apply Kd.R_alloc | apply Kd.R_drewN | apply Kd.R_drew)); exact HO_6.out⟩, ⟨by repeat (first | (with_reducible first | exact HB.out | apply below_alloc | apply pw_below_drewN | apply below_drew1) | exact HB.out)⟩⟩
              · rw [if_neg c13] at H
                exact absurd H (by simp)
            case rest =>
              clear HC11
              try clear c1
              try clear p2
              try clear q2
              try clear hx2
              try clear c4
              try clear c4b0
              try clear c4b1
              try clear p6
              try clear c7
              try clear c7b0
              try clear c7b1
              try clear c10
              try clear c10b0
              try clear c11
              try clear c13
              try clear c13b0
              try clear c14
              try clear c14b0
              try clear c14b1
              try clear c15
              try clear c15b0
              try clear hx256_0
              try clear hx256_1
              try clear hx256_2
              try clear hx256_3
              try clear hx256_4
              try clear hx257_0
              try clear hx257_1
              try clear hx257_2
              try clear hx257_3
              try clear hx257_4
              try clear hx258_0
              try clear hx258_1
              try clear hx258_2
              try clear hx258_3
              try clear hx258_4
              try clear p2
              try clear p256
              try clear p257
              try clear p258
              try clear q256
              try clear q257
              try clear q258
              obtain ⟨kq, x69_10, rfl, HA, HJ10, HO_6, HB⟩ := hcut
              cases kq with
              | zero => exact absurd HA.out (by simp [formelaw02_CurveLong.j1])
              | succ kj10 =>
                have H := HA.out
                clear HA
                simp only [formelaw02_CurveLong.j1] at H
                by_cases c16 : x69_10 = true
                · subst c16
                  have H1 : (some false) = some r := by rw [if_pos rfl] at H; exact H
                  clear H
                  have H := H1
                  clear H1
                  obtain rfl := Option.some.inj H
                  go_wp2
                  repeat (go_quiet (fail); try go_wp2)
                  go_ret
                  exact ⟨by first | rfl | (simp [errW_none, errW_some] <;> rfl) | (simp [*, errW_none, errW_some] <;> rfl), by repeat (first | (with_reducible first | exact HB.out | apply below_alloc | apply pw_below_drewN | apply below_drew1) | exact HB.out)⟩
                · replace c16 := Bool.eq_false_iff.mpr c16
                  subst c16
                  have H1 : (if 0 ≤ x9_1 then (if x9_1 < (t252.length : Int) then (if 0 ≤ (wrap64 (x8_1 - a0)) then (if (wrap64 (x8_1 - a0)) ≤ (wrap64 (((rd_T61 t252 x9_1).f1) - a0)) then (if (wrap64 (((rd_T61 t252 x9_1).f1) - a0)) ≤ (l1.length : Int) then ((quot_Fit.f ((l1.take ((wrap64 (((rd_T61 t252 x9_1).f1) - a0)) : Int).toNat).drop ((wrap64 (x8_1 - a0)) : Int).toNat)).bind fun bt261 => (if bt261.2.2.2.2 = 0 then (if bt261.2.2.2.1 = true then (formelaw02_CurveLong.j2 kj10 a0 l1 t251 t252 ((rd_T61 t252 x9_1).f1) x9_1 (!(bt261.1 == ((rd_T61 t252 x9_1).f2.f0)) || (!(bt261.2.1 == ((rd_T61 t252 x9_1).f2.f1)) || (!(bt261.2.2.1 == ((rd_T61 t252 x9_1).f2.f2)))))) else (formelaw02_CurveLong.j2 kj10 a0 l1 t251 t252 ((rd_T61 t252 x9_1).f1) x9_1 true)) else (formelaw02_CurveLong.j2 kj10 a0 l1 t251 t252 ((rd_T61 t252 x9_1).f1) x9_1 true))) else (none)) else (none)) else (none)) else (none)) else (none)) = some r := by rw [if_neg (show ¬ (false = true) by decide)] at H; exact H
                  clear H
                  have H := H1
                  clear H1
                  by_cases c17 : 0 ≤ x9_1
                  · rw [if_pos c17] at H
                    have c17b0 : decide (0 ≤ x9_1) = true := decide_eq_true c17
                    clear c17
                    by_cases c18 : x9_1 < (t252.length : Int)
                    · rw [if_pos c18] at H
                      have c18b0 : decide (x9_1 < (t252.length : Int)) = true := decide_eq_true c18
                      clear c18
                      obtain ⟨ji19, hji19⟩ : ∃ j_ : Int, (wrap64 (x8_1 - a0)) = j_ := ⟨_, rfl⟩
                      replace H : (if 0 ≤ (ji19) then (if (ji19) ≤ (wrap64 (((rd_T61 t252 x9_1).f1) - a0)) then (if (wrap64 (((rd_T61 t252 x9_1).f1) - a0)) ≤ (l1.length : Int) then ((quot_Fit.f ((l1.take ((wrap64 (((rd_T61 t252 x9_1).f1) - a0)) : Int).toNat).drop ((ji19) : Int).toNat)).bind fun bt261 => (if bt261.2.2.2.2 = 0 then (if bt261.2.2.2.1 = true then (formelaw02_CurveLong.j2 kj10 a0 l1 t251 t252 ((rd_T61 t252 x9_1).f1) x9_1 (!(bt261.1 == ((rd_T61 t252 x9_1).f2.f0)) || (!(bt261.2.1 == ((rd_T61 t252 x9_1).f2.f1)) || (!(bt261.2.2.1 == ((rd_T61 t252 x9_1).f2.f2)))))) else (formelaw02_CurveLong.j2 kj10 a0 l1 t251 t252 ((rd_T61 t252 x9_1).f1) x9_1 true)) else (formelaw02_CurveLong.j2 kj10 a0 l1 t251 t252 ((rd_T61 t252 x9_1).f1) x9_1 true))) else (none)) else (none)) else (none)) = some r := by first | (rw [hji19] at H; exact H) | (simp only [hji19] at H ⊢; exact H)
                      have hji19w : (IntKind.i64.wrap (x8_1 - a0)) = ji19 := (i64_w _).trans hji19
                      by_cases c20 : 0 ≤ (ji19)
                      · rw [if_pos c20] at H
                        have c20b0 := eq_true c20
                        have c20b1 : decide (0 ≤ (ji19)) = true := decide_eq_true c20
                        clear c20
                        by_cases c21 : (ji19) ≤ (wrap64 (((rd_T61 t252 x9_1).f1) - a0))
                        · rw [if_pos c21] at H
                          have c21b0 := eq_true c21
                          have c21b1 : decide ((ji19) ≤ (wrap64 (((rd_T61 t252 x9_1).f1) - a0))) = true := decide_eq_true c21
                          clear c21
                          by_cases c22 : (wrap64 (((rd_T61 t252 x9_1).f1) - a0)) ≤ (l1.length : Int)
                          · rw [if_pos c22] at H
                            have c22b0 := eq_true c22
                            have c22b1 : decide ((wrap64 (((rd_T61 t252 x9_1).f1) - a0)) ≤ (l1.length : Int)) = true := decide_eq_true c22
                            clear c22
                            replace H := Option.bind_eq_some_iff.mp H
                            obtain ⟨⟨t261, t262, t263, t264, t265⟩, A230, H⟩ := H
                            replace H : (if t265 = 0 then (if t264 = true then (formelaw02_CurveLong.j2 kj10 a0 l1 t251 t252 ((rd_T61 t252 x9_1).f1) x9_1 (!(t261 == ((rd_T61 t252 x9_1).f2.f0)) || (!(t262 == ((rd_T61 t252 x9_1).f2.f1)) || (!(t263 == ((rd_T61 t252 x9_1).f2.f2)))))) else (formelaw02_CurveLong.j2 kj10 a0 l1 t251 t252 ((rd_T61 t252 x9_1).f1) x9_1 true)) else (formelaw02_CurveLong.j2 kj10 a0 l1 t251 t252 ((rd_T61 t252 x9_1).f1) x9_1 true)) = some r := H
                            have A23 := Aside0.mk A230
                            clear A230
                            have HC24 := Aside0.mk H
                            clear H
                            have p259 : 0 ≤ (x9_1 : Int) := of_decide_eq_true (by first | (with_reducible assumption) | assumption)
                            have q259 : x9_1 < (t252.length : Int) := of_decide_eq_true (by first | (with_reducible assumption) | assumption)
                            obtain ⟨ad259, e259, hx259_0, hx259_1, hx259_2, hx259_3, hx259_4⟩ := at_T61 (Kd.R_reads' HO_6.out).2.2 x9_1 p259 q259
                            cases e259
                            replace p259 := eq_true p259
                            replace q259 := eq_true q259
                            obtain ⟨i025, hi025, _, hsz25, _⟩ := info_parts info3
                            obtain ⟨A25, hcut25, hA25, hC25⟩ := print_mid_of (P := Try.prog) (Value.int .i64) 0 24 3 .i64 .i64 Try.underlying24 hi025 hsz25 A1 c1 l1 (ji19) (wrap64 (((rd_T61 t252 x9_1).f1) - a0)) (of_decide_eq_true (by first | (with_reducible assumption) | assumption)) (by first | omega | exact of_decide_eq_true (by first | (with_reducible assumption) | assumption)) (of_decide_eq_true (by first | (with_reducible assumption) | assumption)) HC1.out
                            have HR260 := Aside0.mk (Kd.C_of_reads (h1 := fun _ => rfl) (hA25 _ (Kd.reads_of_C HR1.out)))
                            have HC260 := Aside0.mk hC25
                            clear hA25 hC25 hi025 hsz25
                            go_upto_region 15 with (first | (go_at_call 30; (try with_reducible refine calls_of_args (args' := #[.slice _ ((l1.take ((wrap64 (((rd_T61 t252 x9_1).f1) - a0)) : Int).toNat).drop ((ji19) : Int).toNat).length _]) (by rw [List.length_drop, List.length_take, Nat.min_eq_left (by have h_ := of_decide_eq_true (by first | (with_reducible assumption) | assumption : decide ((wrap64 (((rd_T61 t252 x9_1).f1) - a0)) ≤ (l1.length : Int)) = true); omega)]) ?_); (with_reducible refine (quot_Fit.calls _ _ ((l1.take ((wrap64 (((rd_T61 t252 x9_1).f1) - a0)) : Int).toNat).drop ((ji19) : Int).toNat) t261 t262 t263 t264 t265 _ ?side1 ?side2 A23.out).mono ?_); (case side1 => repeat (first | exact (Kd.C_below HR260.out HB.out) | (with_reducible refine Kd.C_alloc ?_ _) | (with_reducible refine Kd.C_drewN ?_ _) | (with_reducible refine Kd.C_drew ?_))); (case side2 => exact HC260.out); rintro e w26 ⟨rfl, hb⟩; have n0_ := Aside0.mk (Kd.R_below (by (with_reducible repeat (first | apply Kd.R_alloc | apply Kd.R_drewN | apply Kd.R_drew)); exact HO_6.out) hb); have n1_ := Aside0.mk (below_step (by repeat (first | (with_reducible first | exact HB.out | apply below_alloc | apply pw_below_drewN | apply below_drew1) | exact HB.out)) hb); clear HO_6; clear HB; have HO_6 := n0_; have HB := n1_; clear n0_ n1_; (try clear hb); (try clear hb2); (try clear hk); (try clear hi)) | ((with_reducible refine gate_dst (N := 10) rfl ?_); (try (refine gate_guard (by rfl) ?_; dsimp only)); refine box_event ?hg (N := 10) ?hd (cs := #[.int .i64 0, .int .i64 0, .int .i64 0]) (t := 23) ?hr ?_; (case hd => rfl); (case hg => rfl); (case hr => first | (go_simp; done) | (go_simp; rfl)); intro gb266 hg w27 hbox hb; have n0_ := Aside0.mk (Kd.R_below (by (with_reducible repeat (first | apply Kd.R_alloc | apply Kd.R_drewN | apply Kd.R_drew)); exact HO_6.out) hb); have n1_ := Aside0.mk (below_step (by repeat (first | (with_reducible first | exact HB.out | apply below_alloc | apply pw_below_drewN | apply below_drew1) | exact HB.out)) hb); have n2_ := Aside0.mk (hbox); have n3_ := Aside0.mk ((by rw [hg]; exact (below_size (by repeat (first | (with_reducible first | exact HB.out | apply below_alloc | apply pw_below_drewN | apply below_drew1) | exact HB.out))) : w.heap.size ≤ gb266)); have n4_ := Aside0.mk ((by rw [hg]; exact (below_size (by repeat (first | (with_reducible first | exact HB.out | apply below_alloc | apply pw_below_drewN | apply below_drew1) | exact HB.out))) : w.heap.size ≤ gb266)); clear HO_6; clear HB; have HO_6 := n0_; have HB := n1_; have BK266 := n2_; have GW266 := n3_; have GE266 := n4_; clear n0_ n1_ n2_ n3_ n4_; clear hb hbox hg; have hcz28_0 : w27.cell? ⟨gb266, 0, none⟩ = some (.int .i64 0) := (blk_cell BK266.out 0).trans rfl; have hcz28_1 : w27.cell? ⟨gb266, 1, none⟩ = some (.int .i64 0) := (blk_cell BK266.out 1).trans rfl; have hcz28_2 : w27.cell? ⟨gb266, 2, none⟩ = some (.int .i64 0) := (blk_cell BK266.out 2).trans rfl; have hfz28_0 := blk_frozen BK266.out 0; have hfz28_1 := blk_frozen BK266.out 1; have hfz28_2 := blk_frozen BK266.out 2; have p267 : 0 ≤ (x9_1 : Int) := of_decide_eq_true (by first | (with_reducible assumption) | assumption); have q267 : x9_1 < (t252.length : Int) := of_decide_eq_true (by first | (with_reducible assumption) | assumption); obtain ⟨ad267, e267, hx267_0, hx267_1, hx267_2, hx267_3, hx267_4⟩ := at_T61 (Kd.R_reads' HO_6.out).2.2 x9_1 p267 q267; obtain rfl : ad259 = ad267 := (by injection e267); have hn267_0 : ad259.block ≠ gb266 := Kd.own_blk (Kd.R_ne HO_6.out BK266.out (by decide)); have hn267_1 : ad259.block ≠ gb266 := Kd.own_blk (Kd.R_ne HO_6.out BK266.out (by decide)); have hn267_2 : ad259.block ≠ gb266 := Kd.own_blk (Kd.R_ne HO_6.out BK266.out (by decide)); replace hx267_0 := (cell_far (p := ⟨gb266, 0, none⟩) (by first | (rw [add_block]; exact hn267_0) | (show (Addr.add _ _).block ≠ _; rw [add_block]; exact hn267_0) | exact hn267_0) (.int .i64 t261)).trans hx267_0; replace hx267_1 := (cell_far (p := ⟨gb266, 0, none⟩) (by first | (rw [add_block]; exact hn267_0) | (show (Addr.add _ _).block ≠ _; rw [add_block]; exact hn267_0) | exact hn267_0) (.int .i64 t261)).trans hx267_1; replace hx267_2 := (cell_far (p := ⟨gb266, 0, none⟩) (by first | (rw [add_block]; exact hn267_0) | (show (Addr.add _ _).block ≠ _; rw [add_block]; exact hn267_0) | exact hn267_0) (.int .i64 t261)).trans hx267_2; replace hx267_3 := (cell_far (p := ⟨gb266, 0, none⟩) (by first | (rw [add_block]; exact hn267_0) | (show (Addr.add _ _).block ≠ _; rw [add_block]; exact hn267_0) | exact hn267_0) (.int .i64 t261)).trans hx267_3; replace hx267_4 := (cell_far (p := ⟨gb266, 0, none⟩) (by first | (rw [add_block]; exact hn267_0) | (show (Addr.add _ _).block ≠ _; rw [add_block]; exact hn267_0) | exact hn267_0) (.int .i64 t261)).trans hx267_4; replace hx267_0 := (cell_far (p := ⟨gb266, 1, none⟩) (by first | (rw [add_block]; exact hn267_1) | (show (Addr.add _ _).block ≠ _; rw [add_block]; exact hn267_1) | exact hn267_1) (.int .i64 t262)).trans hx267_0; replace hx267_1 := (cell_far (p := ⟨gb266, 1, none⟩) (by first | (rw [add_block]; exact hn267_1) | (show (Addr.add _ _).block ≠ _; rw [add_block]; exact hn267_1) | exact hn267_1) (.int .i64 t262)).trans hx267_1; replace hx267_2 := (cell_far (p := ⟨gb266, 1, none⟩) (by first | (rw [add_block]; exact hn267_1) | (show (Addr.add _ _).block ≠ _; rw [add_block]; exact hn267_1) | exact hn267_1) (.int .i64 t262)).trans hx267_2; replace hx267_3 := (cell_far (p := ⟨gb266, 1, none⟩) (by first | (rw [add_block]; exact hn267_1) | (show (Addr.add _ _).block ≠ _; rw [add_block]; exact hn267_1) | exact hn267_1) (.int .i64 t262)).trans hx267_3; replace hx267_4 := (cell_far (p := ⟨gb266, 1, none⟩) (by first | (rw [add_block]; exact hn267_1) | (show (Addr.add _ _).block ≠ _; rw [add_block]; exact hn267_1) | exact hn267_1) (.int .i64 t262)).trans hx267_4; replace hx267_0 := (cell_far (p := ⟨gb266, 2, none⟩) (by first | (rw [add_block]; exact hn267_2) | (show (Addr.add _ _).block ≠ _; rw [add_block]; exact hn267_2) | exact hn267_2) (.int .i64 t263)).trans hx267_0; replace hx267_1 := (cell_far (p := ⟨gb266, 2, none⟩) (by first | (rw [add_block]; exact hn267_2) | (show (Addr.add _ _).block ≠ _; rw [add_block]; exact hn267_2) | exact hn267_2) (.int .i64 t263)).trans hx267_1; replace hx267_2 := (cell_far (p := ⟨gb266, 2, none⟩) (by first | (rw [add_block]; exact hn267_2) | (show (Addr.add _ _).block ≠ _; rw [add_block]; exact hn267_2) | exact hn267_2) (.int .i64 t263)).trans hx267_2; replace hx267_3 := (cell_far (p := ⟨gb266, 2, none⟩) (by first | (rw [add_block]; exact hn267_2) | (show (Addr.add _ _).block ≠ _; rw [add_block]; exact hn267_2) | exact hn267_2) (.int .i64 t263)).trans hx267_3; replace hx267_4 := (cell_far (p := ⟨gb266, 2, none⟩) (by first | (rw [add_block]; exact hn267_2) | (show (Addr.add _ _).block ≠ _; rw [add_block]; exact hn267_2) | exact hn267_2) (.int .i64 t263)).trans hx267_4; (try have hy267_0 := fun (n_ : Nat) => (show (((((w27.drewN n_).setCell ⟨gb266, 0, none⟩ (.int .i64 t261)).setCell ⟨gb266, 1, none⟩ (.int .i64 t262)).setCell ⟨gb266, 2, none⟩ (.int .i64 t263))).cell? _ = some _ from hx267_0)); (try have hy267_1 := fun (n_ : Nat) => (show (((((w27.drewN n_).setCell ⟨gb266, 0, none⟩ (.int .i64 t261)).setCell ⟨gb266, 1, none⟩ (.int .i64 t262)).setCell ⟨gb266, 2, none⟩ (.int .i64 t263))).cell? _ = some _ from hx267_1)); (try have hy267_2 := fun (n_ : Nat) => (show (((((w27.drewN n_).setCell ⟨gb266, 0, none⟩ (.int .i64 t261)).setCell ⟨gb266, 1, none⟩ (.int .i64 t262)).setCell ⟨gb266, 2, none⟩ (.int .i64 t263))).cell? _ = some _ from hx267_2)); (try have hy267_3 := fun (n_ : Nat) => (show (((((w27.drewN n_).setCell ⟨gb266, 0, none⟩ (.int .i64 t261)).setCell ⟨gb266, 1, none⟩ (.int .i64 t262)).setCell ⟨gb266, 2, none⟩ (.int .i64 t263))).cell? _ = some _ from hx267_3)); (try have hy267_4 := fun (n_ : Nat) => (show (((((w27.drewN n_).setCell ⟨gb266, 0, none⟩ (.int .i64 t261)).setCell ⟨gb266, 1, none⟩ (.int .i64 t262)).setCell ⟨gb266, 2, none⟩ (.int .i64 t263))).cell? _ = some _ from hx267_4)); clear hn267_0; clear hn267_1; clear hn267_2; replace p267 := eq_true p267; replace q267 := eq_true q267))
                            repeat (go_quiet (first | (go_at_call 30; (try with_reducible refine calls_of_args (args' := #[.slice _ ((l1.take ((wrap64 (((rd_T61 t252 x9_1).f1) - a0)) : Int).toNat).drop ((ji19) : Int).toNat).length _]) (by rw [List.length_drop, List.length_take, Nat.min_eq_left (by have h_ := of_decide_eq_true (by first | (with_reducible assumption) | assumption : decide ((wrap64 (((rd_T61 t252 x9_1).f1) - a0)) ≤ (l1.length : Int)) = true); omega)]) ?_); (with_reducible refine (quot_Fit.calls _ _ ((l1.take ((wrap64 (((rd_T61 t252 x9_1).f1) - a0)) : Int).toNat).drop ((ji19) : Int).toNat) t261 t262 t263 t264 t265 _ ?side1 ?side2 A23.out).mono ?_); (case side1 => repeat (first | exact (Kd.C_below HR260.out HB.out) | (with_reducible refine Kd.C_alloc ?_ _) | (with_reducible refine Kd.C_drewN ?_ _) | (with_reducible refine Kd.C_drew ?_))); (case side2 => exact HC260.out); rintro e w26 ⟨rfl, hb⟩; have n0_ := Aside0.mk (Kd.R_below (by (with_reducible repeat (first | apply Kd.R_alloc | apply Kd.R_drewN | apply Kd.R_drew)); exact HO_6.out) hb); have n1_ := Aside0.mk (below_step (by repeat (first | (with_reducible first | exact HB.out | apply below_alloc | apply pw_below_drewN | apply below_drew1) | exact HB.out)) hb); clear HO_6; clear HB; have HO_6 := n0_; have HB := n1_; clear n0_ n1_; (try clear hb); (try clear hb2); (try clear hk); (try clear hi)) | ((with_reducible refine gate_dst (N := 10) rfl ?_); (try (refine gate_guard (by rfl) ?_; dsimp only)); refine box_event ?hg (N := 10) ?hd (cs := #[.int .i64 0, .int .i64 0, .int .i64 0]) (t := 23) ?hr ?_; (case hd => rfl); (case hg => rfl); (case hr => first | (go_simp; done) | (go_simp; rfl)); intro gb266 hg w27 hbox hb; have n0_ := Aside0.mk (Kd.R_below (by (with_reducible repeat (first | apply Kd.R_alloc | apply Kd.R_drewN | apply Kd.R_drew)); exact HO_6.out) hb); have n1_ := Aside0.mk (below_step (by repeat (first | (with_reducible first | exact HB.out | apply below_alloc | apply pw_below_drewN | apply below_drew1) | exact HB.out)) hb); have n2_ := Aside0.mk (hbox); have n3_ := Aside0.mk ((by rw [hg]; exact (below_size (by repeat (first | (with_reducible first | exact HB.out | apply below_alloc | apply pw_below_drewN | apply below_drew1) | exact HB.out))) : w.heap.size ≤ gb266)); have n4_ := Aside0.mk ((by rw [hg]; exact (below_size (by repeat (first | (with_reducible first | exact HB.out | apply below_alloc | apply pw_below_drewN | apply below_drew1) | exact HB.out))) : w.heap.size ≤ gb266)); clear HO_6; clear HB; have HO_6 := n0_; have HB := n1_; have BK266 := n2_; have GW266 := n3_; have GE266 := n4_; clear n0_ n1_ n2_ n3_ n4_; clear hb hbox hg; have hcz28_0 : w27.cell? ⟨gb266, 0, none⟩ = some (.int .i64 0) := (blk_cell BK266.out 0).trans rfl; have hcz28_1 : w27.cell? ⟨gb266, 1, none⟩ = some (.int .i64 0) := (blk_cell BK266.out 1).trans rfl; have hcz28_2 : w27.cell? ⟨gb266, 2, none⟩ = some (.int .i64 0) := (blk_cell BK266.out 2).trans rfl; have hfz28_0 := blk_frozen BK266.out 0; have hfz28_1 := blk_frozen BK266.out 1; have hfz28_2 := blk_frozen BK266.out 2; have p267 : 0 ≤ (x9_1 : Int) := of_decide_eq_true (by first | (with_reducible assumption) | assumption); have q267 : x9_1 < (t252.length : Int) := of_decide_eq_true (by first | (with_reducible assumption) | assumption); obtain ⟨ad267, e267, hx267_0, hx267_1, hx267_2, hx267_3, hx267_4⟩ := at_T61 (Kd.R_reads' HO_6.out).2.2 x9_1 p267 q267; obtain rfl : ad259 = ad267 := (by injection e267); have hn267_0 : ad259.block ≠ gb266 := Kd.own_blk (Kd.R_ne HO_6.out BK266.out (by decide)); have hn267_1 : ad259.block ≠ gb266 := Kd.own_blk (Kd.R_ne HO_6.out BK266.out (by decide)); have hn267_2 : ad259.block ≠ gb266 := Kd.own_blk (Kd.R_ne HO_6.out BK266.out (by decide)); replace hx267_0 := (cell_far (p := ⟨gb266, 0, none⟩) (by first | (rw [add_block]; exact hn267_0) | (show (Addr.add _ _).block ≠ _; rw [add_block]; exact hn267_0) | exact hn267_0) (.int .i64 t261)).trans hx267_0; replace hx267_1 := (cell_far (p := ⟨gb266, 0, none⟩) (by first | (rw [add_block]; exact hn267_0) | (show (Addr.add _ _).block ≠ _; rw [add_block]; exact hn267_0) | exact hn267_0) (.int .i64 t261)).trans hx267_1; replace hx267_2 := (cell_far (p := ⟨gb266, 0, none⟩) (by first | (rw [add_block]; exact hn267_0) | (show (Addr.add _ _).block ≠ _; rw [add_block]; exact hn267_0) | exact hn267_0) (.int .i64 t261)).trans hx267_2; replace hx267_3 := (cell_far (p := ⟨gb266, 0, none⟩) (by first | (rw [add_block]; exact hn267_0) | (show (Addr.add _ _).block ≠ _; rw [add_block]; exact hn267_0) | exact hn267_0) (.int .i64 t261)).trans hx267_3; replace hx267_4 := (cell_far (p := ⟨gb266, 0, none⟩) (by first | (rw [add_block]; exact hn267_0) | (show (Addr.add _ _).block ≠ _; rw [add_block]; exact hn267_0) | exact hn267_0) (.int .i64 t261)).trans hx267_4; replace hx267_0 := (cell_far (p := ⟨gb266, 1, none⟩) (by first | (rw [add_block]; exact hn267_1) | (show (Addr.add _ _).block ≠ _; rw [add_block]; exact hn267_1) | exact hn267_1) (.int .i64 t262)).trans hx267_0; replace hx267_1 := (cell_far (p := ⟨gb266, 1, none⟩) (by first | (rw [add_block]; exact hn267_1) | (show (Addr.add _ _).block ≠ _; rw [add_block]; exact hn267_1) | exact hn267_1) (.int .i64 t262)).trans hx267_1; replace hx267_2 := (cell_far (p := ⟨gb266, 1, none⟩) (by first | (rw [add_block]; exact hn267_1) | (show (Addr.add _ _).block ≠ _; rw [add_block]; exact hn267_1) | exact hn267_1) (.int .i64 t262)).trans hx267_2; replace hx267_3 := (cell_far (p := ⟨gb266, 1, none⟩) (by first | (rw [add_block]; exact hn267_1) | (show (Addr.add _ _).block ≠ _; rw [add_block]; exact hn267_1) | exact hn267_1) (.int .i64 t262)).trans hx267_3; replace hx267_4 := (cell_far (p := ⟨gb266, 1, none⟩) (by first | (rw [add_block]; exact hn267_1) | (show (Addr.add _ _).block ≠ _; rw [add_block]; exact hn267_1) | exact hn267_1) (.int .i64 t262)).trans hx267_4; replace hx267_0 := (cell_far (p := ⟨gb266, 2, none⟩) (by first | (rw [add_block]; exact hn267_2) | (show (Addr.add _ _).block ≠ _; rw [add_block]; exact hn267_2) | exact hn267_2) (.int .i64 t263)).trans hx267_0; replace hx267_1 := (cell_far (p := ⟨gb266, 2, none⟩) (by first | (rw [add_block]; exact hn267_2) | (show (Addr.add _ _).block ≠ _; rw [add_block]; exact hn267_2) | exact hn267_2) (.int .i64 t263)).trans hx267_1; replace hx267_2 := (cell_far (p := ⟨gb266, 2, none⟩) (by first | (rw [add_block]; exact hn267_2) | (show (Addr.add _ _).block ≠ _; rw [add_block]; exact hn267_2) | exact hn267_2) (.int .i64 t263)).trans hx267_2; replace hx267_3 := (cell_far (p := ⟨gb266, 2, none⟩) (by first | (rw [add_block]; exact hn267_2) | (show (Addr.add _ _).block ≠ _; rw [add_block]; exact hn267_2) | exact hn267_2) (.int .i64 t263)).trans hx267_3; replace hx267_4 := (cell_far (p := ⟨gb266, 2, none⟩) (by first | (rw [add_block]; exact hn267_2) | (show (Addr.add _ _).block ≠ _; rw [add_block]; exact hn267_2) | exact hn267_2) (.int .i64 t263)).trans hx267_4; (try have hy267_0 := fun (n_ : Nat) => (show (((((w27.drewN n_).setCell ⟨gb266, 0, none⟩ (.int .i64 t261)).setCell ⟨gb266, 1, none⟩ (.int .i64 t262)).setCell ⟨gb266, 2, none⟩ (.int .i64 t263))).cell? _ = some _ from hx267_0)); (try have hy267_1 := fun (n_ : Nat) => (show (((((w27.drewN n_).setCell ⟨gb266, 0, none⟩ (.int .i64 t261)).setCell ⟨gb266, 1, none⟩ (.int .i64 t262)).setCell ⟨gb266, 2, none⟩ (.int .i64 t263))).cell? _ = some _ from hx267_1)); (try have hy267_2 := fun (n_ : Nat) => (show (((((w27.drewN n_).setCell ⟨gb266, 0, none⟩ (.int .i64 t261)).setCell ⟨gb266, 1, none⟩ (.int .i64 t262)).setCell ⟨gb266, 2, none⟩ (.int .i64 t263))).cell? _ = some _ from hx267_2)); (try have hy267_3 := fun (n_ : Nat) => (show (((((w27.drewN n_).setCell ⟨gb266, 0, none⟩ (.int .i64 t261)).setCell ⟨gb266, 1, none⟩ (.int .i64 t262)).setCell ⟨gb266, 2, none⟩ (.int .i64 t263))).cell? _ = some _ from hx267_3)); (try have hy267_4 := fun (n_ : Nat) => (show (((((w27.drewN n_).setCell ⟨gb266, 0, none⟩ (.int .i64 t261)).setCell ⟨gb266, 1, none⟩ (.int .i64 t262)).setCell ⟨gb266, 2, none⟩ (.int .i64 t263))).cell? _ = some _ from hx267_4)); clear hn267_0; clear hn267_1; clear hn267_2; replace p267 := eq_true p267; replace q267 := eq_true q267)); go_upto_region 15 with (first | (go_at_call 30; (try with_reducible refine calls_of_args (args' := #[.slice _ ((l1.take ((wrap64 (((rd_T61 t252 x9_1).f1) - a0)) : Int).toNat).drop ((ji19) : Int).toNat).length _]) (by rw [List.length_drop, List.length_take, Nat.min_eq_left (by have h_ := of_decide_eq_true (by first | (with_reducible assumption) | assumption : decide ((wrap64 (((rd_T61 t252 x9_1).f1) - a0)) ≤ (l1.length : Int)) = true); omega)]) ?_); (with_reducible refine (quot_Fit.calls _ _ ((l1.take ((wrap64 (((rd_T61 t252 x9_1).f1) - a0)) : Int).toNat).drop ((ji19) : Int).toNat) t261 t262 t263 t264 t265 _ ?side1 ?side2 A23.out).mono ?_); (case side1 => repeat (first | exact (Kd.C_below HR260.out HB.out) | (with_reducible refine Kd.C_alloc ?_ _) | (with_reducible refine Kd.C_drewN ?_ _) | (with_reducible refine Kd.C_drew ?_))); (case side2 => exact HC260.out); rintro e w26 ⟨rfl, hb⟩; have n0_ := Aside0.mk (Kd.R_below (by (with_reducible repeat (first | apply Kd.R_alloc | apply Kd.R_drewN | apply Kd.R_drew)); exact HO_6.out) hb); have n1_ := Aside0.mk (below_step (by repeat (first | (with_reducible first | exact HB.out | apply below_alloc | apply pw_below_drewN | apply below_drew1) | exact HB.out)) hb); clear HO_6; clear HB; have HO_6 := n0_; have HB := n1_; clear n0_ n1_; (try clear hb); (try clear hb2); (try clear hk); (try clear hi)) | ((with_reducible refine gate_dst (N := 10) rfl ?_); (try (refine gate_guard (by rfl) ?_; dsimp only)); refine box_event ?hg (N := 10) ?hd (cs := #[.int .i64 0, .int .i64 0, .int .i64 0]) (t := 23) ?hr ?_; (case hd => rfl); (case hg => rfl); (case hr => first | (go_simp; done) | (go_simp; rfl)); intro gb266 hg w27 hbox hb; have n0_ := Aside0.mk (Kd.R_below (by (with_reducible repeat (first | apply Kd.R_alloc | apply Kd.R_drewN | apply Kd.R_drew)); exact HO_6.out) hb); have n1_ := Aside0.mk (below_step (by repeat (first | (with_reducible first | exact HB.out | apply below_alloc | apply pw_below_drewN | apply below_drew1) | exact HB.out)) hb); have n2_ := Aside0.mk (hbox); have n3_ := Aside0.mk ((by rw [hg]; exact (below_size (by repeat (first | (with_reducible first | exact HB.out | apply below_alloc | apply pw_below_drewN | apply below_drew1) | exact HB.out))) : w.heap.size ≤ gb266)); have n4_ := Aside0.mk ((by rw [hg]; exact (below_size (by repeat (first | (with_reducible first | exact HB.out | apply below_alloc | apply pw_below_drewN | apply below_drew1) | exact HB.out))) : w.heap.size ≤ gb266)); clear HO_6; clear HB; have HO_6 := n0_; have HB := n1_; have BK266 := n2_; have GW266 := n3_; have GE266 := n4_; clear n0_ n1_ n2_ n3_ n4_; clear hb hbox hg; have hcz28_0 : w27.cell? ⟨gb266, 0, none⟩ = some (.int .i64 0) := (blk_cell BK266.out 0).trans rfl; have hcz28_1 : w27.cell? ⟨gb266, 1, none⟩ = some (.int .i64 0) := (blk_cell BK266.out 1).trans rfl; have hcz28_2 : w27.cell? ⟨gb266, 2, none⟩ = some (.int .i64 0) := (blk_cell BK266.out 2).trans rfl; have hfz28_0 := blk_frozen BK266.out 0; have hfz28_1 := blk_frozen BK266.out 1; have hfz28_2 := blk_frozen BK266.out 2; have p267 : 0 ≤ (x9_1 : Int) := of_decide_eq_true (by first | (with_reducible assumption) | assumption); have q267 : x9_1 < (t252.length : Int) := of_decide_eq_true (by first | (with_reducible assumption) | assumption); obtain ⟨ad267, e267, hx267_0, hx267_1, hx267_2, hx267_3, hx267_4⟩ := at_T61 (Kd.R_reads' HO_6.out).2.2 x9_1 p267 q267; obtain rfl : ad259 = ad267 := (by injection e267); have hn267_0 : ad259.block ≠ gb266 := Kd.own_blk (Kd.R_ne HO_6.out BK266.out (by decide)); have hn267_1 : ad259.block ≠ gb266 := Kd.own_blk (Kd.R_ne HO_6.out BK266.out (by decide)); have hn267_2 : ad259.block ≠ gb266 := Kd.own_blk (Kd.R_ne HO_6.out BK266.out (by decide)); replace hx267_0 := (cell_far (p := ⟨gb266, 0, none⟩) (by first | (rw [add_block]; exact hn267_0) | (show (Addr.add _ _).block ≠ _; rw [add_block]; exact hn267_0) | exact hn267_0) (.int .i64 t261)).trans hx267_0; replace hx267_1 := (cell_far (p := ⟨gb266, 0, none⟩) (by first | (rw [add_block]; exact hn267_0) | (show (Addr.add _ _).block ≠ _; rw [add_block]; exact hn267_0) | exact hn267_0) (.int .i64 t261)).trans hx267_1; replace hx267_2 := (cell_far (p := ⟨gb266, 0, none⟩) (by first | (rw [add_block]; exact hn267_0) | (show (Addr.add _ _).block ≠ _; rw [add_block]; exact hn267_0) | exact hn267_0) (.int .i64 t261)).trans hx267_2; replace hx267_3 := (cell_far (p := ⟨gb266, 0, none⟩) (by first | (rw [add_block]; exact hn267_0) | (show (Addr.add _ _).block ≠ _; rw [add_block]; exact hn267_0) | exact hn267_0) (.int .i64 t261)).trans hx267_3; replace hx267_4 := (cell_far (p := ⟨gb266, 0, none⟩) (by first | (rw [add_block]; exact hn267_0) | (show (Addr.add _ _).block ≠ _; rw [add_block]; exact hn267_0) | exact hn267_0) (.int .i64 t261)).trans hx267_4; replace hx267_0 := (cell_far (p := ⟨gb266, 1, none⟩) (by first | (rw [add_block]; exact hn267_1) | (show (Addr.add _ _).block ≠ _; rw [add_block]; exact hn267_1) | exact hn267_1) (.int .i64 t262)).trans hx267_0; replace hx267_1 := (cell_far (p := ⟨gb266, 1, none⟩) (by first | (rw [add_block]; exact hn267_1) | (show (Addr.add _ _).block ≠ _; rw [add_block]; exact hn267_1) | exact hn267_1) (.int .i64 t262)).trans hx267_1; replace hx267_2 := (cell_far (p := ⟨gb266, 1, none⟩) (by first | (rw [add_block]; exact hn267_1) | (show (Addr.add _ _).block ≠ _; rw [add_block]; exact hn267_1) | exact hn267_1) (.int .i64 t262)).trans hx267_2; replace hx267_3 := (cell_far (p := ⟨gb266, 1, none⟩) (by first | (rw [add_block]; exact hn267_1) | (show (Addr.add _ _).block ≠ _; rw [add_block]; exact hn267_1) | exact hn267_1) (.int .i64 t262)).trans hx267_3; replace hx267_4 := (cell_far (p := ⟨gb266, 1, none⟩) (by first | (rw [add_block]; exact hn267_1) | (show (Addr.add _ _).block ≠ _; rw [add_block]; exact hn267_1) | exact hn267_1) (.int .i64 t262)).trans hx267_4; replace hx267_0 := (cell_far (p := ⟨gb266, 2, none⟩) (by first | (rw [add_block]; exact hn267_2) | (show (Addr.add _ _).block ≠ _; rw [add_block]; exact hn267_2) | exact hn267_2) (.int .i64 t263)).trans hx267_0; replace hx267_1 := (cell_far (p := ⟨gb266, 2, none⟩) (by first | (rw [add_block]; exact hn267_2) | (show (Addr.add _ _).block ≠ _; rw [add_block]; exact hn267_2) | exact hn267_2) (.int .i64 t263)).trans hx267_1; replace hx267_2 := (cell_far (p := ⟨gb266, 2, none⟩) (by first | (rw [add_block]; exact hn267_2) | (show (Addr.add _ _).block ≠ _; rw [add_block]; exact hn267_2) | exact hn267_2) (.int .i64 t263)).trans hx267_2; replace hx267_3 := (cell_far (p := ⟨gb266, 2, none⟩) (by first | (rw [add_block]; exact hn267_2) | (show (Addr.add _ _).block ≠ _; rw [add_block]; exact hn267_2) | exact hn267_2) (.int .i64 t263)).trans hx267_3; replace hx267_4 := (cell_far (p := ⟨gb266, 2, none⟩) (by first | (rw [add_block]; exact hn267_2) | (show (Addr.add _ _).block ≠ _; rw [add_block]; exact hn267_2) | exact hn267_2) (.int .i64 t263)).trans hx267_4; (try have hy267_0 := fun (n_ : Nat) => (show (((((w27.drewN n_).setCell ⟨gb266, 0, none⟩ (.int .i64 t261)).setCell ⟨gb266, 1, none⟩ (.int .i64 t262)).setCell ⟨gb266, 2, none⟩ (.int .i64 t263))).cell? _ = some _ from hx267_0)); (try have hy267_1 := fun (n_ : Nat) => (show (((((w27.drewN n_).setCell ⟨gb266, 0, none⟩ (.int .i64 t261)).setCell ⟨gb266, 1, none⟩ (.int .i64 t262)).setCell ⟨gb266, 2, none⟩ (.int .i64 t263))).cell? _ = some _ from hx267_1)); (try have hy267_2 := fun (n_ : Nat) => (show (((((w27.drewN n_).setCell ⟨gb266, 0, none⟩ (.int .i64 t261)).setCell ⟨gb266, 1, none⟩ (.int .i64 t262)).setCell ⟨gb266, 2, none⟩ (.int .i64 t263))).cell? _ = some _ from hx267_2)); (try have hy267_3 := fun (n_ : Nat) => (show (((((w27.drewN n_).setCell ⟨gb266, 0, none⟩ (.int .i64 t261)).setCell ⟨gb266, 1, none⟩ (.int .i64 t262)).setCell ⟨gb266, 2, none⟩ (.int .i64 t263))).cell? _ = some _ from hx267_3)); (try have hy267_4 := fun (n_ : Nat) => (show (((((w27.drewN n_).setCell ⟨gb266, 0, none⟩ (.int .i64 t261)).setCell ⟨gb266, 1, none⟩ (.int .i64 t262)).setCell ⟨gb266, 2, none⟩ (.int .i64 t263))).cell? _ = some _ from hx267_4)); clear hn267_0; clear hn267_1; clear hn267_2; replace p267 := eq_true p267; replace q267 := eq_true q267)))
                            (try simp only [Act.put, List.setIfInBounds_toArray, List.set_cons_zero, List.set_cons_succ])
                            go_cut [106] (fun v106 wc => ∃ (kq : Nat) (x106_23 : Bool), v106 = .bool x106_23 ∧ Aside0 (formelaw02_CurveLong.j2 kq a0 l1 t251 t252 ((rd_T61 t252 x9_1).f1) x9_1 x106_23 = some r) ∧ Aside0 (kq ≤ kj10) ∧ Aside0 (Kd.R k61 61 wc w.heap.size (fun _ => True) (.slice (some ad259) t252.length co12) t252) ∧ Aside0 (wc.heap[gb266]? = some (.cells #[.int .i64 t261, .int .i64 t262, .int .i64 t263] 23 (0, 0))) ∧ Aside0 (Below w.heap.size w wc))
                            case first =>
                              have H := HC24.out
                              clear HC24
                              by_cases c29 : t265 = 0
                              · rw [if_pos c29] at H
                                have c29b0 : (t265 == 0) = true := beq_iff_eq.mpr c29
                                have c29b1 : (t265 != 0) = false := bne_eq_false_iff_eq.mpr c29
                                clear c29
                                (first | rw [c29b0] | (simp only [i64_w, i32_w]; rw [c29b0]) | skip)
                                by_cases c30 : t264 = true
                                · subst c30
                                  have H1 : (formelaw02_CurveLong.j2 kj10 a0 l1 t251 t252 ((rd_T61 t252 x9_1).f1) x9_1 (!(t261 == ((rd_T61 t252 x9_1).f2.f0)) || (!(t262 == ((rd_T61 t252 x9_1).f2.f1)) || (!(t263 == ((rd_T61 t252 x9_1).f2.f2)))))) = some r := by rw [if_pos rfl] at H; exact H
                                  clear H
                                  have H := H1
                                  clear H1
                                  have H' := Aside0.mk H
                                  clear H
                                  have hcz31_0 : w27.cell? ⟨gb266, 0, none⟩ = some (.int .i64 0) := (blk_cell BK266.out 0).trans rfl
                                  have hcz31_1 : w27.cell? ⟨gb266, 1, none⟩ = some (.int .i64 0) := (blk_cell BK266.out 1).trans rfl
                                  have hcz31_2 : w27.cell? ⟨gb266, 2, none⟩ = some (.int .i64 0) := (blk_cell BK266.out 2).trans rfl
                                  have hfz31_0 := blk_frozen BK266.out 0
                                  have hfz31_1 := blk_frozen BK266.out 1
                                  have hfz31_2 := blk_frozen BK266.out 2
                                  have p268 : 0 ≤ (x9_1 : Int) := of_decide_eq_true (by first | (with_reducible assumption) | assumption)
                                  have q268 : x9_1 < (t252.length : Int) := of_decide_eq_true (by first | (with_reducible assumption) | assumption)
                                  obtain ⟨ad268, e268, hx268_0, hx268_1, hx268_2, hx268_3, hx268_4⟩ := at_T61 (Kd.R_reads' HO_6.out).2.2 x9_1 p268 q268
                                  obtain rfl : ad259 = ad268 := (by injection e268)
                                  have hn268_0 : ad259.block ≠ gb266 := Kd.own_blk (Kd.R_ne HO_6.out BK266.out (by decide))
                                  have hn268_1 : ad259.block ≠ gb266 := Kd.own_blk (Kd.R_ne HO_6.out BK266.out (by decide))
                                  have hn268_2 : ad259.block ≠ gb266 := Kd.own_blk (Kd.R_ne HO_6.out BK266.out (by decide))
                                  replace hx268_0 := (cell_far (p := ⟨gb266, 0, none⟩) (by first | (rw [add_block]; exact hn268_0) | (show (Addr.add _ _).block ≠ _; rw [add_block]; exact hn268_0) | exact hn268_0) (.int .i64 t261)).trans hx268_0
                                  replace hx268_1 := (cell_far (p := ⟨gb266, 0, none⟩) (by first | (rw [add_block]; exact hn268_0) | (show (Addr.add _ _).block ≠ _; rw [add_block]; exact hn268_0) | exact hn268_0) (.int .i64 t261)).trans hx268_1
                                  replace hx268_2 := (cell_far (p := ⟨gb266, 0, none⟩) (by first | (rw [add_block]; exact hn268_0) | (show (Addr.add _ _).block ≠ _; rw [add_block]; exact hn268_0) | exact hn268_0) (.int .i64 t261)).trans hx268_2
                                  replace hx268_3 := (cell_far (p := ⟨gb266, 0, none⟩) (by first | (rw [add_block]; exact hn268_0) | (show (Addr.add _ _).block ≠ _; rw [add_block]; exact hn268_0) | exact hn268_0) (.int .i64 t261)).trans hx268_3
                                  replace hx268_4 := (cell_far (p := ⟨gb266, 0, none⟩) (by first | (rw [add_block]; exact hn268_0) | (show (Addr.add _ _).block ≠ _; rw [add_block]; exact hn268_0) | exact hn268_0) (.int .i64 t261)).trans hx268_4
                                  replace hx268_0 := (cell_far (p := ⟨gb266, 1, none⟩) (by first | (rw [add_block]; exact hn268_1) | (show (Addr.add _ _).block ≠ _; rw [add_block]; exact hn268_1) | exact hn268_1) (.int .i64 t262)).trans hx268_0
                                  replace hx268_1 := (cell_far (p := ⟨gb266, 1, none⟩) (by first | (rw [add_block]; exact hn268_1) | (show (Addr.add _ _).block ≠ _; rw [add_block]; exact hn268_1) | exact hn268_1) (.int .i64 t262)).trans hx268_1
                                  replace hx268_2 := (cell_far (p := ⟨gb266, 1, none⟩) (by first | (rw [add_block]; exact hn268_1) | (show (Addr.add _ _).block ≠ _; rw [add_block]; exact hn268_1) | exact hn268_1) (.int .i64 t262)).trans hx268_2
                                  replace hx268_3 := (cell_far (p := ⟨gb266, 1, none⟩) (by first | (rw [add_block]; exact hn268_1) | (show (Addr.add _ _).block ≠ _; rw [add_block]; exact hn268_1) | exact hn268_1) (.int .i64 t262)).trans hx268_3
                                  replace hx268_4 := (cell_far (p := ⟨gb266, 1, none⟩) (by first | (rw [add_block]; exact hn268_1) | (show (Addr.add _ _).block ≠ _; rw [add_block]; exact hn268_1) | exact hn268_1) (.int .i64 t262)).trans hx268_4
                                  replace hx268_0 := (cell_far (p := ⟨gb266, 2, none⟩) (by first | (rw [add_block]; exact hn268_2) | (show (Addr.add _ _).block ≠ _; rw [add_block]; exact hn268_2) | exact hn268_2) (.int .i64 t263)).trans hx268_0
                                  replace hx268_1 := (cell_far (p := ⟨gb266, 2, none⟩) (by first | (rw [add_block]; exact hn268_2) | (show (Addr.add _ _).block ≠ _; rw [add_block]; exact hn268_2) | exact hn268_2) (.int .i64 t263)).trans hx268_1
                                  replace hx268_2 := (cell_far (p := ⟨gb266, 2, none⟩) (by first | (rw [add_block]; exact hn268_2) | (show (Addr.add _ _).block ≠ _; rw [add_block]; exact hn268_2) | exact hn268_2) (.int .i64 t263)).trans hx268_2
                                  replace hx268_3 := (cell_far (p := ⟨gb266, 2, none⟩) (by first | (rw [add_block]; exact hn268_2) | (show (Addr.add _ _).block ≠ _; rw [add_block]; exact hn268_2) | exact hn268_2) (.int .i64 t263)).trans hx268_3
                                  replace hx268_4 := (cell_far (p := ⟨gb266, 2, none⟩) (by first | (rw [add_block]; exact hn268_2) | (show (Addr.add _ _).block ≠ _; rw [add_block]; exact hn268_2) | exact hn268_2) (.int .i64 t263)).trans hx268_4
                                  (try have hy268_0 := fun (n_ : Nat) => (show (((((w27.drewN n_).setCell ⟨gb266, 0, none⟩ (.int .i64 t261)).setCell ⟨gb266, 1, none⟩ (.int .i64 t262)).setCell ⟨gb266, 2, none⟩ (.int .i64 t263))).cell? _ = some _ from hx268_0))
                                  (try have hy268_1 := fun (n_ : Nat) => (show (((((w27.drewN n_).setCell ⟨gb266, 0, none⟩ (.int .i64 t261)).setCell ⟨gb266, 1, none⟩ (.int .i64 t262)).setCell ⟨gb266, 2, none⟩ (.int .i64 t263))).cell? _ = some _ from hx268_1))
                                  (try have hy268_2 := fun (n_ : Nat) => (show (((((w27.drewN n_).setCell ⟨gb266, 0, none⟩ (.int .i64 t261)).setCell ⟨gb266, 1, none⟩ (.int .i64 t262)).setCell ⟨gb266, 2, none⟩ (.int .i64 t263))).cell? _ = some _ from hx268_2))
                                  (try have hy268_3 := fun (n_ : Nat) => (show (((((w27.drewN n_).setCell ⟨gb266, 0, none⟩ (.int .i64 t261)).setCell ⟨gb266, 1, none⟩ (.int .i64 t262)).setCell ⟨gb266, 2, none⟩ (.int .i64 t263))).cell? _ = some _ from hx268_3))
                                  (try have hy268_4 := fun (n_ : Nat) => (show (((((w27.drewN n_).setCell ⟨gb266, 0, none⟩ (.int .i64 t261)).setCell ⟨gb266, 1, none⟩ (.int .i64 t262)).setCell ⟨gb266, 2, none⟩ (.int .i64 t263))).cell? _ = some _ from hx268_4))
                                  clear hn268_0
                                  clear hn268_1
                                  clear hn268_2
                                  replace p268 := eq_true p268
                                  replace q268 := eq_true q268
                                  go_wp2
                                  repeat (go_quiet (fail); try go_wp2)
                                  go_meet
                                  case rel => exact ⟨_, ((!(t261 == ((rd_T61 t252 x9_1).f2.f0)) || (!(t262 == ((rd_T61 t252 x9_1).f2.f1)) || (!(t263 == ((rd_T61 t252 x9_1).f2.f2)))))), (by first | rfl | (simp; done) | (simp [*]; done)), H', ⟨by have := HK1.out; have := HJ10.out; first | omega | exact Nat.le_refl _⟩, ⟨by (with_reducible repeat (first | apply Kd.R_alloc | apply Kd.R_drewN | apply Kd.R_drew)); exact Kd.R_mono (Kd.R_far (p := ⟨gb266, 2, none⟩) (Kd.R_far (p := ⟨gb266, 1, none⟩) (Kd.R_far (p := ⟨gb266, 0, none⟩) (Kd.R_types HO_6.out BK266.out (by decide)) (fun _ hk => hk.2) (.int .i64 t261)) (fun _ hk => hk.2) (.int .i64 t262)) (fun _ hk => hk.2) (.int .i64 t263)) (fun _ hk => trivial)⟩, ⟨by (with_reducible repeat (first | refine blk_drewN ?_ _ | refine blk_drew ?_ | refine blk_alloc ?_ _)); refine blk_put (cs := #[.int .i64 t261, .int .i64 t262, .int .i64 0]) ?_ 2 _ rfl; (with_reducible repeat (first | refine blk_drewN ?_ _ | refine blk_drew ?_ | refine blk_alloc ?_ _)); refine blk_put (cs := #[.int .i64 t261, .int .i64 0, .int .i64 0]) ?_ 1 _ rfl; (with_reducible repeat (first | refine blk_drewN ?_ _ | refine blk_drew ?_ | refine blk_alloc ?_ _)); refine blk_put (cs := #[.int .i64 0, .int .i64 0, .int .i64 0]) ?_ 0 _ rfl; (with_reducible repeat (first | refine blk_drewN ?_ _ | refine blk_drew ?_ | refine blk_alloc ?_ _)); exact BK266.out⟩, ⟨by repeat (first | (with_reducible first | exact HB.out | apply below_alloc | apply pw_below_drewN | apply below_drew1 | refine below_set ?_ GE266.out) | exact HB.out)⟩⟩
                                · replace c30 := Bool.eq_false_iff.mpr c30
                                  subst c30
                                  have H1 : (formelaw02_CurveLong.j2 kj10 a0 l1 t251 t252 ((rd_T61 t252 x9_1).f1) x9_1 true) = some r := by rw [if_neg (show ¬ (false = true) by decide)] at H; exact H
                                  clear H
                                  have H := H1
                                  clear H1
                                  have H' := Aside0.mk H
                                  clear H
                                  go_wp2
                                  repeat (go_quiet (fail); try go_wp2)
                                  go_meet
                                  case rel => exact ⟨_, (true), (by first | rfl | (simp; done) | (simp [*]; done)), H', ⟨by have := HK1.out; have := HJ10.out; first | omega | exact Nat.le_refl _⟩, ⟨by (with_reducible repeat (first | apply Kd.R_alloc | apply Kd.R_drewN | apply Kd.R_drew)); exact Kd.R_mono (Kd.R_far (p := ⟨gb266, 2, none⟩) (Kd.R_far (p := ⟨gb266, 1, none⟩) (Kd.R_far (p := ⟨gb266, 0, none⟩) (Kd.R_types HO_6.out BK266.out (by decide)) (fun _ hk => hk.2) (.int .i64 t261)) (fun _ hk => hk.2) (.int .i64 t262)) (fun _ hk => hk.2) (.int .i64 t263)) (fun _ hk => trivial)⟩, ⟨by (with_reducible repeat (first | refine blk_drewN ?_ _ | refine blk_drew ?_ | refine blk_alloc ?_ _)); refine blk_put (cs := #[.int .i64 t261, .int .i64 t262, .int .i64 0]) ?_ 2 _ rfl; (with_reducible repeat (first | refine blk_drewN ?_ _ | refine blk_drew ?_ | refine blk_alloc ?_ _)); refine blk_put (cs := #[.int .i64 t261, .int .i64 0, .int .i64 0]) ?_ 1 _ rfl; (with_reducible repeat (first | refine blk_drewN ?_ _ | refine blk_drew ?_ | refine blk_alloc ?_ _)); refine blk_put (cs := #[.int .i64 0, .int .i64 0, .int .i64 0]) ?_ 0 _ rfl; (with_reducible repeat (first | refine blk_drewN ?_ _ | refine blk_drew ?_ | refine blk_alloc ?_ _)); exact BK266.out⟩, ⟨by repeat (first | (with_reducible first | exact HB.out | apply below_alloc | apply pw_below_drewN | apply below_drew1 | refine below_set ?_ GE266.out) | exact HB.out)⟩⟩
                              · rw [if_neg c29] at H
                                have c29b0 : (t265 == 0) = false := beq_eq_false_iff_ne.mpr c29
                                have c29b1 : (t265 != 0) = true := bne_iff_ne.mpr c29
                                (first | rw [c29b0] | (simp only [i64_w, i32_w]; rw [c29b0]) | skip)
                                have H' := Aside0.mk H
                                clear H
                                go_wp2
                                repeat (go_quiet (fail); try go_wp2)
                                go_meet
                                case rel => exact ⟨_, (true), (by first | rfl | (simp; done) | (simp [*]; done)), H', ⟨by have := HK1.out; have := HJ10.out; first | omega | exact Nat.le_refl _⟩, ⟨by (with_reducible repeat (first | apply Kd.R_alloc | apply Kd.R_drewN | apply Kd.R_drew)); exact Kd.R_mono (Kd.R_far (p := ⟨gb266, 2, none⟩) (Kd.R_far (p := ⟨gb266, 1, none⟩) (Kd.R_far (p := ⟨gb266, 0, none⟩) (Kd.R_types HO_6.out BK266.out (by decide)) (fun _ hk => hk.2) (.int .i64 t261)) (fun _ hk => hk.2) (.int .i64 t262)) (fun _ hk => hk.2) (.int .i64 t263)) (fun _ hk => trivial)⟩, ⟨by (with_reducible repeat (first | refine blk_drewN ?_ _ | refine blk_drew ?_ | refine blk_alloc ?_ _)); refine blk_put (cs := #[.int .i64 t261, .int .i64 t262, .int .i64 0]) ?_ 2 _ rfl; (with_reducible repeat (first | refine blk_drewN ?_ _ | refine blk_drew ?_ | refine blk_alloc ?_ _)); refine blk_put (cs := #[.int .i64 t261, .int .i64 0, .int .i64 0]) ?_ 1 _ rfl; (with_reducible repeat (first | refine blk_drewN ?_ _ | refine blk_drew ?_ | refine blk_alloc ?_ _)); refine blk_put (cs := #[.int .i64 0, .int .i64 0, .int .i64 0]) ?_ 0 _ rfl; (with_reducible repeat (first | refine blk_drewN ?_ _ | refine blk_drew ?_ | refine blk_alloc ?_ _)); exact BK266.out⟩, ⟨by repeat (first | (with_reducible first | exact HB.out | apply below_alloc | apply pw_below_drewN | apply below_drew1 | refine below_set ?_ GE266.out) | exact HB.out)⟩⟩
                            case rest =>
                              clear HC24
                              try clear c1
                              try clear c2
                              try clear p2
                              try clear q2
                              try clear hx2
                              try clear c3
                              try clear c4
                              try clear c4b0
                              try clear c4b1
                              try clear p6
                              try clear c7
                              try clear c7b0
                              try clear c7b1
                              try clear c10
                              try clear c10b0
                              try clear c11
                              try clear c13
                              try clear c13b0
                              try clear c14
                              try clear c14b0
                              try clear c14b1
                              try clear c15
                              try clear c15b0
                              try clear c16
                              try clear c17
                              try clear c17b0
                              try clear c18
                              try clear c18b0
                              try clear c20
                              try clear c20b0
                              try clear c20b1
                              try clear c21
                              try clear c21b0
                              try clear c21b1
                              try clear c22
                              try clear c22b0
                              try clear c22b1
                              try clear p25
                              try clear q25
                              try clear hx25
                              try clear p26
                              try clear q26
                              try clear hx26
                              try clear c29
                              try clear c29b0
                              try clear c29b1
                              try clear c30
                              try clear hcz28_0
                              try clear hcz28_1
                              try clear hcz28_2
                              try clear hcz31_0
                              try clear hcz31_1
                              try clear hcz31_2
                              try clear hfz28_0
                              try clear hfz28_1
                              try clear hfz28_2
                              try clear hfz31_0
                              try clear hfz31_1
                              try clear hfz31_2
                              try clear hx256_0
                              try clear hx256_1
                              try clear hx256_2
                              try clear hx256_3
                              try clear hx256_4
                              try clear hx257_0
                              try clear hx257_1
                              try clear hx257_2
                              try clear hx257_3
                              try clear hx257_4
                              try clear hx258_0
                              try clear hx258_1
                              try clear hx258_2
                              try clear hx258_3
                              try clear hx258_4
                              try clear hx259_0
                              try clear hx259_1
                              try clear hx259_2
                              try clear hx259_3
                              try clear hx259_4
                              try clear hx267_0
                              try clear hx267_1
                              try clear hx267_2
                              try clear hx267_3
                              try clear hx267_4
                              try clear hx268_0
                              try clear hx268_1
                              try clear hx268_2
                              try clear hx268_3
                              try clear hx268_4
                              try clear p2
                              try clear p256
                              try clear p257
                              try clear p258
                              try clear p259
                              try clear p267
                              try clear p268
                              try clear p6
                              try clear q2
                              try clear q256
                              try clear q257
                              try clear q258
                              try clear q259
                              try clear q267
                              try clear q268
                              obtain ⟨kq, x106_23, rfl, HA, HJ23, HO_6, BK266, HB⟩ := hcut
                              cases kq with
                              | zero => exact absurd HA.out (by simp [formelaw02_CurveLong.j2])
                              | succ kj23 =>
                                have H := HA.out
                                clear HA
                                simp only [formelaw02_CurveLong.j2] at H
                                by_cases c32 : x106_23 = true
                                · subst c32
                                  have H1 : (some false) = some r := by rw [if_pos rfl] at H; exact H
                                  clear H
                                  have H := H1
                                  clear H1
                                  obtain rfl := Option.some.inj H
                                  go_wp2
                                  repeat (go_quiet (fail); try go_wp2)
                                  go_ret
                                  exact ⟨by first | rfl | (simp [errW_none, errW_some] <;> rfl) | (simp only [← hji19]; first | rfl | (simp [errW_none, errW_some] <;> rfl)) | (simp [*, errW_none, errW_some] <;> rfl), by repeat (first | (with_reducible first | exact HB.out | apply below_alloc | apply pw_below_drewN | apply below_drew1 | refine below_set ?_ GE266.out) | exact HB.out)⟩
                                · replace c32 := Bool.eq_false_iff.mpr c32
                                  subst c32
                                  have H1 : (if ((rd_T61 t252 x9_1).f1) = (wrap64 (a0 + (l1.length : Int))) then (formelaw02_CurveLong.l0 kj23 a0 l1 t251 t252 ((rd_T61 t252 x9_1).f1) (wrap64 (x9_1 + 1))) else (if 0 ≤ x9_1 then (if x9_1 < (t252.length : Int) then (if 0 ≤ (wrap64 (((rd_T61 t252 x9_1).f0) - a0)) then (if (wrap64 (((rd_T61 t252 x9_1).f0) - a0)) ≤ (wrap64 ((wrap64 (((rd_T61 t252 x9_1).f1) - a0)) + 1)) then (if (wrap64 ((wrap64 (((rd_T61 t252 x9_1).f1) - a0)) + 1)) ≤ (l1.length : Int) then ((quot_Fit.f ((l1.take ((wrap64 ((wrap64 (((rd_T61 t252 x9_1).f1) - a0)) + 1)) : Int).toNat).drop ((wrap64 (((rd_T61 t252 x9_1).f0) - a0)) : Int).toNat)).bind fun bt271 => (if bt271.2.2.2.2 = 0 then (if bt271.2.2.2.1 = true then (some false) else (formelaw02_CurveLong.l0 kj23 a0 l1 t251 t252 ((rd_T61 t252 x9_1).f1) (wrap64 (x9_1 + 1)))) else (some false))) else (none)) else (none)) else (none)) else (none)) else (none))) = some r := by rw [if_neg (show ¬ (false = true) by decide)] at H; exact H
                                  clear H
                                  have H := H1
                                  clear H1
                                  by_cases c33 : ((rd_T61 t252 x9_1).f1) = (wrap64 (a0 + (l1.length : Int)))
                                  · rw [if_pos c33] at H
                                    have c33b0 : (((rd_T61 t252 x9_1).f1) == (wrap64 (a0 + (l1.length : Int)))) = true := beq_iff_eq.mpr c33
                                    have c33b1 : (((rd_T61 t252 x9_1).f1) != (wrap64 (a0 + (l1.length : Int)))) = false := bne_eq_false_iff_eq.mpr c33
                                    clear c33
                                    have H' := Aside0.mk H
                                    clear H
                                    go_wp2
                                    repeat (go_quiet (fail); try go_wp2)
                                    go_roundg kj23
                                    case measure => have := HK1.out; have := HJ10.out; have := HJ23.out; omega
                                    case rel => exact ⟨(((rd_T61 t252 x9_1).f1)), (wrap64 (x9_1 + 1)), (by first | rfl | (simp; done) | (simp [*]; done)), (by first | rfl | (simp; done) | (simp [*]; done)), H', ⟨by have := HK1.out; have := HJ10.out; have := HJ23.out; omega⟩, ⟨by (with_reducible repeat (first | apply Kd.R_alloc | apply Kd.R_drewN | apply Kd.R_drew)); exact HO_6.out⟩, ⟨by repeat (first | (with_reducible first | exact HB.out | apply below_alloc | apply pw_below_drewN | apply below_drew1 | refine below_set ?_ GE266.out) | exact HB.out)⟩⟩
                                  · rw [if_neg c33] at H
                                    have c33b0 : (((rd_T61 t252 x9_1).f1) == (wrap64 (a0 + (l1.length : Int)))) = false := beq_eq_false_iff_ne.mpr c33
                                    have c33b1 : (((rd_T61 t252 x9_1).f1) != (wrap64 (a0 + (l1.length : Int)))) = true := bne_iff_ne.mpr c33
                                    by_cases c34 : 0 ≤ x9_1
                                    · rw [if_pos c34] at H
                                      have c34b0 : decide (0 ≤ x9_1) = true := decide_eq_true c34
                                      clear c34
                                      by_cases c35 : x9_1 < (t252.length : Int)
                                      · rw [if_pos c35] at H
                                        have c35b0 : decide (x9_1 < (t252.length : Int)) = true := decide_eq_true c35
                                        clear c35
                                        obtain ⟨ji36, hji36⟩ : ∃ j_ : Int, (wrap64 (((rd_T61 t252 x9_1).f0) - a0)) = j_ := ⟨_, rfl⟩
                                        replace H : (if 0 ≤ (ji36) then (if (ji36) ≤ (wrap64 ((wrap64 (((rd_T61 t252 x9_1).f1) - a0)) + 1)) then (if (wrap64 ((wrap64 (((rd_T61 t252 x9_1).f1) - a0)) + 1)) ≤ (l1.length : Int) then ((quot_Fit.f ((l1.take ((wrap64 ((wrap64 (((rd_T61 t252 x9_1).f1) - a0)) + 1)) : Int).toNat).drop ((ji36) : Int).toNat)).bind fun bt271 => (if bt271.2.2.2.2 = 0 then (if bt271.2.2.2.1 = true then (some false) else (formelaw02_CurveLong.l0 kj23 a0 l1 t251 t252 ((rd_T61 t252 x9_1).f1) (wrap64 (x9_1 + 1)))) else (some false))) else (none)) else (none)) else (none)) = some r := by first | (rw [hji36] at H; exact H) | (simp only [hji36] at H ⊢; exact H)
                                        have hji36w : (IntKind.i64.wrap (((rd_T61 t252 x9_1).f0) - a0)) = ji36 := (i64_w _).trans hji36
                                        by_cases c37 : 0 ≤ (ji36)
                                        · rw [if_pos c37] at H
                                          have c37b0 := eq_true c37
                                          have c37b1 : decide (0 ≤ (ji36)) = true := decide_eq_true c37
                                          clear c37
                                          by_cases c38 : (ji36) ≤ (wrap64 ((wrap64 (((rd_T61 t252 x9_1).f1) - a0)) + 1))
                                          · rw [if_pos c38] at H
                                            have c38b0 := eq_true c38
                                            have c38b1 : decide ((ji36) ≤ (wrap64 ((wrap64 (((rd_T61 t252 x9_1).f1) - a0)) + 1))) = true := decide_eq_true c38
                                            by_cases c39 : (wrap64 ((wrap64 (((rd_T61 t252 x9_1).f1) - a0)) + 1)) ≤ (l1.length : Int)
                                            · rw [if_pos c39] at H
                                              have c39b0 := eq_true c39
                                              have c39b1 : decide ((wrap64 ((wrap64 (((rd_T61 t252 x9_1).f1) - a0)) + 1)) ≤ (l1.length : Int)) = true := decide_eq_true c39
                                              replace H := Option.bind_eq_some_iff.mp H
                                              obtain ⟨⟨t271, t272, t273, t274, t275⟩, A400, H⟩ := H
                                              replace H : (if t275 = 0 then (if t274 = true then (some false) else (formelaw02_CurveLong.l0 kj23 a0 l1 t251 t252 ((rd_T61 t252 x9_1).f1) (wrap64 (x9_1 + 1)))) else (some false)) = some r := H
                                              have A40 := Aside0.mk A400
                                              clear A400
                                              by_cases c41 : t275 = 0
                                              · rw [if_pos c41] at H
                                                have c41b0 : (t275 == 0) = true := beq_iff_eq.mpr c41
                                                have c41b1 : (t275 != 0) = false := bne_eq_false_iff_eq.mpr c41
                                                clear c41
                                                by_cases c42 : t274 = true
                                                · subst c42
                                                  have H1 : (some false) = some r := by rw [if_pos rfl] at H; exact H
                                                  clear H
                                                  have H := H1
                                                  clear H1
                                                  obtain rfl := Option.some.inj H
                                                  have p269 : 0 ≤ (x9_1 : Int) := of_decide_eq_true (by first | (with_reducible assumption) | assumption)
                                                  have q269 : x9_1 < (t252.length : Int) := of_decide_eq_true (by first | (with_reducible assumption) | assumption)
                                                  obtain ⟨ad269, e269, hx269_0, hx269_1, hx269_2, hx269_3, hx269_4⟩ := at_T61 (Kd.R_reads' HO_6.out).2.2 x9_1 p269 q269
                                                  obtain rfl : ad259 = ad269 := (by injection e269)
                                                  replace p269 := eq_true p269
                                                  replace q269 := eq_true q269
                                                  obtain ⟨i043, hi043, _, hsz43, _⟩ := info_parts info3
                                                  obtain ⟨A43, hcut43, hA43, hC43⟩ := print_mid_of (P := Try.prog) (Value.int .i64) 0 24 3 .i64 .i64 Try.underlying24 hi043 hsz43 A1 c1 l1 (ji36) (wrap64 ((wrap64 (((rd_T61 t252 x9_1).f1) - a0)) + 1)) (of_decide_eq_true (by first | (with_reducible assumption) | assumption)) (by first | omega | exact of_decide_eq_true (by first | (with_reducible assumption) | assumption)) (of_decide_eq_true (by first | (with_reducible assumption) | assumption)) HC1.out
                                                  have HR270 := Aside0.mk (Kd.C_of_reads (h1 := fun _ => rfl) (hA43 _ (Kd.reads_of_C HR1.out)))
                                                  have HC270 := Aside0.mk hC43
                                                  clear hA43 hC43 hi043 hsz43
                                                  go_wp2_with (first | (go_at_call 30; (try with_reducible refine calls_of_args (args' := #[.slice _ ((l1.take ((wrap64 ((wrap64 (((rd_T61 t252 x9_1).f1) - a0)) + 1)) : Int).toNat).drop ((ji36) : Int).toNat).length _]) (by rw [List.length_drop, List.length_take, Nat.min_eq_left (by have h_ := of_decide_eq_true (by first | (with_reducible assumption) | assumption : decide ((wrap64 ((wrap64 (((rd_T61 t252 x9_1).f1) - a0)) + 1)) ≤ (l1.length : Int)) = true); omega)]) ?_); (with_reducible refine (quot_Fit.calls _ _ ((l1.take ((wrap64 ((wrap64 (((rd_T61 t252 x9_1).f1) - a0)) + 1)) : Int).toNat).drop ((ji36) : Int).toNat) t271 t272 t273 true t275 _ ?side1 ?side2 A40.out).mono ?_); (case side1 => repeat (first | exact (Kd.C_below HR270.out HB.out) | (with_reducible refine Kd.C_alloc ?_ _) | (with_reducible refine Kd.C_drewN ?_ _) | (with_reducible refine Kd.C_drew ?_))); (case side2 => exact HC270.out); rintro e w44 ⟨rfl, hb⟩; have n0_ := Aside0.mk (Kd.R_below (by (with_reducible repeat (first | apply Kd.R_alloc | apply Kd.R_drewN | apply Kd.R_drew)); exact HO_6.out) hb); have n1_ := Aside0.mk (blk_below (g := gb266) (o := .cells #[.int .i64 t261, .int .i64 t262, .int .i64 t263] 23 (0, 0)) (by (with_reducible repeat (first | refine blk_drewN ?_ _ | refine blk_drew ?_ | refine blk_alloc ?_ _)); exact BK266.out) hb); have n2_ := Aside0.mk (below_step (by repeat (first | (with_reducible first | exact HB.out | apply below_alloc | apply pw_below_drewN | apply below_drew1 | refine below_set ?_ GE266.out) | exact HB.out)) hb); clear HO_6; clear BK266; clear HB; have HO_6 := n0_; have BK266 := n1_; have HB := n2_; clear n0_ n1_ n2_; (try clear hb); (try clear hb2); (try clear hk); (try clear hi)) | ((with_reducible refine gate_dst (N := 13) rfl ?_); (try (refine gate_guard (by rfl) ?_; dsimp only)); refine box_event ?hg (N := 13) ?hd (cs := #[.int .i64 0, .int .i64 0, .int .i64 0]) (t := 23) ?hr ?_; (case hd => rfl); (case hg => rfl); (case hr => first | (go_simp; done) | (go_simp; rfl)); intro gb276 hg w45 hbox hb; have n0_ := Aside0.mk (Kd.R_below (by (with_reducible repeat (first | apply Kd.R_alloc | apply Kd.R_drewN | apply Kd.R_drew)); exact HO_6.out) hb); have n1_ := Aside0.mk (blk_below (g := gb266) (o := .cells #[.int .i64 t261, .int .i64 t262, .int .i64 t263] 23 (0, 0)) (by (with_reducible repeat (first | refine blk_drewN ?_ _ | refine blk_drew ?_ | refine blk_alloc ?_ _)); exact BK266.out) hb); have n2_ := Aside0.mk (below_step (by repeat (first | (with_reducible first | exact HB.out | apply below_alloc | apply pw_below_drewN | apply below_drew1 | refine below_set ?_ GE266.out) | exact HB.out)) hb); have n3_ := Aside0.mk (hbox); have n4_ := Aside0.mk ((by rw [hg]; exact (below_size (by repeat (first | (with_reducible first | exact HB.out | apply below_alloc | apply pw_below_drewN | apply below_drew1 | refine below_set ?_ GE266.out) | exact HB.out))) : w.heap.size ≤ gb276)); have n5_ := Aside0.mk ((by rw [hg]; exact (below_size (by repeat (first | (with_reducible first | exact HB.out | apply below_alloc | apply pw_below_drewN | apply below_drew1 | refine below_set ?_ GE266.out) | exact HB.out))) : w.heap.size ≤ gb276)); have n6_ := Aside0.mk ((by rw [hg]; exact Nat.ne_of_lt (blk_lt (g := gb266) (o := .cells #[.int .i64 t261, .int .i64 t262, .int .i64 t263] 23 (0, 0)) (by (with_reducible repeat (first | refine blk_drewN ?_ _ | refine blk_drew ?_ | refine blk_alloc ?_ _)); exact BK266.out)) : gb266 ≠ gb276)); have n7_ := Aside0.mk ((by rw [hg]; exact Nat.ne_of_gt (blk_lt (g := gb266) (o := .cells #[.int .i64 t261, .int .i64 t262, .int .i64 t263] 23 (0, 0)) (by (with_reducible repeat (first | refine blk_drewN ?_ _ | refine blk_drew ?_ | refine blk_alloc ?_ _)); exact BK266.out)) : gb276 ≠ gb266)); clear HO_6; clear BK266; clear HB; have HO_6 := n0_; have BK266 := n1_; have HB := n2_; have BK276 := n3_; have GW276 := n4_; have GE276 := n5_; have NB266_276 := n6_; have NB276_266 := n7_; clear n0_ n1_ n2_ n3_ n4_ n5_ n6_ n7_; clear hb hbox hg; have hnb46 := NB276_266.out; have hnc46 := NB266_276.out; have hcz47_0 : w45.cell? ⟨gb276, 0, none⟩ = some (.int .i64 0) := (blk_cell BK276.out 0).trans rfl; have hcz47_1 : w45.cell? ⟨gb276, 1, none⟩ = some (.int .i64 0) := (blk_cell BK276.out 1).trans rfl; have hcz47_2 : w45.cell? ⟨gb276, 2, none⟩ = some (.int .i64 0) := (blk_cell BK276.out 2).trans rfl; have hfz47_0 := blk_frozen BK276.out 0; have hfz47_1 := blk_frozen BK276.out 1; have hfz47_2 := blk_frozen BK276.out 2))
                                                  repeat (go_quiet (first | (go_at_call 30; (try with_reducible refine calls_of_args (args' := #[.slice _ ((l1.take ((wrap64 ((wrap64 (((rd_T61 t252 x9_1).f1) - a0)) + 1)) : Int).toNat).drop ((ji36) : Int).toNat).length _]) (by rw [List.length_drop, List.length_take, Nat.min_eq_left (by have h_ := of_decide_eq_true (by first | (with_reducible assumption) | assumption : decide ((wrap64 ((wrap64 (((rd_T61 t252 x9_1).f1) - a0)) + 1)) ≤ (l1.length : Int)) = true); omega)]) ?_); (with_reducible refine (quot_Fit.calls _ _ ((l1.take ((wrap64 ((wrap64 (((rd_T61 t252 x9_1).f1) - a0)) + 1)) : Int).toNat).drop ((ji36) : Int).toNat) t271 t272 t273 true t275 _ ?side1 ?side2 A40.out).mono ?_); (case side1 => repeat (first | exact (Kd.C_below HR270.out HB.out) | (with_reducible refine Kd.C_alloc ?_ _) | (with_reducible refine Kd.C_drewN ?_ _) | (with_reducible refine Kd.C_drew ?_))); (case side2 => exact HC270.out); rintro e w44 ⟨rfl, hb⟩; have n0_ := Aside0.mk (Kd.R_below (by (with_reducible repeat (first | apply Kd.R_alloc | apply Kd.R_drewN | apply Kd.R_drew)); exact HO_6.out) hb); have n1_ := Aside0.mk (blk_below (g := gb266) (o := .cells #[.int .i64 t261, .int .i64 t262, .int .i64 t263] 23 (0, 0)) (by (with_reducible repeat (first | refine blk_drewN ?_ _ | refine blk_drew ?_ | refine blk_alloc ?_ _)); exact BK266.out) hb); have n2_ := Aside0.mk (below_step (by repeat (first | (with_reducible first | exact HB.out | apply below_alloc | apply pw_below_drewN | apply below_drew1 | refine below_set ?_ GE266.out) | exact HB.out)) hb); clear HO_6; clear BK266; clear HB; have HO_6 := n0_; have BK266 := n1_; have HB := n2_; clear n0_ n1_ n2_; (try clear hb); (try clear hb2); (try clear hk); (try clear hi)) | ((with_reducible refine gate_dst (N := 13) rfl ?_); (try (refine gate_guard (by rfl) ?_; dsimp only)); refine box_event ?hg (N := 13) ?hd (cs := #[.int .i64 0, .int .i64 0, .int .i64 0]) (t := 23) ?hr ?_; (case hd => rfl); (case hg => rfl); (case hr => first | (go_simp; done) | (go_simp; rfl)); intro gb276 hg w45 hbox hb; have n0_ := Aside0.mk (Kd.R_below (by (with_reducible repeat (first | apply Kd.R_alloc | apply Kd.R_drewN | apply Kd.R_drew)); exact HO_6.out) hb); have n1_ := Aside0.mk (blk_below (g := gb266) (o := .cells #[.int .i64 t261, .int .i64 t262, .int .i64 t263] 23 (0, 0)) (by (with_reducible repeat (first | refine blk_drewN ?_ _ | refine blk_drew ?_ | refine blk_alloc ?_ _)); exact BK266.out) hb); have n2_ := Aside0.mk (below_step (by repeat (first | (with_reducible first | exact HB.out | apply below_alloc | apply pw_below_drewN | apply below_drew1 | refine below_set ?_ GE266.out) | exact HB.out)) hb); have n3_ := Aside0.mk (hbox); have n4_ := Aside0.mk ((by rw [hg]; exact (below_size (by repeat (first | (with_reducible first | exact HB.out | apply below_alloc | apply pw_below_drewN | apply below_drew1 | refine below_set ?_ GE266.out) | exact HB.out))) : w.heap.size ≤ gb276)); have n5_ := Aside0.mk ((by rw [hg]; exact (below_size (by repeat (first | (with_reducible first | exact HB.out | apply below_alloc | apply pw_below_drewN | apply below_drew1 | refine below_set ?_ GE266.out) | exact HB.out))) : w.heap.size ≤ gb276)); have n6_ := Aside0.mk ((by rw [hg]; exact Nat.ne_of_lt (blk_lt (g := gb266) (o := .cells #[.int .i64 t261, .int .i64 t262, .int .i64 t263] 23 (0, 0)) (by (with_reducible repeat (first | refine blk_drewN ?_ _ | refine blk_drew ?_ | refine blk_alloc ?_ _)); exact BK266.out)) : gb266 ≠ gb276)); have n7_ := Aside0.mk ((by rw [hg]; exact Nat.ne_of_gt (blk_lt (g := gb266) (o := .cells #[.int .i64 t261, .int .i64 t262, .int .i64 t263] 23 (0, 0)) (by (with_reducible repeat (first | refine blk_drewN ?_ _ | refine blk_drew ?_ | refine blk_alloc ?_ _)); exact BK266.out)) : gb276 ≠ gb266)); clear HO_6; clear BK266; clear HB; have HO_6 := n0_; have BK266 := n1_; have HB := n2_; have BK276 := n3_; have GW276 := n4_; have GE276 := n5_; have NB266_276 := n6_; have NB276_266 := n7_; clear n0_ n1_ n2_ n3_ n4_ n5_ n6_ n7_; clear hb hbox hg; have hnb46 := NB276_266.out; have hnc46 := NB266_276.out; have hcz47_0 : w45.cell? ⟨gb276, 0, none⟩ = some (.int .i64 0) := (blk_cell BK276.out 0).trans rfl; have hcz47_1 : w45.cell? ⟨gb276, 1, none⟩ = some (.int .i64 0) := (blk_cell BK276.out 1).trans rfl; have hcz47_2 : w45.cell? ⟨gb276, 2, none⟩ = some (.int .i64 0) := (blk_cell BK276.out 2).trans rfl; have hfz47_0 := blk_frozen BK276.out 0; have hfz47_1 := blk_frozen BK276.out 1; have hfz47_2 := blk_frozen BK276.out 2)); try go_wp2_with (first | (go_at_call 30; (try with_reducible refine calls_of_args (args' := #[.slice _ ((l1.take ((wrap64 ((wrap64 (((rd_T61 t252 x9_1).f1) - a0)) + 1)) : Int).toNat).drop ((ji36) : Int).toNat).length _]) (by rw [List.length_drop, List.length_take, Nat.min_eq_left (by have h_ := of_decide_eq_true (by first | (with_reducible assumption) | assumption : decide ((wrap64 ((wrap64 (((rd_T61 t252 x9_1).f1) - a0)) + 1)) ≤ (l1.length : Int)) = true); omega)]) ?_); (with_reducible refine (quot_Fit.calls _ _ ((l1.take ((wrap64 ((wrap64 (((rd_T61 t252 x9_1).f1) - a0)) + 1)) : Int).toNat).drop ((ji36) : Int).toNat) t271 t272 t273 true t275 _ ?side1 ?side2 A40.out).mono ?_); (case side1 => repeat (first | exact (Kd.C_below HR270.out HB.out) | (with_reducible refine Kd.C_alloc ?_ _) | (with_reducible refine Kd.C_drewN ?_ _) | (with_reducible refine Kd.C_drew ?_))); (case side2 => exact HC270.out); rintro e w44 ⟨rfl, hb⟩; have n0_ := Aside0.mk (Kd.R_below (by (with_reducible repeat (first | apply Kd.R_alloc | apply Kd.R_drewN | apply Kd.R_drew)); exact HO_6.out) hb); have n1_ := Aside0.mk (blk_below (g := gb266) (o := .cells #[.int .i64 t261, .int .i64 t262, .int .i64 t263] 23 (0, 0)) (by (with_reducible repeat (first | refine blk_drewN ?_ _ | refine blk_drew ?_ | refine blk_alloc ?_ _)); exact BK266.out) hb); have n2_ := Aside0.mk (below_step (by repeat (first | (with_reducible first | exact HB.out | apply below_alloc | apply pw_below_drewN | apply below_drew1 | refine below_set ?_ GE266.out) | exact HB.out)) hb); clear HO_6; clear BK266; clear HB; have HO_6 := n0_; have BK266 := n1_; have HB := n2_; clear n0_ n1_ n2_; (try clear hb); (try clear hb2); (try clear hk); (try clear hi)) | ((with_reducible refine gate_dst (N := 13) rfl ?_); (try (refine gate_guard (by rfl) ?_; dsimp only)); refine box_event ?hg (N := 13) ?hd (cs := #[.int .i64 0, .int .i64 0, .int .i64 0]) (t := 23) ?hr ?_; (case hd => rfl); (case hg => rfl); (case hr => first | (go_simp; done) | (go_simp; rfl)); intro gb276 hg w45 hbox hb; have n0_ := Aside0.mk (Kd.R_below (by (with_reducible repeat (first | apply Kd.R_alloc | apply Kd.R_drewN | apply Kd.R_drew)); exact HO_6.out) hb); have n1_ := Aside0.mk (blk_below (g := gb266) (o := .cells #[.int .i64 t261, .int .i64 t262, .int .i64 t263] 23 (0, 0)) (by (with_reducible repeat (first | refine blk_drewN ?_ _ | refine blk_drew ?_ | refine blk_alloc ?_ _)); exact BK266.out) hb); have n2_ := Aside0.mk (below_step (by repeat (first | (with_reducible first | exact HB.out | apply below_alloc | apply pw_below_drewN | apply below_drew1 | refine below_set ?_ GE266.out) | exact HB.out)) hb); have n3_ := Aside0.mk (hbox); have n4_ := Aside0.mk ((by rw [hg]; exact (below_size (by repeat (first | (with_reducible first | exact HB.out | apply below_alloc | apply pw_below_drewN | apply below_drew1 | refine below_set ?_ GE266.out) | exact HB.out))) : w.heap.size ≤ gb276)); have n5_ := Aside0.mk ((by rw [hg]; exact (below_size (by repeat (first | (with_reducible first | exact HB.out | apply below_alloc | apply pw_below_drewN | apply below_drew1 | refine below_set ?_ GE266.out) | exact HB.out))) : w.heap.size ≤ gb276)); have n6_ := Aside0.mk ((by rw [hg]; exact Nat.ne_of_lt (blk_lt (g := gb266) (o := .cells #[.int .i64 t261, .int .i64 t262, .int .i64 t263] 23 (0, 0)) (by (with_reducible repeat (first | refine blk_drewN ?_ _ | refine blk_drew ?_ | refine blk_alloc ?_ _)); exact BK266.out)) : gb266 ≠ gb276)); have n7_ := Aside0.mk ((by rw [hg]; exact Nat.ne_of_gt (blk_lt (g := gb266) (o := .cells #[.int .i64 t261, .int .i64 t262, .int .i64 t263] 23 (0, 0)) (by (with_reducible repeat (first | refine blk_drewN ?_ _ | refine blk_drew ?_ | refine blk_alloc ?_ _)); exact BK266.out)) : gb276 ≠ gb266)); clear HO_6; clear BK266; clear HB; have HO_6 := n0_; have BK266 := n1_; have HB := n2_; have BK276 := n3_; have GW276 := n4_; have GE276 := n5_; have NB266_276 := n6_; have NB276_266 := n7_; clear n0_ n1_ n2_ n3_ n4_ n5_ n6_ n7_; clear hb hbox hg; have hnb46 := NB276_266.out; have hnc46 := NB266_276.out; have hcz47_0 : w45.cell? ⟨gb276, 0, none⟩ = some (.int .i64 0) := (blk_cell BK276.out 0).trans rfl; have hcz47_1 : w45.cell? ⟨gb276, 1, none⟩ = some (.int .i64 0) := (blk_cell BK276.out 1).trans rfl; have hcz47_2 : w45.cell? ⟨gb276, 2, none⟩ = some (.int .i64 0) := (blk_cell BK276.out 2).trans rfl; have hfz47_0 := blk_frozen BK276.out 0; have hfz47_1 := blk_frozen BK276.out 1; have hfz47_2 := blk_frozen BK276.out 2)))
                                                  go_ret
                                                  exact ⟨by first | rfl | (simp [errW_none, errW_some] <;> rfl) | (simp only [← hji19, ← hji36]; first | rfl | (simp [errW_none, errW_some] <;> rfl)) | (simp [*, errW_none, errW_some] <;> rfl), by repeat (first | (with_reducible first | exact HB.out | apply below_alloc | apply pw_below_drewN | apply below_drew1 | refine below_set ?_ GE266.out | refine below_set ?_ GE276.out) | exact HB.out)⟩
                                                · replace c42 := Bool.eq_false_iff.mpr c42
                                                  subst c42
                                                  have H1 : (formelaw02_CurveLong.l0 kj23 a0 l1 t251 t252 ((rd_T61 t252 x9_1).f1) (wrap64 (x9_1 + 1))) = some r := by rw [if_neg (show ¬ (false = true) by decide)] at H; exact H
                                                  clear H
                                                  have H := H1
                                                  clear H1
                                                  have H' := Aside0.mk H
                                                  clear H
                                                  have p269 : 0 ≤ (x9_1 : Int) := of_decide_eq_true (by first | (with_reducible assumption) | assumption)
                                                  have q269 : x9_1 < (t252.length : Int) := of_decide_eq_true (by first | (with_reducible assumption) | assumption)
                                                  obtain ⟨ad269, e269, hx269_0, hx269_1, hx269_2, hx269_3, hx269_4⟩ := at_T61 (Kd.R_reads' HO_6.out).2.2 x9_1 p269 q269
                                                  obtain rfl : ad259 = ad269 := (by injection e269)
                                                  replace p269 := eq_true p269
                                                  replace q269 := eq_true q269
                                                  obtain ⟨i048, hi048, _, hsz48, _⟩ := info_parts info3
                                                  obtain ⟨A48, hcut48, hA48, hC48⟩ := print_mid_of (P := Try.prog) (Value.int .i64) 0 24 3 .i64 .i64 Try.underlying24 hi048 hsz48 A1 c1 l1 (ji36) (wrap64 ((wrap64 (((rd_T61 t252 x9_1).f1) - a0)) + 1)) (of_decide_eq_true (by first | (with_reducible assumption) | assumption)) (by first | omega | exact of_decide_eq_true (by first | (with_reducible assumption) | assumption)) (of_decide_eq_true (by first | (with_reducible assumption) | assumption)) HC1.out
                                                  have HR270 := Aside0.mk (Kd.C_of_reads (h1 := fun _ => rfl) (hA48 _ (Kd.reads_of_C HR1.out)))
                                                  have HC270 := Aside0.mk hC48
                                                  clear hA48 hC48 hi048 hsz48
                                                  go_wp2_with (first | (go_at_call 30; (try with_reducible refine calls_of_args (args' := #[.slice _ ((l1.take ((wrap64 ((wrap64 (((rd_T61 t252 x9_1).f1) - a0)) + 1)) : Int).toNat).drop ((ji36) : Int).toNat).length _]) (by rw [List.length_drop, List.length_take, Nat.min_eq_left (by have h_ := of_decide_eq_true (by first | (with_reducible assumption) | assumption : decide ((wrap64 ((wrap64 (((rd_T61 t252 x9_1).f1) - a0)) + 1)) ≤ (l1.length : Int)) = true); omega)]) ?_); (with_reducible refine (quot_Fit.calls _ _ ((l1.take ((wrap64 ((wrap64 (((rd_T61 t252 x9_1).f1) - a0)) + 1)) : Int).toNat).drop ((ji36) : Int).toNat) t271 t272 t273 false t275 _ ?side1 ?side2 A40.out).mono ?_); (case side1 => repeat (first | exact (Kd.C_below HR270.out HB.out) | (with_reducible refine Kd.C_alloc ?_ _) | (with_reducible refine Kd.C_drewN ?_ _) | (with_reducible refine Kd.C_drew ?_))); (case side2 => exact HC270.out); rintro e w49 ⟨rfl, hb⟩; have n0_ := Aside0.mk (Kd.R_below (by (with_reducible repeat (first | apply Kd.R_alloc | apply Kd.R_drewN | apply Kd.R_drew)); exact HO_6.out) hb); have n1_ := Aside0.mk (blk_below (g := gb266) (o := .cells #[.int .i64 t261, .int .i64 t262, .int .i64 t263] 23 (0, 0)) (by (with_reducible repeat (first | refine blk_drewN ?_ _ | refine blk_drew ?_ | refine blk_alloc ?_ _)); exact BK266.out) hb); have n2_ := Aside0.mk (below_step (by repeat (first | (with_reducible first | exact HB.out | apply below_alloc | apply pw_below_drewN | apply below_drew1 | refine below_set ?_ GE266.out) | exact HB.out)) hb); clear HO_6; clear BK266; clear HB; have HO_6 := n0_; have BK266 := n1_; have HB := n2_; clear n0_ n1_ n2_; (try clear hb); (try clear hb2); (try clear hk); (try clear hi)) | ((with_reducible refine gate_dst (N := 13) rfl ?_); (try (refine gate_guard (by rfl) ?_; dsimp only)); refine box_event ?hg (N := 13) ?hd (cs := #[.int .i64 0, .int .i64 0, .int .i64 0]) (t := 23) ?hr ?_; (case hd => rfl); (case hg => rfl); (case hr => first | (go_simp; done) | (go_simp; rfl)); intro gb276 hg w50 hbox hb; have n0_ := Aside0.mk (Kd.R_below (by (with_reducible repeat (first | apply Kd.R_alloc | apply Kd.R_drewN | apply Kd.R_drew)); exact HO_6.out) hb); have n1_ := Aside0.mk (blk_below (g := gb266) (o := .cells #[.int .i64 t261, .int .i64 t262, .int .i64 t263] 23 (0, 0)) (by (with_reducible repeat (first | refine blk_drewN ?_ _ | refine blk_drew ?_ | refine blk_alloc ?_ _)); exact BK266.out) hb); have n2_ := Aside0.mk (below_step (by repeat (first | (with_reducible first | exact HB.out | apply below_alloc | apply pw_below_drewN | apply below_drew1 | refine below_set ?_ GE266.out) | exact HB.out)) hb); have n3_ := Aside0.mk (hbox); have n4_ := Aside0.mk ((by rw [hg]; exact (below_size (by repeat (first | (with_reducible first | exact HB.out | apply below_alloc | apply pw_below_drewN | apply below_drew1 | refine below_set ?_ GE266.out) | exact HB.out))) : w.heap.size ≤ gb276)); have n5_ := Aside0.mk ((by rw [hg]; exact (below_size (by repeat (first | (with_reducible first | exact HB.out | apply below_alloc | apply pw_below_drewN | apply below_drew1 | refine below_set ?_ GE266.out) | exact HB.out))) : w.heap.size ≤ gb276)); have n6_ := Aside0.mk ((by rw [hg]; exact Nat.ne_of_lt (blk_lt (g := gb266) (o := .cells #[.int .i64 t261, .int .i64 t262, .int .i64 t263] 23 (0, 0)) (by (with_reducible repeat (first | refine blk_drewN ?_ _ | refine blk_drew ?_ | refine blk_alloc ?_ _)); exact BK266.out)) : gb266 ≠ gb276)); have n7_ := Aside0.mk ((by rw [hg]; exact Nat.ne_of_gt (blk_lt (g := gb266) (o := .cells #[.int .i64 t261, .int .i64 t262, .int .i64 t263] 23 (0, 0)) (by (with_reducible repeat (first | refine blk_drewN ?_ _ | refine blk_drew ?_ | refine blk_alloc ?_ _)); exact BK266.out)) : gb276 ≠ gb266)); clear HO_6; clear BK266; clear HB; have HO_6 := n0_; have BK266 := n1_; have HB := n2_; have BK276 := n3_; have GW276 := n4_; have GE276 := n5_; have NB266_276 := n6_; have NB276_266 := n7_; clear n0_ n1_ n2_ n3_ n4_ n5_ n6_ n7_; clear hb hbox hg; have hnb51 := NB276_266.out; have hnc51 := NB266_276.out; have hcz52_0 : w50.cell? ⟨gb276, 0, none⟩ = some (.int .i64 0) := (blk_cell BK276.out 0).trans rfl; have hcz52_1 : w50.cell? ⟨gb276, 1, none⟩ = some (.int .i64 0) := (blk_cell BK276.out 1).trans rfl; have hcz52_2 : w50.cell? ⟨gb276, 2, none⟩ = some (.int .i64 0) := (blk_cell BK276.out 2).trans rfl; have hfz52_0 := blk_frozen BK276.out 0; have hfz52_1 := blk_frozen BK276.out 1; have hfz52_2 := blk_frozen BK276.out 2))
                                                  repeat (go_quiet (first | (go_at_call 30; (try with_reducible refine calls_of_args (args' := #[.slice _ ((l1.take ((wrap64 ((wrap64 (((rd_T61 t252 x9_1).f1) - a0)) + 1)) : Int).toNat).drop ((ji36) : Int).toNat).length _]) (by rw [List.length_drop, List.length_take, Nat.min_eq_left (by have h_ := of_decide_eq_true (by first | (with_reducible assumption) | assumption : decide ((wrap64 ((wrap64 (((rd_T61 t252 x9_1).f1) - a0)) + 1)) ≤ (l1.length : Int)) = true); omega)]) ?_); (with_reducible refine (quot_Fit.calls _ _ ((l1.take ((wrap64 ((wrap64 (((rd_T61 t252 x9_1).f1) - a0)) + 1)) : Int).toNat).drop ((ji36) : Int).toNat) t271 t272 t273 false t275 _ ?side1 ?side2 A40.out).mono ?_); (case side1 => repeat (first | exact (Kd.C_below HR270.out HB.out) | (with_reducible refine Kd.C_alloc ?_ _) | (with_reducible refine Kd.C_drewN ?_ _) | (with_reducible refine Kd.C_drew ?_))); (case side2 => exact HC270.out); rintro e w49 ⟨rfl, hb⟩; have n0_ := Aside0.mk (Kd.R_below (by (with_reducible repeat (first | apply Kd.R_alloc | apply Kd.R_drewN | apply Kd.R_drew)); exact HO_6.out) hb); have n1_ := Aside0.mk (blk_below (g := gb266) (o := .cells #[.int .i64 t261, .int .i64 t262, .int .i64 t263] 23 (0, 0)) (by (with_reducible repeat (first | refine blk_drewN ?_ _ | refine blk_drew ?_ | refine blk_alloc ?_ _)); exact BK266.out) hb); have n2_ := Aside0.mk (below_step (by repeat (first | (with_reducible first | exact HB.out | apply below_alloc | apply pw_below_drewN | apply below_drew1 | refine below_set ?_ GE266.out) | exact HB.out)) hb); clear HO_6; clear BK266; clear HB; have HO_6 := n0_; have BK266 := n1_; have HB := n2_; clear n0_ n1_ n2_; (try clear hb); (try clear hb2); (try clear hk); (try clear hi)) | ((with_reducible refine gate_dst (N := 13) rfl ?_); (try (refine gate_guard (by rfl) ?_; dsimp only)); refine box_event ?hg (N := 13) ?hd (cs := #[.int .i64 0, .int .i64 0, .int .i64 0]) (t := 23) ?hr ?_; (case hd => rfl); (case hg => rfl); (case hr => first | (go_simp; done) | (go_simp; rfl)); intro gb276 hg w50 hbox hb; have n0_ := Aside0.mk (Kd.R_below (by (with_reducible repeat (first | apply Kd.R_alloc | apply Kd.R_drewN | apply Kd.R_drew)); exact HO_6.out) hb); have n1_ := Aside0.mk (blk_below (g := gb266) (o := .cells #[.int .i64 t261, .int .i64 t262, .int .i64 t263] 23 (0, 0)) (by (with_reducible repeat (first | refine blk_drewN ?_ _ | refine blk_drew ?_ | refine blk_alloc ?_ _)); exact BK266.out) hb); have n2_ := Aside0.mk (below_step (by repeat (first | (with_reducible first | exact HB.out | apply below_alloc | apply pw_below_drewN | apply below_drew1 | refine below_set ?_ GE266.out) | exact HB.out)) hb); have n3_ := Aside0.mk (hbox); have n4_ := Aside0.mk ((by rw [hg]; exact (below_size (by repeat (first | (with_reducible first | exact HB.out | apply below_alloc | apply pw_below_drewN | apply below_drew1 | refine below_set ?_ GE266.out) | exact HB.out))) : w.heap.size ≤ gb276)); have n5_ := Aside0.mk ((by rw [hg]; exact (below_size (by repeat (first | (with_reducible first | exact HB.out | apply below_alloc | apply pw_below_drewN | apply below_drew1 | refine below_set ?_ GE266.out) | exact HB.out))) : w.heap.size ≤ gb276)); have n6_ := Aside0.mk ((by rw [hg]; exact Nat.ne_of_lt (blk_lt (g := gb266) (o := .cells #[.int .i64 t261, .int .i64 t262, .int .i64 t263] 23 (0, 0)) (by (with_reducible repeat (first | refine blk_drewN ?_ _ | refine blk_drew ?_ | refine blk_alloc ?_ _)); exact BK266.out)) : gb266 ≠ gb276)); have n7_ := Aside0.mk ((by rw [hg]; exact Nat.ne_of_gt (blk_lt (g := gb266) (o := .cells #[.int .i64 t261, .int .i64 t262, .int .i64 t263] 23 (0, 0)) (by (with_reducible repeat (first | refine blk_drewN ?_ _ | refine blk_drew ?_ | refine blk_alloc ?_ _)); exact BK266.out)) : gb276 ≠ gb266)); clear HO_6; clear BK266; clear HB; have HO_6 := n0_; have BK266 := n1_; have HB := n2_; have BK276 := n3_; have GW276 := n4_; have GE276 := n5_; have NB266_276 := n6_; have NB276_266 := n7_; clear n0_ n1_ n2_ n3_ n4_ n5_ n6_ n7_; clear hb hbox hg; have hnb51 := NB276_266.out; have hnc51 := NB266_276.out; have hcz52_0 : w50.cell? ⟨gb276, 0, none⟩ = some (.int .i64 0) := (blk_cell BK276.out 0).trans rfl; have hcz52_1 : w50.cell? ⟨gb276, 1, none⟩ = some (.int .i64 0) := (blk_cell BK276.out 1).trans rfl; have hcz52_2 : w50.cell? ⟨gb276, 2, none⟩ = some (.int .i64 0) := (blk_cell BK276.out 2).trans rfl; have hfz52_0 := blk_frozen BK276.out 0; have hfz52_1 := blk_frozen BK276.out 1; have hfz52_2 := blk_frozen BK276.out 2)); try go_wp2_with (first | (go_at_call 30; (try with_reducible refine calls_of_args (args' := #[.slice _ ((l1.take ((wrap64 ((wrap64 (((rd_T61 t252 x9_1).f1) - a0)) + 1)) : Int).toNat).drop ((ji36) : Int).toNat).length _]) (by rw [List.length_drop, List.length_take, Nat.min_eq_left (by have h_ := of_decide_eq_true (by first | (with_reducible assumption) | assumption : decide ((wrap64 ((wrap64 (((rd_T61 t252 x9_1).f1) - a0)) + 1)) ≤ (l1.length : Int)) = true); omega)]) ?_); (with_reducible refine (quot_Fit.calls _ _ ((l1.take ((wrap64 ((wrap64 (((rd_T61 t252 x9_1).f1) - a0)) + 1)) : Int).toNat).drop ((ji36) : Int).toNat) t271 t272 t273 false t275 _ ?side1 ?side2 A40.out).mono ?_); (case side1 => repeat (first | exact (Kd.C_below HR270.out HB.out) | (with_reducible refine Kd.C_alloc ?_ _) | (with_reducible refine Kd.C_drewN ?_ _) | (with_reducible refine Kd.C_drew ?_))); (case side2 => exact HC270.out); rintro e w49 ⟨rfl, hb⟩; have n0_ := Aside0.mk (Kd.R_below (by (with_reducible repeat (first | apply Kd.R_alloc | apply Kd.R_drewN | apply Kd.R_drew)); exact HO_6.out) hb); have n1_ := Aside0.mk (blk_below (g := gb266) (o := .cells #[.int .i64 t261, .int .i64 t262, .int .i64 t263] 23 (0, 0)) (by (with_reducible repeat (first | refine blk_drewN ?_ _ | refine blk_drew ?_ | refine blk_alloc ?_ _)); exact BK266.out) hb); have n2_ := Aside0.mk (below_step (by repeat (first | (with_reducible first | exact HB.out | apply below_alloc | apply pw_below_drewN | apply below_drew1 | refine below_set ?_ GE266.out) | exact HB.out)) hb); clear HO_6; clear BK266; clear HB; have HO_6 := n0_; have BK266 := n1_; have HB := n2_; clear n0_ n1_ n2_; (try clear hb); (try clear hb2); (try clear hk); (try clear hi)) | ((with_reducible refine gate_dst (N := 13) rfl ?_); (try (refine gate_guard (by rfl) ?_; dsimp only)); refine box_event ?hg (N := 13) ?hd (cs := #[.int .i64 0, .int .i64 0, .int .i64 0]) (t := 23) ?hr ?_; (case hd => rfl); (case hg => rfl); (case hr => first | (go_simp; done) | (go_simp; rfl)); intro gb276 hg w50 hbox hb; have n0_ := Aside0.mk (Kd.R_below (by (with_reducible repeat (first | apply Kd.R_alloc | apply Kd.R_drewN | apply Kd.R_drew)); exact HO_6.out) hb); have n1_ := Aside0.mk (blk_below (g := gb266) (o := .cells #[.int .i64 t261, .int .i64 t262, .int .i64 t263] 23 (0, 0)) (by (with_reducible repeat (first | refine blk_drewN ?_ _ | refine blk_drew ?_ | refine blk_alloc ?_ _)); exact BK266.out) hb); have n2_ := Aside0.mk (below_step (by repeat (first | (with_reducible first | exact HB.out | apply below_alloc | apply pw_below_drewN | apply below_drew1 | refine below_set ?_ GE266.out) | exact HB.out)) hb); have n3_ := Aside0.mk (hbox); have n4_ := Aside0.mk ((by rw [hg]; exact (below_size (by repeat (first | (with_reducible first | exact HB.out | apply below_alloc | apply pw_below_drewN | apply below_drew1 | refine below_set ?_ GE266.out) | exact HB.out))) : w.heap.size ≤ gb276)); have n5_ := Aside0.mk ((by rw [hg]; exact (below_size (by repeat (first | (with_reducible first | exact HB.out | apply below_alloc | apply pw_below_drewN | apply below_drew1 | refine below_set ?_ GE266.out) | exact HB.out))) : w.heap.size ≤ gb276)); have n6_ := Aside0.mk ((by rw [hg]; exact Nat.ne_of_lt (blk_lt (g := gb266) (o := .cells #[.int .i64 t261, .int .i64 t262, .int .i64 t263] 23 (0, 0)) (by (with_reducible repeat (first | refine blk_drewN ?_ _ | refine blk_drew ?_ | refine blk_alloc ?_ _)); exact BK266.out)) : gb266 ≠ gb276)); have n7_ := Aside0.mk ((by rw [hg]; exact Nat.ne_of_gt (blk_lt (g := gb266) (o := .cells #[.int .i64 t261, .int .i64 t262, .int .i64 t263] 23 (0, 0)) (by (with_reducible repeat (first | refine blk_drewN ?_ _ | refine blk_drew ?_ | refine blk_alloc ?_ _)); exact BK266.out)) : gb276 ≠ gb266)); clear HO_6; clear BK266; clear HB; have HO_6 := n0_; have BK266 := n1_; have HB := n2_; have BK276 := n3_; have GW276 := n4_; have GE276 := n5_; have NB266_276 := n6_; have NB276_266 := n7_; clear n0_ n1_ n2_ n3_ n4_ n5_ n6_ n7_; clear hb hbox hg; have hnb51 := NB276_266.out; have hnc51 := NB266_276.out; have hcz52_0 : w50.cell? ⟨gb276, 0, none⟩ = some (.int .i64 0) := (blk_cell BK276.out 0).trans rfl; have hcz52_1 : w50.cell? ⟨gb276, 1, none⟩ = some (.int .i64 0) := (blk_cell BK276.out 1).trans rfl; have hcz52_2 : w50.cell? ⟨gb276, 2, none⟩ = some (.int .i64 0) := (blk_cell BK276.out 2).trans rfl; have hfz52_0 := blk_frozen BK276.out 0; have hfz52_1 := blk_frozen BK276.out 1; have hfz52_2 := blk_frozen BK276.out 2)))
                                                  go_roundg kj23
                                                  case measure => have := HK1.out; have := HJ10.out; have := HJ23.out; omega
                                                  case rel => exact ⟨(((rd_T61 t252 x9_1).f1)), (wrap64 (x9_1 + 1)), (by first | rfl | (simp; done) | (simp [*]; done)), (by first | rfl | (simp; done) | (simp [*]; done)), H', ⟨by have := HK1.out; have := HJ10.out; have := HJ23.out; omega⟩, ⟨by (with_reducible repeat (first | apply Kd.R_alloc | apply Kd.R_drewN | apply Kd.R_drew)); exact Kd.R_mono (Kd.R_far (p := ⟨gb276, 2, none⟩) (Kd.R_far (p := ⟨gb276, 1, none⟩) (Kd.R_far (p := ⟨gb276, 0, none⟩) (Kd.R_types HO_6.out BK276.out (by decide)) (fun _ hk => hk.2) (.int .i64 t271)) (fun _ hk => hk.2) (.int .i64 t272)) (fun _ hk => hk.2) (.int .i64 t273)) (fun _ hk => trivial)⟩, ⟨by repeat (first | (with_reducible first | exact HB.out | apply below_alloc | apply pw_below_drewN | apply below_drew1 | refine below_set ?_ GE266.out | refine below_set ?_ GE276.out) | exact HB.out)⟩⟩
                                              · rw [if_neg c41] at H
                                                have c41b0 : (t275 == 0) = false := beq_eq_false_iff_ne.mpr c41
                                                have c41b1 : (t275 != 0) = true := bne_iff_ne.mpr c41
                                                obtain rfl := Option.some.inj H
                                                have p269 : 0 ≤ (x9_1 : Int) := of_decide_eq_true (by first | (with_reducible assumption) | assumption)
                                                have q269 : x9_1 < (t252.length : Int) := of_decide_eq_true (by first | (with_reducible assumption) | assumption)
                                                obtain ⟨ad269, e269, hx269_0, hx269_1, hx269_2, hx269_3, hx269_4⟩ := at_T61 (Kd.R_reads' HO_6.out).2.2 x9_1 p269 q269
                                                obtain rfl : ad259 = ad269 := (by injection e269)
                                                replace p269 := eq_true p269
                                                replace q269 := eq_true q269
                                                obtain ⟨i053, hi053, _, hsz53, _⟩ := info_parts info3
                                                obtain ⟨A53, hcut53, hA53, hC53⟩ := print_mid_of (P := Try.prog) (Value.int .i64) 0 24 3 .i64 .i64 Try.underlying24 hi053 hsz53 A1 c1 l1 (ji36) (wrap64 ((wrap64 (((rd_T61 t252 x9_1).f1) - a0)) + 1)) (of_decide_eq_true (by first | (with_reducible assumption) | assumption)) (by first | omega | exact of_decide_eq_true (by first | (with_reducible assumption) | assumption)) (of_decide_eq_true (by first | (with_reducible assumption) | assumption)) HC1.out
                                                have HR270 := Aside0.mk (Kd.C_of_reads (h1 := fun _ => rfl) (hA53 _ (Kd.reads_of_C HR1.out)))
                                                have HC270 := Aside0.mk hC53
                                                clear hA53 hC53 hi053 hsz53
                                                go_wp2_with (first | (go_at_call 30; (try with_reducible refine calls_of_args (args' := #[.slice _ ((l1.take ((wrap64 ((wrap64 (((rd_T61 t252 x9_1).f1) - a0)) + 1)) : Int).toNat).drop ((ji36) : Int).toNat).length _]) (by rw [List.length_drop, List.length_take, Nat.min_eq_left (by have h_ := of_decide_eq_true (by first | (with_reducible assumption) | assumption : decide ((wrap64 ((wrap64 (((rd_T61 t252 x9_1).f1) - a0)) + 1)) ≤ (l1.length : Int)) = true); omega)]) ?_); (with_reducible refine (quot_Fit.calls _ _ ((l1.take ((wrap64 ((wrap64 (((rd_T61 t252 x9_1).f1) - a0)) + 1)) : Int).toNat).drop ((ji36) : Int).toNat) t271 t272 t273 t274 t275 _ ?side1 ?side2 A40.out).mono ?_); (case side1 => repeat (first | exact (Kd.C_below HR270.out HB.out) | (with_reducible refine Kd.C_alloc ?_ _) | (with_reducible refine Kd.C_drewN ?_ _) | (with_reducible refine Kd.C_drew ?_))); (case side2 => exact HC270.out); rintro e w54 ⟨rfl, hb⟩; have n0_ := Aside0.mk (Kd.R_below (by (with_reducible repeat (first | apply Kd.R_alloc | apply Kd.R_drewN | apply Kd.R_drew)); exact HO_6.out) hb); have n1_ := Aside0.mk (blk_below (g := gb266) (o := .cells #[.int .i64 t261, .int .i64 t262, .int .i64 t263] 23 (0, 0)) (by (with_reducible repeat (first | refine blk_drewN ?_ _ | refine blk_drew ?_ | refine blk_alloc ?_ _)); exact BK266.out) hb); have n2_ := Aside0.mk (below_step (by repeat (first | (with_reducible first | exact HB.out | apply below_alloc | apply pw_below_drewN | apply below_drew1 | refine below_set ?_ GE266.out) | exact HB.out)) hb); clear HO_6; clear BK266; clear HB; have HO_6 := n0_; have BK266 := n1_; have HB := n2_; clear n0_ n1_ n2_; (try clear hb); (try clear hb2); (try clear hk); (try clear hi)) | ((with_reducible refine gate_dst (N := 13) rfl ?_); (try (refine gate_guard (by rfl) ?_; dsimp only)); refine box_event ?hg (N := 13) ?hd (cs := #[.int .i64 0, .int .i64 0, .int .i64 0]) (t := 23) ?hr ?_; (case hd => rfl); (case hg => rfl); (case hr => first | (go_simp; done) | (go_simp; rfl)); intro gb276 hg w55 hbox hb; have n0_ := Aside0.mk (Kd.R_below (by (with_reducible repeat (first | apply Kd.R_alloc | apply Kd.R_drewN | apply Kd.R_drew)); exact HO_6.out) hb); have n1_ := Aside0.mk (blk_below (g := gb266) (o := .cells #[.int .i64 t261, .int .i64 t262, .int .i64 t263] 23 (0, 0)) (by (with_reducible repeat (first | refine blk_drewN ?_ _ | refine blk_drew ?_ | refine blk_alloc ?_ _)); exact BK266.out) hb); have n2_ := Aside0.mk (below_step (by repeat (first | (with_reducible first | exact HB.out | apply below_alloc | apply pw_below_drewN | apply below_drew1 | refine below_set ?_ GE266.out) | exact HB.out)) hb); have n3_ := Aside0.mk (hbox); have n4_ := Aside0.mk ((by rw [hg]; exact (below_size (by repeat (first | (with_reducible first | exact HB.out | apply below_alloc | apply pw_below_drewN | apply below_drew1 | refine below_set ?_ GE266.out) | exact HB.out))) : w.heap.size ≤ gb276)); have n5_ := Aside0.mk ((by rw [hg]; exact (below_size (by repeat (first | (with_reducible first | exact HB.out | apply below_alloc | apply pw_below_drewN | apply below_drew1 | refine below_set ?_ GE266.out) | exact HB.out))) : w.heap.size ≤ gb276)); have n6_ := Aside0.mk ((by rw [hg]; exact Nat.ne_of_lt (blk_lt (g := gb266) (o := .cells #[.int .i64 t261, .int .i64 t262, .int .i64 t263] 23 (0, 0)) (by (with_reducible repeat (first | refine blk_drewN ?_ _ | refine blk_drew ?_ | refine blk_alloc ?_ _)); exact BK266.out)) : gb266 ≠ gb276)); have n7_ := Aside0.mk ((by rw [hg]; exact Nat.ne_of_gt (blk_lt (g := gb266) (o := .cells #[.int .i64 t261, .int .i64 t262, .int .i64 t263] 23 (0, 0)) (by (with_reducible repeat (first | refine blk_drewN ?_ _ | refine blk_drew ?_ | refine blk_alloc ?_ _)); exact BK266.out)) : gb276 ≠ gb266)); clear HO_6; clear BK266; clear HB; have HO_6 := n0_; have BK266 := n1_; have HB := n2_; have BK276 := n3_; have GW276 := n4_; have GE276 := n5_; have NB266_276 := n6_; have NB276_266 := n7_; clear n0_ n1_ n2_ n3_ n4_ n5_ n6_ n7_; clear hb hbox hg; have hnb56 := NB276_266.out; have hnc56 := NB266_276.out; have hcz57_0 : w55.cell? ⟨gb276, 0, none⟩ = some (.int .i64 0) := (blk_cell BK276.out 0).trans rfl; have hcz57_1 : w55.cell? ⟨gb276, 1, none⟩ = some (.int .i64 0) := (blk_cell BK276.out 1).trans rfl; have hcz57_2 : w55.cell? ⟨gb276, 2, none⟩ = some (.int .i64 0) := (blk_cell BK276.out 2).trans rfl; have hfz57_0 := blk_frozen BK276.out 0; have hfz57_1 := blk_frozen BK276.out 1; have hfz57_2 := blk_frozen BK276.out 2))
                                                repeat (go_quiet (first | (go_at_call 30; (try with_reducible refine calls_of_args (args' := #[.slice _ ((l1.take ((wrap64 ((wrap64 (((rd_T61 t252 x9_1).f1) - a0)) + 1)) : Int).toNat).drop ((ji36) : Int).toNat).length _]) (by rw [List.length_drop, List.length_take, Nat.min_eq_left (by have h_ := of_decide_eq_true (by first | (with_reducible assumption) | assumption : decide ((wrap64 ((wrap64 (((rd_T61 t252 x9_1).f1) - a0)) + 1)) ≤ (l1.length : Int)) = true); omega)]) ?_); (with_reducible refine (quot_Fit.calls _ _ ((l1.take ((wrap64 ((wrap64 (((rd_T61 t252 x9_1).f1) - a0)) + 1)) : Int).toNat).drop ((ji36) : Int).toNat) t271 t272 t273 t274 t275 _ ?side1 ?side2 A40.out).mono ?_); (case side1 => repeat (first | exact (Kd.C_below HR270.out HB.out) | (with_reducible refine Kd.C_alloc ?_ _) | (with_reducible refine Kd.C_drewN ?_ _) | (with_reducible refine Kd.C_drew ?_))); (case side2 => exact HC270.out); rintro e w54 ⟨rfl, hb⟩; have n0_ := Aside0.mk (Kd.R_below (by (with_reducible repeat (first | apply Kd.R_alloc | apply Kd.R_drewN | apply Kd.R_drew)); exact HO_6.out) hb); have n1_ := Aside0.mk (blk_below (g := gb266) (o := .cells #[.int .i64 t261, .int .i64 t262, .int .i64 t263] 23 (0, 0)) (by (with_reducible repeat (first | refine blk_drewN ?_ _ | refine blk_drew ?_ | refine blk_alloc ?_ _)); exact BK266.out) hb); have n2_ := Aside0.mk (below_step (by repeat (first | (with_reducible first | exact HB.out | apply below_alloc | apply pw_below_drewN | apply below_drew1 | refine below_set ?_ GE266.out) | exact HB.out)) hb); clear HO_6; clear BK266; clear HB; have HO_6 := n0_; have BK266 := n1_; have HB := n2_; clear n0_ n1_ n2_; (try clear hb); (try clear hb2); (try clear hk); (try clear hi)) | ((with_reducible refine gate_dst (N := 13) rfl ?_); (try (refine gate_guard (by rfl) ?_; dsimp only)); refine box_event ?hg (N := 13) ?hd (cs := #[.int .i64 0, .int .i64 0, .int .i64 0]) (t := 23) ?hr ?_; (case hd => rfl); (case hg => rfl); (case hr => first | (go_simp; done) | (go_simp; rfl)); intro gb276 hg w55 hbox hb; have n0_ := Aside0.mk (Kd.R_below (by (with_reducible repeat (first | apply Kd.R_alloc | apply Kd.R_drewN | apply Kd.R_drew)); exact HO_6.out) hb); have n1_ := Aside0.mk (blk_below (g := gb266) (o := .cells #[.int .i64 t261, .int .i64 t262, .int .i64 t263] 23 (0, 0)) (by (with_reducible repeat (first | refine blk_drewN ?_ _ | refine blk_drew ?_ | refine blk_alloc ?_ _)); exact BK266.out) hb); have n2_ := Aside0.mk (below_step (by repeat (first | (with_reducible first | exact HB.out | apply below_alloc | apply pw_below_drewN | apply below_drew1 | refine below_set ?_ GE266.out) | exact HB.out)) hb); have n3_ := Aside0.mk (hbox); have n4_ := Aside0.mk ((by rw [hg]; exact (below_size (by repeat (first | (with_reducible first | exact HB.out | apply below_alloc | apply pw_below_drewN | apply below_drew1 | refine below_set ?_ GE266.out) | exact HB.out))) : w.heap.size ≤ gb276)); have n5_ := Aside0.mk ((by rw [hg]; exact (below_size (by repeat (first | (with_reducible first | exact HB.out | apply below_alloc | apply pw_below_drewN | apply below_drew1 | refine below_set ?_ GE266.out) | exact HB.out))) : w.heap.size ≤ gb276)); have n6_ := Aside0.mk ((by rw [hg]; exact Nat.ne_of_lt (blk_lt (g := gb266) (o := .cells #[.int .i64 t261, .int .i64 t262, .int .i64 t263] 23 (0, 0)) (by (with_reducible repeat (first | refine blk_drewN ?_ _ | refine blk_drew ?_ | refine blk_alloc ?_ _)); exact BK266.out)) : gb266 ≠ gb276)); have n7_ := Aside0.mk ((by rw [hg]; exact Nat.ne_of_gt (blk_lt (g := gb266) (o := .cells #[.int .i64 t261, .int .i64 t262, .int .i64 t263] 23 (0, 0)) (by (with_reducible repeat (first | refine blk_drewN ?_ _ | refine blk_drew ?_ | refine blk_alloc ?_ _)); exact BK266.out)) : gb276 ≠ gb266)); clear HO_6; clear BK266; clear HB; have HO_6 := n0_; have BK266 := n1_; have HB := n2_; have BK276 := n3_; have GW276 := n4_; have GE276 := n5_; have NB266_276 := n6_; have NB276_266 := n7_; clear n0_ n1_ n2_ n3_ n4_ n5_ n6_ n7_; clear hb hbox hg; have hnb56 := NB276_266.out; have hnc56 := NB266_276.out; have hcz57_0 : w55.cell? ⟨gb276, 0, none⟩ = some (.int .i64 0) := (blk_cell BK276.out 0).trans rfl; have hcz57_1 : w55.cell? ⟨gb276, 1, none⟩ = some (.int .i64 0) := (blk_cell BK276.out 1).trans rfl; have hcz57_2 : w55.cell? ⟨gb276, 2, none⟩ = some (.int .i64 0) := (blk_cell BK276.out 2).trans rfl; have hfz57_0 := blk_frozen BK276.out 0; have hfz57_1 := blk_frozen BK276.out 1; have hfz57_2 := blk_frozen BK276.out 2)); try go_wp2_with (first | (go_at_call 30; (try with_reducible refine calls_of_args (args' := #[.slice _ ((l1.take ((wrap64 ((wrap64 (((rd_T61 t252 x9_1).f1) - a0)) + 1)) : Int).toNat).drop ((ji36) : Int).toNat).length _]) (by rw [List.length_drop, List.length_take, Nat.min_eq_left (by have h_ := of_decide_eq_true (by first | (with_reducible assumption) | assumption : decide ((wrap64 ((wrap64 (((rd_T61 t252 x9_1).f1) - a0)) + 1)) ≤ (l1.length : Int)) = true); omega)]) ?_); (with_reducible refine (quot_Fit.calls _ _ ((l1.take ((wrap64 ((wrap64 (((rd_T61 t252 x9_1).f1) - a0)) + 1)) : Int).toNat).drop ((ji36) : Int).toNat) t271 t272 t273 t274 t275 _ ?side1 ?side2 A40.out).mono ?_); (case side1 => repeat (first | exact (Kd.C_below HR270.out HB.out) | (with_reducible refine Kd.C_alloc ?_ _) | (with_reducible refine Kd.C_drewN ?_ _) | (with_reducible refine Kd.C_drew ?_))); (case side2 => exact HC270.out); rintro e w54 ⟨rfl, hb⟩; have n0_ := Aside0.mk (Kd.R_below (by (with_reducible repeat (first | apply Kd.R_alloc | apply Kd.R_drewN | apply Kd.R_drew)); exact HO_6.out) hb); have n1_ := Aside0.mk (blk_below (g := gb266) (o := .cells #[.int .i64 t261, .int .i64 t262, .int .i64 t263] 23 (0, 0)) (by (with_reducible repeat (first | refine blk_drewN ?_ _ | refine blk_drew ?_ | refine blk_alloc ?_ _)); exact BK266.out) hb); have n2_ := Aside0.mk (below_step (by repeat (first | (with_reducible first | exact HB.out | apply below_alloc | apply pw_below_drewN | apply below_drew1 | refine below_set ?_ GE266.out) | exact HB.out)) hb); clear HO_6; clear BK266; clear HB; have HO_6 := n0_; have BK266 := n1_; have HB := n2_; clear n0_ n1_ n2_; (try clear hb); (try clear hb2); (try clear hk); (try clear hi)) | ((with_reducible refine gate_dst (N := 13) rfl ?_); (try (refine gate_guard (by rfl) ?_; dsimp only)); refine box_event ?hg (N := 13) ?hd (cs := #[.int .i64 0, .int .i64 0, .int .i64 0]) (t := 23) ?hr ?_; (case hd => rfl); (case hg => rfl); (case hr => first | (go_simp; done) | (go_simp; rfl)); intro gb276 hg w55 hbox hb; have n0_ := Aside0.mk (Kd.R_below (by (with_reducible repeat (first | apply Kd.R_alloc | apply Kd.R_drewN | apply Kd.R_drew)); exact HO_6.out) hb); have n1_ := Aside0.mk (blk_below (g := gb266) (o := .cells #[.int .i64 t261, .int .i64 t262, .int .i64 t263] 23 (0, 0)) (by (with_reducible repeat (first | refine blk_drewN ?_ _ | refine blk_drew ?_ | refine blk_alloc ?_ _)); exact BK266.out) hb); have n2_ := Aside0.mk (below_step (by repeat (first | (with_reducible first | exact HB.out | apply below_alloc | apply pw_below_drewN | apply below_drew1 | refine below_set ?_ GE266.out) | exact HB.out)) hb); have n3_ := Aside0.mk (hbox); have n4_ := Aside0.mk ((by rw [hg]; exact (below_size (by repeat (first | (with_reducible first | exact HB.out | apply below_alloc | apply pw_below_drewN | apply below_drew1 | refine below_set ?_ GE266.out) | exact HB.out))) : w.heap.size ≤ gb276)); have n5_ := Aside0.mk ((by rw [hg]; exact (below_size (by repeat (first | (with_reducible first | exact HB.out | apply below_alloc | apply pw_below_drewN | apply below_drew1 | refine below_set ?_ GE266.out) | exact HB.out))) : w.heap.size ≤ gb276)); have n6_ := Aside0.mk ((by rw [hg]; exact Nat.ne_of_lt (blk_lt (g := gb266) (o := .cells #[.int .i64 t261, .int .i64 t262, .int .i64 t263] 23 (0, 0)) (by (with_reducible repeat (first | refine blk_drewN ?_ _ | refine blk_drew ?_ | refine blk_alloc ?_ _)); exact BK266.out)) : gb266 ≠ gb276)); have n7_ := Aside0.mk ((by rw [hg]; exact Nat.ne_of_gt (blk_lt (g := gb266) (o := .cells #[.int .i64 t261, .int .i64 t262, .int .i64 t263] 23 (0, 0)) (by (with_reducible repeat (first | refine blk_drewN ?_ _ | refine blk_drew ?_ | refine blk_alloc ?_ _)); exact BK266.out)) : gb276 ≠ gb266)); clear HO_6; clear BK266; clear HB; have HO_6 := n0_; have BK266 := n1_; have HB := n2_; have BK276 := n3_; have GW276 := n4_; have GE276 := n5_; have NB266_276 := n6_; have NB276_266 := n7_; clear n0_ n1_ n2_ n3_ n4_ n5_ n6_ n7_; clear hb hbox hg; have hnb56 := NB276_266.out; have hnc56 := NB266_276.out; have hcz57_0 : w55.cell? ⟨gb276, 0, none⟩ = some (.int .i64 0) := (blk_cell BK276.out 0).trans rfl; have hcz57_1 : w55.cell? ⟨gb276, 1, none⟩ = some (.int .i64 0) := (blk_cell BK276.out 1).trans rfl; have hcz57_2 : w55.cell? ⟨gb276, 2, none⟩ = some (.int .i64 0) := (blk_cell BK276.out 2).trans rfl; have hfz57_0 := blk_frozen BK276.out 0; have hfz57_1 := blk_frozen BK276.out 1; have hfz57_2 := blk_frozen BK276.out 2)))
                                                go_ret
                                                exact ⟨by first | rfl | (simp [errW_none, errW_some] <;> rfl) | (simp only [← hji19, ← hji36]; first | rfl | (simp [errW_none, errW_some] <;> rfl)) | (simp [*, errW_none, errW_some] <;> rfl), by repeat (first | (with_reducible first | exact HB.out | apply below_alloc | apply pw_below_drewN | apply below_drew1 | refine below_set ?_ GE266.out | refine below_set ?_ GE276.out) | exact HB.out)⟩
                                            · rw [if_neg c39] at H
                                              exact absurd H (by simp)
                                          · rw [if_neg c38] at H
                                            exact absurd H (by simp)
                                        · rw [if_neg c37] at H
                                          exact absurd H (by simp)
                                      · rw [if_neg c35] at H
                                        exact absurd H (by simp)
                                    · rw [if_neg c34] at H
                                      exact absurd H (by simp)
                          · rw [if_neg c22] at H
                            exact absurd H (by simp)
                        · rw [if_neg c21] at H
                          exact absurd H (by simp)
                      · rw [if_neg c20] at H
                        exact absurd H (by simp)
                    · rw [if_neg c18] at H
                      exact absurd H (by simp)
                  · rw [if_neg c17] at H
                    exact absurd H (by simp)
          · rw [if_neg c10] at H
            have c10b0 : decide (x9_1 < (t252.length : Int)) = false := decide_eq_false c10
            clear c10
            by_cases c58 : t251 = true
            · subst c58
              have H1 : (some (x8_1 == (wrap64 (a0 + (l1.length : Int))))) = some r := by rw [if_pos rfl] at H; exact H
              clear H
              have H := H1
              clear H1
              obtain rfl := Option.some.inj H
              obtain ⟨Ao59, co59, eo59⟩ := Kd.R_slice HO_6.out
              subst eo59
              go_wp2
              repeat (go_quiet (fail); try go_wp2)
              go_ret
              exact ⟨by first | rfl | (simp [errW_none, errW_some] <;> rfl) | (simp [*, errW_none, errW_some] <;> rfl), by repeat (first | (with_reducible first | exact HB.out | apply below_alloc | apply pw_below_drewN | apply below_drew1) | exact HB.out)⟩
            · replace c58 := Bool.eq_false_iff.mpr c58
              subst c58
              have H1 : (some false) = some r := by rw [if_neg (show ¬ (false = true) by decide)] at H; exact H
              clear H
              have H := H1
              clear H1
              obtain rfl := Option.some.inj H
              obtain ⟨Ao60, co60, eo60⟩ := Kd.R_slice HO_6.out
              subst eo60
              go_wp2
              repeat (go_quiet (fail); try go_wp2)
              go_ret
              exact ⟨by first | rfl | (simp [errW_none, errW_some] <;> rfl) | (simp [*, errW_none, errW_some] <;> rfl), by repeat (first | (with_reducible first | exact HB.out | apply below_alloc | apply pw_below_drewN | apply below_drew1) | exact HB.out)⟩
    · rw [if_neg c7] at H
      have c7b0 : (t253 == 0) = false := beq_eq_false_iff_ne.mpr c7
      have c7b1 : (t253 != 0) = true := bne_iff_ne.mpr c7
      by_cases c61 : t251 = true
      · subst c61
        have H1 : (some ((t252.length : Int) == 0)) = some r := by rw [if_pos rfl] at H; exact H
        clear H
        have H := H1
        clear H1
        obtain rfl := Option.some.inj H
        go_enter Try.func11, Try.ntmps11
        go_wp2_with (first | (go_at_call 41; (with_reducible refine (formelaw02_head.calls k  true _ A3.out).mono ?_); rintro e w62 ⟨rfl, hb⟩; have n0_ := Aside0.mk (below_step (by repeat (first | (with_reducible first | exact HB.out | apply below_alloc | apply pw_below_drewN | apply below_drew1) | exact HB.out)) hb); clear HB; have HB := n0_; clear n0_; (try clear hb); (try clear hb2); (try clear hk); (try clear hi)) | (go_at_call 42; (with_reducible refine (curve_Make.calls a0 _ _ l1 t252 t253 _ ?side1 ?side2 A6.out).mono ?_); (case side1 => repeat (first | exact (Kd.C_below HR1.out HB.out) | (with_reducible refine Kd.C_alloc ?_ _) | (with_reducible refine Kd.C_drewN ?_ _) | (with_reducible refine Kd.C_drew ?_))); (case side2 => exact HC1.out); rintro e w63 ⟨v254, rfl, ho0, hb⟩; have n0_ := Aside0.mk (Kd.R_lower ho0 (below_size (by repeat (first | (with_reducible first | exact HB.out | apply below_alloc | apply pw_below_drewN | apply below_drew1) | exact HB.out)))); have n1_ := Aside0.mk (below_step (by repeat (first | (with_reducible first | exact HB.out | apply below_alloc | apply pw_below_drewN | apply below_drew1) | exact HB.out)) hb); clear HB; have HO255 := n0_; have HB := n1_; clear n0_ n1_; (try clear hb); (try clear hb2); (try clear hk); (try clear hi); (try clear ho0); obtain ⟨Ao64, co64, eo64⟩ := Kd.R_slice HO255.out; subst eo64))
        repeat (go_quiet (first | (go_at_call 41; (with_reducible refine (formelaw02_head.calls k  true _ A3.out).mono ?_); rintro e w62 ⟨rfl, hb⟩; have n0_ := Aside0.mk (below_step (by repeat (first | (with_reducible first | exact HB.out | apply below_alloc | apply pw_below_drewN | apply below_drew1) | exact HB.out)) hb); clear HB; have HB := n0_; clear n0_; (try clear hb); (try clear hb2); (try clear hk); (try clear hi)) | (go_at_call 42; (with_reducible refine (curve_Make.calls a0 _ _ l1 t252 t253 _ ?side1 ?side2 A6.out).mono ?_); (case side1 => repeat (first | exact (Kd.C_below HR1.out HB.out) | (with_reducible refine Kd.C_alloc ?_ _) | (with_reducible refine Kd.C_drewN ?_ _) | (with_reducible refine Kd.C_drew ?_))); (case side2 => exact HC1.out); rintro e w63 ⟨v254, rfl, ho0, hb⟩; have n0_ := Aside0.mk (Kd.R_lower ho0 (below_size (by repeat (first | (with_reducible first | exact HB.out | apply below_alloc | apply pw_below_drewN | apply below_drew1) | exact HB.out)))); have n1_ := Aside0.mk (below_step (by repeat (first | (with_reducible first | exact HB.out | apply below_alloc | apply pw_below_drewN | apply below_drew1) | exact HB.out)) hb); clear HB; have HO255 := n0_; have HB := n1_; clear n0_ n1_; (try clear hb); (try clear hb2); (try clear hk); (try clear hi); (try clear ho0); obtain ⟨Ao64, co64, eo64⟩ := Kd.R_slice HO255.out; subst eo64)); try go_wp2_with (first | (go_at_call 41; (with_reducible refine (formelaw02_head.calls k  true _ A3.out).mono ?_); rintro e w62 ⟨rfl, hb⟩; have n0_ := Aside0.mk (below_step (by repeat (first | (with_reducible first | exact HB.out | apply below_alloc | apply pw_below_drewN | apply below_drew1) | exact HB.out)) hb); clear HB; have HB := n0_; clear n0_; (try clear hb); (try clear hb2); (try clear hk); (try clear hi)) | (go_at_call 42; (with_reducible refine (curve_Make.calls a0 _ _ l1 t252 t253 _ ?side1 ?side2 A6.out).mono ?_); (case side1 => repeat (first | exact (Kd.C_below HR1.out HB.out) | (with_reducible refine Kd.C_alloc ?_ _) | (with_reducible refine Kd.C_drewN ?_ _) | (with_reducible refine Kd.C_drew ?_))); (case side2 => exact HC1.out); rintro e w63 ⟨v254, rfl, ho0, hb⟩; have n0_ := Aside0.mk (Kd.R_lower ho0 (below_size (by repeat (first | (with_reducible first | exact HB.out | apply below_alloc | apply pw_below_drewN | apply below_drew1) | exact HB.out)))); have n1_ := Aside0.mk (below_step (by repeat (first | (with_reducible first | exact HB.out | apply below_alloc | apply pw_below_drewN | apply below_drew1) | exact HB.out)) hb); clear HB; have HO255 := n0_; have HB := n1_; clear n0_ n1_; (try clear hb); (try clear hb2); (try clear hk); (try clear hi); (try clear ho0); obtain ⟨Ao64, co64, eo64⟩ := Kd.R_slice HO255.out; subst eo64)))
        go_ret
        exact ⟨by first | rfl | (simp [errW_none, errW_some] <;> rfl) | (simp [*, errW_none, errW_some] <;> rfl), by repeat (first | (with_reducible first | exact HB.out | apply below_alloc | apply pw_below_drewN | apply below_drew1) | exact HB.out)⟩
      · replace c61 := Bool.eq_false_iff.mpr c61
        subst c61
        have H1 : (some false) = some r := by rw [if_neg (show ¬ (false = true) by decide)] at H; exact H
        clear H
        have H := H1
        clear H1
        obtain rfl := Option.some.inj H
        go_enter Try.func11, Try.ntmps11
        go_wp2_with (first | (go_at_call 41; (with_reducible refine (formelaw02_head.calls k  false _ A3.out).mono ?_); rintro e w65 ⟨rfl, hb⟩; have n0_ := Aside0.mk (below_step (by repeat (first | (with_reducible first | exact HB.out | apply below_alloc | apply pw_below_drewN | apply below_drew1) | exact HB.out)) hb); clear HB; have HB := n0_; clear n0_; (try clear hb); (try clear hb2); (try clear hk); (try clear hi)) | (go_at_call 42; (with_reducible refine (curve_Make.calls a0 _ _ l1 t252 t253 _ ?side1 ?side2 A6.out).mono ?_); (case side1 => repeat (first | exact (Kd.C_below HR1.out HB.out) | (with_reducible refine Kd.C_alloc ?_ _) | (with_reducible refine Kd.C_drewN ?_ _) | (with_reducible refine Kd.C_drew ?_))); (case side2 => exact HC1.out); rintro e w66 ⟨v254, rfl, ho0, hb⟩; have n0_ := Aside0.mk (Kd.R_lower ho0 (below_size (by repeat (first | (with_reducible first | exact HB.out | apply below_alloc | apply pw_below_drewN | apply below_drew1) | exact HB.out)))); have n1_ := Aside0.mk (below_step (by repeat (first | (with_reducible first | exact HB.out | apply below_alloc | apply pw_below_drewN | apply below_drew1) | exact HB.out)) hb); clear HB; have HO255 := n0_; have HB := n1_; clear n0_ n1_; (try clear hb); (try clear hb2); (try clear hk); (try clear hi); (try clear ho0)))
        repeat (go_quiet (first | (go_at_call 41; (with_reducible refine (formelaw02_head.calls k  false _ A3.out).mono ?_); rintro e w65 ⟨rfl, hb⟩; have n0_ := Aside0.mk (below_step (by repeat (first | (with_reducible first | exact HB.out | apply below_alloc | apply pw_below_drewN | apply below_drew1) | exact HB.out)) hb); clear HB; have HB := n0_; clear n0_; (try clear hb); (try clear hb2); (try clear hk); (try clear hi)) | (go_at_call 42; (with_reducible refine (curve_Make.calls a0 _ _ l1 t252 t253 _ ?side1 ?side2 A6.out).mono ?_); (case side1 => repeat (first | exact (Kd.C_below HR1.out HB.out) | (with_reducible refine Kd.C_alloc ?_ _) | (with_reducible refine Kd.C_drewN ?_ _) | (with_reducible refine Kd.C_drew ?_))); (case side2 => exact HC1.out); rintro e w66 ⟨v254, rfl, ho0, hb⟩; have n0_ := Aside0.mk (Kd.R_lower ho0 (below_size (by repeat (first | (with_reducible first | exact HB.out | apply below_alloc | apply pw_below_drewN | apply below_drew1) | exact HB.out)))); have n1_ := Aside0.mk (below_step (by repeat (first | (with_reducible first | exact HB.out | apply below_alloc | apply pw_below_drewN | apply below_drew1) | exact HB.out)) hb); clear HB; have HO255 := n0_; have HB := n1_; clear n0_ n1_; (try clear hb); (try clear hb2); (try clear hk); (try clear hi); (try clear ho0))); try go_wp2_with (first | (go_at_call 41; (with_reducible refine (formelaw02_head.calls k  false _ A3.out).mono ?_); rintro e w65 ⟨rfl, hb⟩; have n0_ := Aside0.mk (below_step (by repeat (first | (with_reducible first | exact HB.out | apply below_alloc | apply pw_below_drewN | apply below_drew1) | exact HB.out)) hb); clear HB; have HB := n0_; clear n0_; (try clear hb); (try clear hb2); (try clear hk); (try clear hi)) | (go_at_call 42; (with_reducible refine (curve_Make.calls a0 _ _ l1 t252 t253 _ ?side1 ?side2 A6.out).mono ?_); (case side1 => repeat (first | exact (Kd.C_below HR1.out HB.out) | (with_reducible refine Kd.C_alloc ?_ _) | (with_reducible refine Kd.C_drewN ?_ _) | (with_reducible refine Kd.C_drew ?_))); (case side2 => exact HC1.out); rintro e w66 ⟨v254, rfl, ho0, hb⟩; have n0_ := Aside0.mk (Kd.R_lower ho0 (below_size (by repeat (first | (with_reducible first | exact HB.out | apply below_alloc | apply pw_below_drewN | apply below_drew1) | exact HB.out)))); have n1_ := Aside0.mk (below_step (by repeat (first | (with_reducible first | exact HB.out | apply below_alloc | apply pw_below_drewN | apply below_drew1) | exact HB.out)) hb); clear HB; have HO255 := n0_; have HB := n1_; clear n0_ n1_; (try clear hb); (try clear hb2); (try clear hk); (try clear hi); (try clear ho0))))
        go_ret
        exact ⟨by first | rfl | (simp [errW_none, errW_some] <;> rfl) | (simp [*, errW_none, errW_some] <;> rfl), by repeat (first | (with_reducible first | exact HB.out | apply below_alloc | apply pw_below_drewN | apply below_drew1) | exact HB.out)⟩

/-- THE ONE PURE STATEMENT of formelaw02_CurveLong: yours. -/
def formelaw02_CurveLong.Pure : Prop := ∀ (a0 : Int) (l1 : List Int), (Lit.int .i64 a0).wf = true → l1.length ≤ maxLen → l1.length * 8 ≤ 140737488351232 → (∀ x ∈ l1, (Lit.int .i64 x).wf = true) → ∃ k, formelaw02_CurveLong.f k a0 l1 = some true
theorem formelaw02_CurveLong.walk (P : formelaw02_CurveLong.Pure) (a0 : Int) (a1 : Option Addr) (len1 cap1 : Nat) (z1 : List Int) (w : World) (w0 : (Lit.int .i64 a0).wf = true) (w1 : (a1 = none ∧ len1 = 0 ∧ cap1 = 0 ∧ z1 = []) ∨ ∃ x, a1 = some x ∧ len1 ≤ cap1 ∧ cap1 ≤ maxLen ∧ z1.length = cap1 ∧ (∀ i, i < z1.length → w.cell? (x.add i) = some (.int .i64 (z1.getD i 0))) ∧ ∀ n ∈ z1, (Lit.int .i64 n).wf = true) (y1 : len1 * 8 ≤ 140737488351232) :
    Calls Try.prog 11 #[.int .i64 a0, .slice a1 len1 cap1] w fun e w' => e = .returned (.bool true) ∧ Below w.heap.size w w' := by
  obtain ⟨l1, rfl, hr1, hm1, hw1, hc1⟩ := ReadsInt.ofRowC w1
  obtain ⟨k, h⟩ := P a0 l1 w0 hm1 y1 hw1
  refine (formelaw02_CurveLong.calls k a0 _ _ l1 true w (Kd.C_of_reads (d := (0 : Int)) (h1 := fun _ => rfl) hr1) hc1 h).mono ?_
  rintro e w' ⟨rfl, hd⟩
  exact ⟨rfl, hd⟩

end Go.Proofs.Ytjpghfjaloglhaa.PCurve
