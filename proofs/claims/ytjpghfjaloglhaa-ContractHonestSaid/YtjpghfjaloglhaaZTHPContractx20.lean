import Derived.Test.YtjpghfjaloglhaaZTHZip
import Derived.Test.YtjpghfjaloglhaaZTHPContractx0
import Derived.Test.YtjpghfjaloglhaaZTHPContractx2
import Derived.Test.YtjpghfjaloglhaaZTHPContractx9
import Derived.Test.YtjpghfjaloglhaaZTHPContractx13
import Derived.Test.YtjpghfjaloglhaaZTHPContractx19
import Derived.Test.YtjpghfjaloglhaaZTHEContractCourse
import Derived.Test.YtjpghfjaloglhaaZTHEContractHead38
import Derived.Test.YtjpghfjaloglhaaZTHEContractJudge
namespace Go.Proofs.Ytjpghfjaloglhaa.PContract
open Go.RowKit Go.Proofs.YtjpghfjaloglhaaW.PrintWords Go.Proofs.YtjpghfjaloglhaaW.PrintLast Go.Proofs.YtjpghfjaloglhaaW.PrintMore Go.Proofs.Ytjpghfjaloglhaa.Zip
attribute [local go_sem] max2_int min2_int max_two min_two max_three min_three max_four min_four   -- for this text's walks alone
set_option linter.unusedVariables false
set_option linter.unusedSimpArgs false
attribute [local go_sem high] eqA71
mutual
def formelaw38_ContractHonest.j0 : Nat → List Int → Int → Bool → Bool → Int → Int → List (S61) → Option (Bool)
 | 0, _, _, _, _, _, _, _ => none
 | k + 1, x1, x2, x7, x31, x540000, x540001, x540002 => if x31 = true then (some x7) else ((formelaw38_honest.f k x540000 x540001 x540002 x1 x2).bind fun bt543 => (if bt543.2 = true then ((contract_Course.f x540000 x540001 x540002 bt543.1).bind fun bt547 => (formelaw38_ContractHonest.l0 k x7 bt543.1 bt547.2.2.2.2.2.2 0 x540000 x540001 x540002 bt547.1 bt547.2.1 bt547.2.2.1 bt547.2.2.2.1 bt547.2.2.2.2.1)) else (some false)))
def formelaw38_ContractHonest.l0 : Nat → Bool → List (S78) → Int → Int → Int → Int → List (S61) → Int → Int → Int → Int → Bool → Option (Bool)
 | 0, _, _, _, _, _, _, _, _, _, _, _, _ => none
 | k + 1, x7, x8, x12, x13, x540000, x540001, x540002, x557000, x557001, x557002, x557003, x557004 => if x13 < (x8.length : Int) then (if 0 ≤ x13 then ((contract_Judge.f x540000 x540001 x540002 x540000 0 0 0 false ((rd_T78 x8 x13).f0) ((rd_T78 x8 x13).f1) ((rd_T78 x8 x13).f2) ((rd_T78 x8 x13).f3)).bind fun bt558 => (if x7 = true then (if bt558.2.2.2.2.2.2.2 = 0 then (formelaw38_ContractHonest.l0 k (!bt558.2.2.2.2.2.2.1) x8 x12 (wrap64 (x13 + 1)) x540000 x540001 x540002 x557000 x557001 x557002 x557003 x557004) else (formelaw38_ContractHonest.l0 k false x8 x12 (wrap64 (x13 + 1)) x540000 x540001 x540002 x557000 x557001 x557002 x557003 x557004)) else (formelaw38_ContractHonest.l0 k false x8 x12 (wrap64 (x13 + 1)) x540000 x540001 x540002 x557000 x557001 x557002 x557003 x557004))) else (none)) else (if x7 = true then (if x12 = 0 then (some (x557000 == x540000 && (x557001 == 0 && (x557002 == 0 && (x557003 == 0 && (!x557004)))))) else (some false)) else (some false))
end
def formelaw38_ContractHonest.f (k : Nat) (a0_0 : Int) (a0_1 : Int) (l0_2 : List (S61)) (l1 : List Int) (a2 : Int) : Option (Bool) := (formelaw38_head.f).bind fun t540 => ((formeref38_Few.f k a0_0 a0_1 l0_2).bind fun t541 => (if t541 = true then ((formeref38_Valid.f k a0_0 a0_1 l0_2).bind fun t542 => (if t542 = true then (formelaw38_ContractHonest.j0 k l1 a2 t540 (decide ((l1.length : Int) > 40)) a0_0 a0_1 l0_2) else (formelaw38_ContractHonest.j0 k l1 a2 t540 true a0_0 a0_1 l0_2))) else (formelaw38_ContractHonest.j0 k l1 a2 t540 true a0_0 a0_1 l0_2)))
theorem formelaw38_ContractHonest.mono_l : ∀ k, (∀ y0 y1 y2 y3 y4 y5 y6, LeO (formelaw38_ContractHonest.j0 k y0 y1 y2 y3 y4 y5 y6) (formelaw38_ContractHonest.j0 (k + 1) y0 y1 y2 y3 y4 y5 y6)) ∧ (∀ y0 y1 y2 y3 y4 y5 y6 y7 y8 y9 y10 y11, LeO (formelaw38_ContractHonest.l0 k y0 y1 y2 y3 y4 y5 y6 y7 y8 y9 y10 y11) (formelaw38_ContractHonest.l0 (k + 1) y0 y1 y2 y3 y4 y5 y6 y7 y8 y9 y10 y11))
 | 0 => ⟨fun _ _ _ _ _ _ _ r h => by simp [formelaw38_ContractHonest.j0] at h, fun _ _ _ _ _ _ _ _ _ _ _ _ r h => by simp [formelaw38_ContractHonest.l0] at h⟩
 | k + 1 => by
  obtain ⟨ih0, ih1⟩ := formelaw38_ContractHonest.mono_l k
  refine ⟨?_, ?_⟩
  ·intro y0 y1 y2 y3 y4 y5 y6
   unfold formelaw38_ContractHonest.j0
   repeat' first
   | (with_reducible exact ih0 _ _ _ _ _ _ _)
   | (with_reducible exact ih1 _ _ _ _ _ _ _ _ _ _ _ _)
   | (with_reducible exact formelaw38_honest.mono _ _ _ _ _ _)
   | (with_reducible exact formeref38_Few.mono _ _ _ _)
   | (with_reducible exact formeref38_Valid.mono _ _ _ _)
   | (with_reducible exact LeO.refl _)
   | (with_reducible exact LeO.none _)
   | (with_reducible refine LeO.ite ?_ ?_)
   | (with_reducible refine LeO.bind ?_ (fun _ => ?_))
   | exact ih0 _ _ _ _ _ _ _
   | exact ih1 _ _ _ _ _ _ _ _ _ _ _ _
   | exact formelaw38_honest.mono _ _ _ _ _ _
   | exact formeref38_Few.mono _ _ _ _
   | exact formeref38_Valid.mono _ _ _ _
   | exact LeO.none _
   | refine LeO.ite ?_ ?_
   | refine LeO.bind ?_ (fun _ => ?_)
  ·intro y0 y1 y2 y3 y4 y5 y6 y7 y8 y9 y10 y11
   unfold formelaw38_ContractHonest.l0
   repeat' first
   | (with_reducible exact ih0 _ _ _ _ _ _ _)
   | (with_reducible exact ih1 _ _ _ _ _ _ _ _ _ _ _ _)
   | (with_reducible exact formelaw38_honest.mono _ _ _ _ _ _)
   | (with_reducible exact formeref38_Few.mono _ _ _ _)
   | (with_reducible exact formeref38_Valid.mono _ _ _ _)
   | (with_reducible exact LeO.refl _)
   | (with_reducible exact LeO.none _)
   | (with_reducible refine LeO.ite ?_ ?_)
   | (with_reducible refine LeO.bind ?_ (fun _ => ?_))
   | exact ih0 _ _ _ _ _ _ _
   | exact ih1 _ _ _ _ _ _ _ _ _ _ _ _
   | exact formelaw38_honest.mono _ _ _ _ _ _
   | exact formeref38_Few.mono _ _ _ _
   | exact formeref38_Valid.mono _ _ _ _
   | exact LeO.none _
   | refine LeO.ite ?_ ?_
   | refine LeO.bind ?_ (fun _ => ?_)
theorem formelaw38_ContractHonest.mono : ∀ a0 a1 a2 a3 a4 k, LeO (formelaw38_ContractHonest.f k a0 a1 a2 a3 a4) (formelaw38_ContractHonest.f (k + 1) a0 a1 a2 a3 a4) := by
 intro a0 a1 a2 a3 a4 k
 obtain ⟨ih0, ih1⟩ := formelaw38_ContractHonest.mono_l k
 unfold formelaw38_ContractHonest.f
 repeat' first
   | (with_reducible exact ih0 _ _ _ _ _ _ _)
   | (with_reducible exact ih1 _ _ _ _ _ _ _ _ _ _ _ _)
   | (with_reducible exact formelaw38_honest.mono _ _ _ _ _ _)
   | (with_reducible exact formeref38_Few.mono _ _ _ _)
   | (with_reducible exact formeref38_Valid.mono _ _ _ _)
   | (with_reducible exact LeO.refl _)
   | (with_reducible exact LeO.none _)
   | (with_reducible refine LeO.ite ?_ ?_)
   | (with_reducible refine LeO.bind ?_ (fun _ => ?_))
   | exact ih0 _ _ _ _ _ _ _
   | exact ih1 _ _ _ _ _ _ _ _ _ _ _ _
   | exact formelaw38_honest.mono _ _ _ _ _ _
   | exact formeref38_Few.mono _ _ _ _
   | exact formeref38_Valid.mono _ _ _ _
   | exact LeO.none _
   | refine LeO.ite ?_ ?_
   | refine LeO.bind ?_ (fun _ => ?_)
def formelaw38_ContractHonest.T11 : Bool × List (List Nat × List Nat) := (true, [([], []), ([], []), ([1], [1]), ([2], [2]), ([], []), ([], []), ([4, 5], [4, 5]), ([6], [6]), ([0, 3, 7], [0, 3, 7]), ([8], [8]), ([9], [9]), ([9], [9]), ([9], [9]), ([9], [9]), ([], []), ([14, 10, 8, 0, 1, 2, 3, 4, 5, 6, 7, 8, 9, 10, 14], [10, 14]), ([11, 15, 0, 1, 2, 3, 4, 5, 6, 7, 8, 9, 10, 11, 14, 15], [11]), ([12, 16, 0, 1, 2, 3, 4, 5, 6, 7, 8, 9, 10, 11, 12, 14, 15, 16], [12]), ([13, 17, 0, 1, 2, 3, 4, 5, 6, 7, 8, 9, 10, 11, 12, 13, 14, 15, 16, 17], [13])])
def formelaw38_ContractHonest.B11 : List Nat := [0, 0, 2, 6, 0, 0, 48, 112, 255, 511, 1023, 1023, 1023, 1023, 0, 18431, 53247, 122879, 262143]
theorem formelaw38_ContractHonest.tab11 : rtab .any (opsOf Try.f18 11) = formelaw38_ContractHonest.T11 := by kernel_rfl
theorem formelaw38_ContractHonest.bits11 : waitsOk formelaw38_ContractHonest.T11.2 formelaw38_ContractHonest.B11 = true := by kernel_rfl
set_option maxHeartbeats 8000000 in
set_option maxRecDepth 100000 in
theorem formelaw38_ContractHonest.calls (k : Nat) (a0_0 : Int) (a0_1 : Int) (A0_2 : Option Addr) (c0_2 : Nat) (l0_2 : List (S61)) (A1 : Option Addr) (c1 : Nat) (l1 : List Int) (a2 : Int) (r : Bool) (w : World) (hr0_2 : Kd.C k61 w A0_2 l0_2.length l0_2) (hc0_2 : l0_2.length ≤ c0_2) (hr1 : Kd.C (Kd.int .u16) w A1 l1.length l1) (hc1 : l1.length ≤ c1) (h : formelaw38_ContractHonest.f k a0_0 a0_1 l0_2 l1 a2 = some r) (hTr : r = true := by first | rfl | exact Aside0.out (by assumption)) :
  Calls Try.prog 18 #[.agg #[.int .i64 a0_0, .int .i64 a0_1, .slice A0_2 l0_2.length c0_2], .slice A1 l1.length c1, .int .u32 a2] w fun e w' => e = .returned (.bool r) ∧ Below w.heap.size w w' := by
 have HTr := Aside0.mk hTr
 clear hTr
 have hu69 := Try.underlying69
 have hu71 := Try.underlying71
 have hu78 := Try.underlying78
 have HR0_2 := Aside0.mk hr0_2
 have HC0_2 := Aside0.mk hc0_2
 clear hr0_2 hc0_2
 have HR1 := Aside0.mk hr1
 have HC1 := Aside0.mk hc1
 clear hr1 hc1
 have HB := Aside0.mk (Below.refl w.heap.size w)
 have H := h
 unfold formelaw38_ContractHonest.f at H
 clear h
 replace H := Option.bind_eq_some_iff.mp H
 obtain ⟨t540, A40, H⟩ := H
 try dsimp only at H
 have A4 := Aside0.mk A40
 clear A40
 have HC5 := Aside0.mk H
 clear H
 go_enter Try.func18, Try.ntmps18
 go_upto_region 2 with (first | ((with_reducible refine gate_dst (N := 3) rfl ?_); (try (refine gate_guard (by rfl) ?_; dsimp only)); refine box_event ?hg (N := 3) ?hd (cs := #[.int .i64 a0_0, .int .i64 a0_1, .slice A0_2 l0_2.length c0_2]) (t := 69) ?hr ?_; (case hd => rfl); (case hg => rfl); (case hr => first | (go_simp; done) | (go_simp; rfl)); intro gb539 hg w6 hbox hb; have BK539 := Aside0.mk (hbox); have GW539 := gwa w hg; have GE539 := gwa w hg; replace HB := hba hb; clear hb hbox hg) | ((with_reducible refine gate_callee (f := 57) rfl ?_); refine goesL_ (some 18) rfl rfl Try.func57 (by kernel_rfl) rfl #[] rfl gla ?_; (with_reducible refine (formelaw38_head.calls  t540 _ A4.out).mono ?_); rintro e w7 ⟨rfl, hb⟩; refine ⟨_, rfl, ?_⟩; replace BK539 := bka BK539 hb; replace HB := hba hb; (try clear hb); (try clear hb2); (try clear hk); (try clear hi)))
 (try simp only [Act.put, List.setIfInBounds_toArray, List.set_cons_zero, List.set_cons_succ])
 go_cut [31] (fun v31 wc => ∃ (kq : Nat) (x31_4 : Bool), v31 = .bool x31_4 ∧ Aside0 (formelaw38_ContractHonest.j0 kq l1 a2 t540 x31_4 a0_0 a0_1 l0_2 = some r) ∧ Aside0 (kq ≤ k) ∧ Aside0 (wc.heap[gb539]? = some (.cells #[.int .i64 a0_0, .int .i64 a0_1, (.slice A0_2 l0_2.length c0_2)] 69 (0, 0))) ∧ Aside0 (Below w.heap.size w wc))
 case first =>
  have H := HC5.out
  clear HC5
  replace H := Option.bind_eq_some_iff.mp H
  obtain ⟨t541, A80, H⟩ := H
  try dsimp only at H
  have A8 := Aside0.mk A80
  clear A80
  by_cases c9 : t541 = true
  ·subst c9
   rw [if_pos rfl] at H
   replace H := Option.bind_eq_some_iff.mp H
   obtain ⟨t542, A100, H⟩ := H
   try dsimp only at H
   have A10 := Aside0.mk A100
   clear A100
   by_cases c11 : t542 = true
   ·subst c11
    rw [if_pos rfl] at H
    have H' := Aside0.mk H
    clear H
    obtain ⟨hcz12_0, hcz12_1, hcz12_2, hfz12_0, hfz12_1, hfz12_2⟩ := cz3 BK539
    go_wp2_with (first | ((with_reducible refine gate_callee (f := 58) rfl ?_); refine goesL_ (some 20) rfl rfl Try.func58 (by kernel_rfl) rfl #[.agg #[.int .i64 a0_0, .int .i64 a0_1, .slice A0_2 l0_2.length c0_2]] rfl gla ?_; (with_reducible refine (formeref38_Few.calls k a0_0 a0_1 _ _ l0_2 true _ ?side1 ?side2 A8.out).mono ?_); (case side1 => repeat (first | exact (Kd.C_below HR0_2.out HB.out) | (with_reducible refine Kd.C_alloc ?_ _) | (with_reducible refine Kd.C_drewN ?_ _) | (with_reducible refine Kd.C_drew ?_))); (case side2 => exact HC0_2.out); rintro e w13 ⟨rfl, hb⟩; refine ⟨_, rfl, ?_⟩; replace BK539 := bka BK539 hb; replace HB := hba hb; (try clear hb); (try clear hb2); (try clear hk); (try clear hi); obtain ⟨hcz14_0, hcz14_1, hcz14_2, hfz14_0, hfz14_1, hfz14_2⟩ := cz3 BK539) | (go_at_call 62; (with_reducible refine (formeref38_Valid.calls k a0_0 a0_1 _ _ l0_2 true _ ?side1 ?side2 A10.out).mono ?_); (case side1 => repeat (first | exact (Kd.C_below HR0_2.out HB.out) | (with_reducible refine Kd.C_alloc ?_ _) | (with_reducible refine Kd.C_drewN ?_ _) | (with_reducible refine Kd.C_drew ?_))); (case side2 => exact HC0_2.out); rintro e w15 ⟨rfl, hb⟩; replace BK539 := bka BK539 hb; replace HB := hba hb; (try clear hb); (try clear hb2); (try clear hk); (try clear hi)))
    go_meet
    case rel => exact ⟨_, (decide ((l1.length : Int) > 40)), (by first | rfl | (simp; done) | (simp [*]; done)), H', ⟨by first | omega | exact Nat.le_refl _⟩, ⟨by (with_reducible repeat (first | refine blk_drewN ?_ _ | refine blk_drew ?_ | refine blk_alloc ?_ _)); exact BK539.out⟩, ⟨bel⟩⟩
   ·replace c11 := Bool.eq_false_iff.mpr c11
    subst c11
    rw [if_neg (show ¬ (false = true) by decide)] at H
    have H' := Aside0.mk H
    clear H
    obtain ⟨hcz16_0, hcz16_1, hcz16_2, hfz16_0, hfz16_1, hfz16_2⟩ := cz3 BK539
    go_wp2_with (first | ((with_reducible refine gate_callee (f := 58) rfl ?_); refine goesL_ (some 20) rfl rfl Try.func58 (by kernel_rfl) rfl #[.agg #[.int .i64 a0_0, .int .i64 a0_1, .slice A0_2 l0_2.length c0_2]] rfl gla ?_; (with_reducible refine (formeref38_Few.calls k a0_0 a0_1 _ _ l0_2 true _ ?side1 ?side2 A8.out).mono ?_); (case side1 => repeat (first | exact (Kd.C_below HR0_2.out HB.out) | (with_reducible refine Kd.C_alloc ?_ _) | (with_reducible refine Kd.C_drewN ?_ _) | (with_reducible refine Kd.C_drew ?_))); (case side2 => exact HC0_2.out); rintro e w17 ⟨rfl, hb⟩; refine ⟨_, rfl, ?_⟩; replace BK539 := bka BK539 hb; replace HB := hba hb; (try clear hb); (try clear hb2); (try clear hk); (try clear hi); obtain ⟨hcz18_0, hcz18_1, hcz18_2, hfz18_0, hfz18_1, hfz18_2⟩ := cz3 BK539) | (go_at_call 62; (with_reducible refine (formeref38_Valid.calls k a0_0 a0_1 _ _ l0_2 false _ ?side1 ?side2 A10.out).mono ?_); (case side1 => repeat (first | exact (Kd.C_below HR0_2.out HB.out) | (with_reducible refine Kd.C_alloc ?_ _) | (with_reducible refine Kd.C_drewN ?_ _) | (with_reducible refine Kd.C_drew ?_))); (case side2 => exact HC0_2.out); rintro e w19 ⟨rfl, hb⟩; replace BK539 := bka BK539 hb; replace HB := hba hb; (try clear hb); (try clear hb2); (try clear hk); (try clear hi)))
    go_meet
    case rel => exact ⟨_, (true), (by first | rfl | (simp; done) | (simp [*]; done)), H', ⟨by first | omega | exact Nat.le_refl _⟩, ⟨by (with_reducible repeat (first | refine blk_drewN ?_ _ | refine blk_drew ?_ | refine blk_alloc ?_ _)); exact BK539.out⟩, ⟨bel⟩⟩
  ·replace c9 := Bool.eq_false_iff.mpr c9
   subst c9
   rw [if_neg (show ¬ (false = true) by decide)] at H
   have H' := Aside0.mk H
   clear H
   obtain ⟨hcz20_0, hcz20_1, hcz20_2, hfz20_0, hfz20_1, hfz20_2⟩ := cz3 BK539
   go_wp2_with (first | ((with_reducible refine gate_callee (f := 58) rfl ?_); refine goesL_ (some 20) rfl rfl Try.func58 (by kernel_rfl) rfl #[.agg #[.int .i64 a0_0, .int .i64 a0_1, .slice A0_2 l0_2.length c0_2]] rfl gla ?_; (with_reducible refine (formeref38_Few.calls k a0_0 a0_1 _ _ l0_2 false _ ?side1 ?side2 A8.out).mono ?_); (case side1 => repeat (first | exact (Kd.C_below HR0_2.out HB.out) | (with_reducible refine Kd.C_alloc ?_ _) | (with_reducible refine Kd.C_drewN ?_ _) | (with_reducible refine Kd.C_drew ?_))); (case side2 => exact HC0_2.out); rintro e w21 ⟨rfl, hb⟩; refine ⟨_, rfl, ?_⟩; replace BK539 := bka BK539 hb; replace HB := hba hb; (try clear hb); (try clear hb2); (try clear hk); (try clear hi)))
   go_meet
   case rel => exact ⟨_, (true), (by first | rfl | (simp; done) | (simp [*]; done)), H', ⟨by first | omega | exact Nat.le_refl _⟩, ⟨by (with_reducible repeat (first | refine blk_drewN ?_ _ | refine blk_drew ?_ | refine blk_alloc ?_ _)); exact BK539.out⟩, ⟨bel⟩⟩
 case rest =>
  clear HC5
  try clear c1
  try clear p2
  try clear c5
  try clear c9
  try clear c11
  try clear c18
  obtain ⟨kq, x31_4, rfl, HA, HJ4, BK539, HB⟩ := hcut
  cases kq with
  | zero => exact absurd HA.out (by simp [formelaw38_ContractHonest.j0])
  | succ kj4 =>
   have H := HA.out
   clear HA
   simp only [formelaw38_ContractHonest.j0] at H
   by_cases c22 : x31_4 = true
   ·subst c22
    rw [if_pos rfl] at H
    obtain rfl := Option.some.inj H
    go_wp2
    go_ret
    exact ⟨by first | rfl | (simp [errW_none, errW_some] <;> rfl) | (simp [*, errW_none, errW_some] <;> rfl), bel⟩
   ·replace c22 := Bool.eq_false_iff.mpr c22
    subst c22
    rw [if_neg (show ¬ (false = true) by decide)] at H
    replace H := Option.bind_eq_some_iff.mp H
    obtain ⟨⟨t543, t546⟩, A230, H⟩ := H
    try dsimp only at H
    have A23 := Aside0.mk A230
    clear A230
    by_cases c24 : t546 = true
    ·subst c24
     rw [if_pos rfl] at H
     replace H := Option.bind_eq_some_iff.mp H
     obtain ⟨⟨t547, t548, t549, t550, t551, t552, t555⟩, A250, H⟩ := H
     try dsimp only at H
     have A25 := Aside0.mk A250
     clear A250
     have H' := Aside0.mk H
     clear H
     obtain ⟨hcz26_0, hcz26_1, hcz26_2, hfz26_0, hfz26_1, hfz26_2⟩ := cz3 BK539
     go_wp2_with (first | ((with_reducible refine gate_callee (f := 67) rfl ?_); refine goesL_ (some 37) rfl rfl Try.func67 (by kernel_rfl) rfl #[.agg #[.int .i64 a0_0, .int .i64 a0_1, .slice A0_2 l0_2.length c0_2], .slice A1 l1.length c1, .int .u32 a2] rfl gla ?_; (with_reducible refine (formelaw38_honest.calls kj4 a0_0 a0_1 _ _ l0_2 _ _ l1 a2 t543 true _ ?side1 ?side2 ?side3 ?side4 A23.out).mono ?_); (case side1 => repeat (first | exact (Kd.C_below HR0_2.out HB.out) | (with_reducible refine Kd.C_alloc ?_ _) | (with_reducible refine Kd.C_drewN ?_ _) | (with_reducible refine Kd.C_drew ?_))); (case side2 => exact HC0_2.out); (case side3 => repeat (first | exact (Kd.C_below HR1.out HB.out) | (with_reducible refine Kd.C_alloc ?_ _) | (with_reducible refine Kd.C_drewN ?_ _) | (with_reducible refine Kd.C_drew ?_))); (case side4 => exact HC1.out); rintro e w27 ⟨v544, rfl, ho0, hb⟩; refine ⟨_, rfl, ?_⟩; have HO545 := Aside0.mk (Kd.R_lower ho0 (below_size bel)); replace BK539 := bka BK539 hb; replace HB := hba hb; (try clear hb); (try clear hb2); (try clear hk); (try clear hi); (try clear ho0); obtain ⟨hcz28_0, hcz28_1, hcz28_2, hfz28_0, hfz28_1, hfz28_2⟩ := cz3 BK539; obtain ⟨Ao29, co29, eo29⟩ := Kd.R_slice HO545.out; subst eo29) | ((with_reducible refine gate_callee (f := 65) rfl ?_); refine goesL_ (some 45) rfl rfl Try.func65 (by kernel_rfl) rfl #[.agg #[.int .i64 a0_0, .int .i64 a0_1, .slice A0_2 l0_2.length c0_2], .slice Ao29 t543.length co29] rfl gla ?_; (with_reducible refine (contract_Course.calls a0_0 a0_1 _ _ l0_2 _ _ t543 t547 t548 t549 t550 t551 t552 t555 _ ?side1 ?side2 ?side3 ?side4 A25.out).mono ?_); (case side1 => repeat (first | exact (Kd.C_below HR0_2.out HB.out) | (with_reducible refine Kd.C_alloc ?_ _) | (with_reducible refine Kd.C_drewN ?_ _) | (with_reducible refine Kd.C_drew ?_))); (case side2 => exact HC0_2.out); (case side3 => repeat (first | exact (Kd.R_reads' HO545.out).2.2 | (with_reducible refine Kd.C_alloc ?_ _) | (with_reducible refine Kd.C_drewN ?_ _) | (with_reducible refine Kd.C_drew ?_))); (case side4 => exact (Kd.R_reads' HO545.out).2.1); rintro e w30 ⟨v553, rfl, ho0, hb⟩; refine ⟨_, rfl, ?_⟩; have HO554 := Aside0.mk (Kd.R_lower ho0 (below_size bel)); replace HO545 := hoa HO545 hb; replace BK539 := bka BK539 hb; replace HB := hba hb; (try clear hb); (try clear hb2); (try clear hk); (try clear hi); (try clear ho0)) | ((with_reducible refine gate_dst (N := 10) rfl ?_); (try (refine gate_guard (by rfl) ?_; dsimp only)); refine box_event ?hg (N := 10) ?hd (cs := #[.int .i64 0, .int .i64 0, .int .i64 0, .int .i64 0, .bool false]) (t := 71) ?hr ?_; (case hd => rfl); (case hg => rfl); (case hr => first | (go_simp; done) | (go_simp; rfl)); intro gb556 hg w31 hbox hb; have BK556 := Aside0.mk (hbox); have GW556 := gwa w hg; have GE556 := gwa w hg; have NB539_556 := nal BK539 hg; have NB556_539 := nag BK539 hg; replace HO545 := hoa HO545 hb; replace HO554 := hoa HO554 hb; replace BK539 := bka BK539 hb; replace HB := hba hb; clear hb hbox hg; have hnb32 := NB556_539.out; have hnc32 := NB539_556.out; obtain ⟨hcz33_0, hcz33_1, hcz33_2, hcz33_3, hcz33_4, hfz33_0, hfz33_1, hfz33_2, hfz33_3, hfz33_4⟩ := cz5 BK556))
     go_loopg [7, 13] kj4 (fun kq v7 v13 w' => ∃ (x7_2 : Bool) (x13_2 : Int), v7 = .bool x7_2 ∧ v13 = .int .i64 x13_2 ∧ Aside0 (formelaw38_ContractHonest.l0 kq x7_2 t543 t555 x13_2 a0_0 a0_1 l0_2 t547 t548 t549 t550 t551 = some r) ∧ Aside0 (kq ≤ kj4) ∧ Aside0 (Kd.R k78 78 w' w.heap.size (fun _ => True) (.slice Ao29 t543.length co29) t543) ∧ Aside0 (w'.heap[gb539]? = some (.cells #[.int .i64 a0_0, .int .i64 a0_1, (.slice A0_2 l0_2.length c0_2)] 69 (0, 0))) ∧ Aside0 (w'.heap[gb556]? = some (.cells #[.int .i64 t547, .int .i64 t548, .int .i64 t549, .int .i64 t550, .bool t551] 71 (0, 0))) ∧ Aside0 (Below w.heap.size w w'))
     case atStart => exact ⟨(t540), (0), (by first | rfl | (simp; done) | (simp [*]; done)), (by first | rfl | (simp; done) | (simp [*]; done)), H', ⟨Nat.le_refl _⟩, ⟨by (with_reducible repeat (first | apply Kd.R_alloc | apply Kd.R_drewN | apply Kd.R_drew)); exact Kd.R_mono (Kd.R_far (p := ⟨gb556, 4, none⟩) (Kd.R_far (p := ⟨gb556, 3, none⟩) (Kd.R_far (p := ⟨gb556, 2, none⟩) (Kd.R_far (p := ⟨gb556, 1, none⟩) (Kd.R_far (p := ⟨gb556, 0, none⟩) (Kd.R_types HO545.out BK556.out (by decide)) (fun _ hk => hk.2) (.int .i64 t547)) (fun _ hk => hk.2) (.int .i64 t548)) (fun _ hk => hk.2) (.int .i64 t549)) (fun _ hk => hk.2) (.int .i64 t550)) (fun _ hk => hk.2) (.bool t551)) (fun _ hk => trivial)⟩, ⟨bkf BK539⟩, ⟨by (with_reducible repeat (first | refine blk_drewN ?_ _ | refine blk_drew ?_ | refine blk_alloc ?_ _)); refine blk_put (cs := #[.int .i64 t547, .int .i64 t548, .int .i64 t549, .int .i64 t550, .bool false]) ?_ 4 _ rfl; (with_reducible repeat (first | refine blk_drewN ?_ _ | refine blk_drew ?_ | refine blk_alloc ?_ _)); refine blk_put (cs := #[.int .i64 t547, .int .i64 t548, .int .i64 t549, .int .i64 0, .bool false]) ?_ 3 _ rfl; (with_reducible repeat (first | refine blk_drewN ?_ _ | refine blk_drew ?_ | refine blk_alloc ?_ _)); refine blk_put (cs := #[.int .i64 t547, .int .i64 t548, .int .i64 0, .int .i64 0, .bool false]) ?_ 2 _ rfl; (with_reducible repeat (first | refine blk_drewN ?_ _ | refine blk_drew ?_ | refine blk_alloc ?_ _)); refine blk_put (cs := #[.int .i64 t547, .int .i64 0, .int .i64 0, .int .i64 0, .bool false]) ?_ 1 _ rfl; (with_reducible repeat (first | refine blk_drewN ?_ _ | refine blk_drew ?_ | refine blk_alloc ?_ _)); refine blk_put (cs := #[.int .i64 0, .int .i64 0, .int .i64 0, .int .i64 0, .bool false]) ?_ 0 _ rfl; (with_reducible repeat (first | refine blk_drewN ?_ _ | refine blk_drew ?_ | refine blk_alloc ?_ _)); exact BK556.out⟩, ⟨bel⟩⟩
     case round =>
      clear H'
      try clear c1
      try clear c2
      try clear p2
      try clear c3
      try clear c5
      try clear c6
      try clear c9
      try clear c11
      try clear c18
      try clear c22
      try clear c24
      try clear c32
      try clear p2
      obtain ⟨x7_2, x13_2, rfl, rfl, HA, HK2, HO_8, BK539, BK556, HB⟩ := hrel
      cases gk with
      | zero => exact absurd HA.out (by simp [formelaw38_ContractHonest.l0])
      | succ k2 =>
       have H := HA.out
       clear HA
       simp only [formelaw38_ContractHonest.l0] at H
       by_cases c34 : x13_2 < (t543.length : Int)
       ·rw [if_pos c34] at H
        have c34b0 : decide (x13_2 < (t543.length : Int)) = true := decide_eq_true c34
        clear c34
        by_cases c35 : 0 ≤ x13_2
        ·rw [if_pos c35] at H
         have c35b0 : decide (0 ≤ x13_2) = true := decide_eq_true c35
         clear c35
         replace H := Option.bind_eq_some_iff.mp H
         obtain ⟨⟨t558, t559, t560, t561, t562, t563, t564, t565⟩, A360, H⟩ := H
         try dsimp only at H
         have A36 := Aside0.mk A360
         clear A360
         by_cases c37 : x7_2 = true
         ·subst c37
          rw [if_pos rfl] at H
          by_cases c38 : t565 = 0
          ·rw [if_pos c38] at H
           have c38b0 : (t565 == 0) = true := beq_iff_eq.mpr c38
           have c38b1 : (t565 != 0) = false := bne_eq_false_iff_eq.mpr c38
           clear c38
           have H' := Aside0.mk H
           clear H
           try go_wp2
           replace HO_8 := Aside0.mk (Kd.R_drew HO_8.out)
           replace BK539 := Aside0.mk (blk_drew BK539.out)
           replace BK556 := Aside0.mk (blk_drew BK556.out)
           replace HB := Aside0.mk (below_drew1 HB.out)
           have p557 : 0 ≤ (x13_2 : Int) := of_decide_eq_true (by first | (with_reducible assumption) | assumption)
           have q557 : x13_2 < (t543.length : Int) := of_decide_eq_true (by first | (with_reducible assumption) | assumption)
           obtain ⟨ad557, e557, hx557_0, hx557_1, hx557_2, hx557_3⟩ := at_T78 (Kd.R_reads' HO_8.out).2.2 x13_2 p557 q557
           cases e557
           replace p557 := eq_true p557
           replace q557 := eq_true q557
           refine start_ (n := 19) (S := fun w' => w'.cell? ⟨gb539, 0, none⟩ = some (.int .i64 a0_0) ∧ w'.cell? ⟨gb539, 1, none⟩ = some (.int .i64 a0_1) ∧ w'.cell? ⟨gb539, 2, none⟩ = some (.slice A0_2 l0_2.length c0_2) ∧ w'.cell? (ad557.add ((x13_2).toNat * 4)) = some (.int .i64 ((rd_T78 t543 x13_2).f0)) ∧ w'.cell? ⟨(ad557.add ((x13_2).toNat * 4)).block, (ad557.add ((x13_2).toNat * 4)).off + 1, none⟩ = some (.int .i64 ((rd_T78 t543 x13_2).f1)) ∧ w'.cell? ⟨(ad557.add ((x13_2).toNat * 4)).block, (ad557.add ((x13_2).toNat * 4)).off + 2, none⟩ = some (.int .i64 ((rd_T78 t543 x13_2).f2)) ∧ w'.cell? ⟨(ad557.add ((x13_2).toNat * 4)).block, (ad557.add ((x13_2).toNat * 4)).off + 3, none⟩ = some (.int .i64 ((rd_T78 t543 x13_2).f3))) (ds := []) #[false, false, false, false, false, false, false, false, false, false, false, false, false, false, false, false, false, false, false] (by kernel_rfl) rfl rfl ⟨(blk_cell BK539.out 0).trans rfl, (blk_cell BK539.out 1).trans rfl, (blk_cell BK539.out 2).trans rfl, hx557_0, hx557_1, hx557_2, hx557_3⟩ (fun hHeld => ?_); refine with_tabW formelaw38_ContractHonest.tab11 formelaw38_ContractHonest.bits11 (fun HT_ HW_ => ?_)
           generalize wr.drew = w39 at HO_8 BK539 BK556 HB hx557_0 hx557_1 hx557_2 hx557_3 hHeld ⊢
           refine pure_ (i := 1) (N := some 57) (v := ?_) (a' := ?_) #[false, true, false, false, false, false, false, false, false, false, false, false, false, false, false, false, false, false, false] rfl rfl (any_of HT_.out (by kernel_rfl)) (fun _ _ _ h => h) (Or.inl ⟨by rfl, ?_⟩) ?_ ?_
           rotate_left
           ·intro w'
            go_simp
            with_reducible rfl
           rotate_left
           ·exact apt
           refine pure_ (i := 4) (N := some 60) (v := ?_) (a' := ?_) #[false, true, false, false, true, false, false, false, false, false, false, false, false, false, false, false, false, false, false] rfl rfl (any_of HT_.out (by kernel_rfl)) (fun _ _ _ h => h) (Or.inl ⟨by rfl, ?_⟩) ?_ ?_
           rotate_left
           ·intro w'
            go_simp
            with_reducible rfl
           rotate_left
           ·exact apt
           refine pure_ (i := 5) (N := some 61) (v := ?_) (a' := ?_) #[false, true, false, false, true, true, false, false, false, false, false, false, false, false, false, false, false, false, false] rfl rfl (any_of HT_.out (by kernel_rfl)) (fun _ _ _ h => h) (Or.inl ⟨by rfl, ?_⟩) ?_ ?_
           rotate_left
           ·intro w'
            go_simp
            with_reducible rfl
           rotate_left
           ·exact apt
           refine pure_ (i := 6) (N := some 62) (v := ?_) (a' := ?_) #[false, true, false, false, true, true, true, false, false, false, false, false, false, false, false, false, false, false, false] rfl rfl (any_of HT_.out (by kernel_rfl)) (fun _ _ _ h => h) (Or.inl ⟨by rfl, ?_⟩) ?_ ?_
           rotate_left
           ·intro w'
            go_simp
            with_reducible rfl
           rotate_left
           ·exact apt
           refine take_ (i := 0) (N := some 56) (v := ?_) (a' := ?_) #[true, true, false, false, true, true, true, false, false, false, false, false, false, false, false, false, false, false, false] rfl rfl (take_ofW HT_.out HW_.out (by kernel_rfl)) (fun _ _ _ h => h) (Or.inl ⟨by rfl, ?_⟩) hHeld ?_ ?_
           rotate_left
           ·rintro w' ⟨s0, s1, s2, s3, s4, s5, s6⟩
            go_simp
            with_reducible rfl
           rotate_left
           ·exact apt
           refine take_ (i := 2) (N := some 58) (v := ?_) (a' := ?_) #[true, true, true, false, true, true, true, false, false, false, false, false, false, false, false, false, false, false, false] rfl rfl (take_ofW HT_.out HW_.out (by kernel_rfl)) (fun _ _ _ h => h) (Or.inl ⟨by rfl, ?_⟩) hHeld ?_ ?_
           rotate_left
           ·rintro w' ⟨s0, s1, s2, s3, s4, s5, s6⟩
            go_simp
            with_reducible rfl
           rotate_left
           ·exact apt
           refine pure_ (i := 3) (N := some 59) (v := ?_) (a' := ?_) #[true, true, true, true, true, true, true, false, false, false, false, false, false, false, false, false, false, false, false] rfl rfl (any_of HT_.out (by kernel_rfl)) (fun _ _ _ h => h) (Or.inl ⟨by rfl, ?_⟩) ?_ ?_
           rotate_left
           ·intro w'
            go_simp
            with_reducible rfl
           rotate_left
           ·exact apt
           refine take_ (i := 7) (N := some 63) (v := ?_) (a' := ?_) #[true, true, true, true, true, true, true, true, false, false, false, false, false, false, false, false, false, false, false] rfl rfl (take_ofW HT_.out HW_.out (by kernel_rfl)) (fun _ _ _ h => h) (Or.inl ⟨by rfl, ?_⟩) hHeld ?_ ?_
           rotate_left
           ·rintro w' ⟨s0, s1, s2, s3, s4, s5, s6⟩
            go_simp
            with_reducible rfl
           rotate_left
           ·exact apt
           refine join_ (σ := Nat) 4 #[true, true, true, true, true, true, true, true, true, true, true, true, true, true, true, false, false, false, false] (fun s_ => [(64, .tuple #[.agg #[.int .i64 t558, .int .i64 t559, .int .i64 t560, .int .i64 t561, .bool t562], .int .i64 t563, .bool t564, .int .i64 t565]), (14, .pointer (some ⟨s_, 0, none⟩)), (55, .tuple #[.agg #[.int .i64 t558, .int .i64 t559, .int .i64 t560, .int .i64 t561, .bool t562], .int .i64 t563, .bool t564, .int .i64 t565]), (65, .agg #[.int .i64 t558, .int .i64 t559, .int .i64 t560, .int .i64 t561, .bool t562]), (66, .int .i64 t563), (67, .bool t564), (68, .int .i64 t565)]) (fun s_ w' => (w'.cell? ⟨gb539, 0, none⟩ = some (.int .i64 a0_0) ∧ w'.cell? ⟨gb539, 1, none⟩ = some (.int .i64 a0_1) ∧ w'.cell? ⟨gb539, 2, none⟩ = some (.slice A0_2 l0_2.length c0_2) ∧ w'.cell? (ad557.add ((x13_2).toNat * 4)) = some (.int .i64 ((rd_T78 t543 x13_2).f0)) ∧ w'.cell? ⟨(ad557.add ((x13_2).toNat * 4)).block, (ad557.add ((x13_2).toNat * 4)).off + 1, none⟩ = some (.int .i64 ((rd_T78 t543 x13_2).f1)) ∧ w'.cell? ⟨(ad557.add ((x13_2).toNat * 4)).block, (ad557.add ((x13_2).toNat * 4)).off + 2, none⟩ = some (.int .i64 ((rd_T78 t543 x13_2).f2)) ∧ w'.cell? ⟨(ad557.add ((x13_2).toNat * 4)).block, (ad557.add ((x13_2).toNat * 4)).off + 3, none⟩ = some (.int .i64 ((rd_T78 t543 x13_2).f3))) ∧ (Kd.R k78 78 w' w.heap.size (fun _ => True) (.slice (some ad557) t543.length co29) t543) ∧ (w'.heap[gb539]? = some (.cells #[.int .i64 a0_0, .int .i64 a0_1, .slice A0_2 l0_2.length c0_2] 69 (0, 0))) ∧ (w'.heap[gb556]? = some (.cells #[.int .i64 t547, .int .i64 t548, .int .i64 t549, .int .i64 t550, .bool t551] 71 (0, 0))) ∧ (w'.heap[s_]? = some (.cells #[.int .i64 0, .int .i64 0, .int .i64 0, .int .i64 0, .bool false] 71 (0, 0))) ∧ (w.heap.size ≤ s_) ∧ (w.heap.size ≤ s_) ∧ (gb539 ≠ s_) ∧ (s_ ≠ gb539) ∧ (gb556 ≠ s_) ∧ (s_ ≠ gb556) ∧ (Below w.heap.size w w')) ?_ ?_
           rotate_left
           ·intro hCont
            refine two_ (i := 8) (j := 14) (Ni := some 64) (Nj := some 14) #[true, true, true, true, true, true, true, true, true, false, false, false, false, false, false, false, false, false, false] #[true, true, true, true, true, true, true, true, false, false, false, false, false, false, true, false, false, false, false] rfl rfl rfl rfl (two_of HT_.out (by kernel_rfl)) (by decide) (by decide) (fun K hK => ?_) (fun K hK => ?_)
            ·skip
             refine goes_ Try.func63 (by kernel_rfl) rfl #[.agg #[.int .i64 a0_0, .int .i64 a0_1, .slice A0_2 l0_2.length c0_2], .agg #[.int .i64 a0_0, .int .i64 0, .int .i64 0, .int .i64 0, .bool false], .agg #[.int .i64 ((rd_T78 t543 x13_2).f0), .int .i64 ((rd_T78 t543 x13_2).f1), .int .i64 ((rd_T78 t543 x13_2).f2), .int .i64 ((rd_T78 t543 x13_2).f3)]] (by rfl) rfl rfl gla ?_
             with_reducible refine (contract_Judge.calls a0_0 a0_1 _ _ l0_2 a0_0 0 0 0 false ((rd_T78 t543 x13_2).f0) ((rd_T78 t543 x13_2).f1) ((rd_T78 t543 x13_2).f2) ((rd_T78 t543 x13_2).f3) t558 t559 t560 t561 t562 t563 t564 t565 _ ?side1 ?side2 A36.out).mono ?_
             (case side1 => repeat (first | exact (Kd.C_below HR0_2.out HB.out) | (with_reducible refine Kd.C_alloc ?_ _) | (with_reducible refine Kd.C_drewN ?_ _) | (with_reducible refine Kd.C_drew ?_)))
             (case side2 => exact HC0_2.out)
             rintro e w40 ⟨rfl, hb⟩
             have HS3_ := (hb.cell (World.block_lt_of_cell? _ _ (hHeld.2.2.2.1))).trans (hHeld.2.2.2.1)
             have HS4_ := (hb.cell (World.block_lt_of_cell? _ _ (hHeld.2.2.2.2.1))).trans (hHeld.2.2.2.2.1)
             have HS5_ := (hb.cell (World.block_lt_of_cell? _ _ (hHeld.2.2.2.2.2.1))).trans (hHeld.2.2.2.2.2.1)
             have HS6_ := (hb.cell (World.block_lt_of_cell? _ _ (hHeld.2.2.2.2.2.2))).trans (hHeld.2.2.2.2.2.2)
             refine ⟨_, rfl, ?_⟩
             replace HO_8 := hoa HO_8 hb
             replace BK539 := bka BK539 hb
             replace BK556 := bka BK556 hb
             replace HB := hba hb
             (try clear hb)
             (try clear hb2)
             (try clear hk)
             (try clear hi)
             refine hK.out _ _ ⟨(blk_cell BK539.out 0).trans rfl, (blk_cell BK539.out 1).trans rfl, (blk_cell BK539.out 2).trans rfl, HS3_, HS4_, HS5_, HS6_⟩ (fun hHeld => ?_)
             clear hK K
             refine norm_ (a' := ?_) ?_ ?_
             rotate_left
             ·show Act.put _ (some 64) _ = _
              simp only [Act.put, List.setIfInBounds_toArray, List.set_cons_zero, List.set_cons_succ, i64_w, i32_w]
              rfl
             refine pure_ (i := 9) (N := some 55) (v := ?_) (a' := ?_) #[true, true, true, true, true, true, true, true, true, true, false, false, false, false, false, false, false, false, false] rfl rfl (any_of HT_.out (by kernel_rfl)) (fun _ _ _ h => h) (Or.inl ⟨by rfl, ?_⟩) ?_ ?_
             rotate_left
             ·intro w'
              go_simp
              with_reducible rfl
             rotate_left
             ·exact apt
             refine pure_ (i := 10) (N := some 65) (v := ?_) (a' := ?_) #[true, true, true, true, true, true, true, true, true, true, true, false, false, false, false, false, false, false, false] rfl rfl (any_of HT_.out (by kernel_rfl)) (fun _ _ _ h => h) (Or.inl ⟨by rfl, ?_⟩) ?_ ?_
             rotate_left
             ·intro w'
              go_simp
              with_reducible rfl
             rotate_left
             ·exact apt
             refine pure_ (i := 11) (N := some 66) (v := ?_) (a' := ?_) #[true, true, true, true, true, true, true, true, true, true, true, true, false, false, false, false, false, false, false] rfl rfl (any_of HT_.out (by kernel_rfl)) (fun _ _ _ h => h) (Or.inl ⟨by rfl, ?_⟩) ?_ ?_
             rotate_left
             ·intro w'
              go_simp
              with_reducible rfl
             rotate_left
             ·exact apt
             refine pure_ (i := 12) (N := some 67) (v := ?_) (a' := ?_) #[true, true, true, true, true, true, true, true, true, true, true, true, true, false, false, false, false, false, false] rfl rfl (any_of HT_.out (by kernel_rfl)) (fun _ _ _ h => h) (Or.inl ⟨by rfl, ?_⟩) ?_ ?_
             rotate_left
             ·intro w'
              go_simp
              with_reducible rfl
             rotate_left
             ·exact apt
             refine pure_ (i := 13) (N := some 68) (v := ?_) (a' := ?_) #[true, true, true, true, true, true, true, true, true, true, true, true, true, true, false, false, false, false, false] rfl rfl (any_of HT_.out (by kernel_rfl)) (fun _ _ _ h => h) (Or.inl ⟨by rfl, ?_⟩) ?_ ?_
             rotate_left
             ·intro w'
              go_simp
              with_reducible rfl
             rotate_left
             ·exact apt
             refine one_ (i := 14) (N := some 14) #[true, true, true, true, true, true, true, true, true, true, true, true, true, true, true, false, false, false, false] rfl rfl (one_of HT_.out (by kernel_rfl)) (by decide) (fun K hK => ?_)
             refine box_step ?hg (N := 14) ?hd (cs := #[.int .i64 0, .int .i64 0, .int .i64 0, .int .i64 0, .bool false]) (t := 71) ?hr ?_; (case hd => rfl); (case hg => rfl); (case hr => first | (go_simp; done) | (go_simp; rfl))
             intro gb566 hg w41 hbox hb
             have HS3_ := (hb.cell (World.block_lt_of_cell? _ _ (hHeld.2.2.2.1))).trans (hHeld.2.2.2.1)
             have HS4_ := (hb.cell (World.block_lt_of_cell? _ _ (hHeld.2.2.2.2.1))).trans (hHeld.2.2.2.2.1)
             have HS5_ := (hb.cell (World.block_lt_of_cell? _ _ (hHeld.2.2.2.2.2.1))).trans (hHeld.2.2.2.2.2.1)
             have HS6_ := (hb.cell (World.block_lt_of_cell? _ _ (hHeld.2.2.2.2.2.2))).trans (hHeld.2.2.2.2.2.2)
             have BK566 := Aside0.mk (hbox)
             have GW566 := gwa w hg
             have GE566 := gwa w hg
             have NB539_566 := nal BK539 hg
             have NB566_539 := nag BK539 hg
             have NB556_566 := nal BK556 hg
             have NB566_556 := nag BK556 hg
             replace HO_8 := hoa HO_8 hb
             replace BK539 := bka BK539 hb
             replace BK556 := bka BK556 hb
             replace HB := hba hb
             clear hb hbox hg
             refine hK.out _ _ ⟨(blk_cell BK539.out 0).trans rfl, (blk_cell BK539.out 1).trans rfl, (blk_cell BK539.out 2).trans rfl, HS3_, HS4_, HS5_, HS6_⟩ (fun hHeld => ?_)
             clear hK K
             refine norm_ (a' := ?_) ?_ ?_
             rotate_left
             ·show Act.put _ (some 14) _ = _
              simp only [Act.put, List.setIfInBounds_toArray, List.set_cons_zero, List.set_cons_succ, i64_w, i32_w]
              rfl
             exact norm_ (by simp only [putAll, Act.put, List.setIfInBounds_toArray, List.set_cons_zero, List.set_cons_succ]) (hCont (gb566) _ ⟨hHeld, (krl HO_8), (by (with_reducible repeat (first | refine blk_drewN ?_ _ | refine blk_drew ?_ | refine blk_alloc ?_ _)); exact BK539.out), (by (with_reducible repeat (first | refine blk_drewN ?_ _ | refine blk_drew ?_ | refine blk_alloc ?_ _)); exact BK556.out), (by (with_reducible repeat (first | refine blk_drewN ?_ _ | refine blk_drew ?_ | refine blk_alloc ?_ _)); exact BK566.out), GW566.out, GE566.out, NB539_566.out, NB566_539.out, NB556_566.out, NB566_556.out, bel⟩)
            ·skip
             refine box_step ?hg (N := 14) ?hd (cs := #[.int .i64 0, .int .i64 0, .int .i64 0, .int .i64 0, .bool false]) (t := 71) ?hr ?_; (case hd => rfl); (case hg => rfl); (case hr => first | (go_simp; done) | (go_simp; rfl))
             intro gb566 hg w40 hbox hb
             have HS3_ := (hb.cell (World.block_lt_of_cell? _ _ (hHeld.2.2.2.1))).trans (hHeld.2.2.2.1)
             have HS4_ := (hb.cell (World.block_lt_of_cell? _ _ (hHeld.2.2.2.2.1))).trans (hHeld.2.2.2.2.1)
             have HS5_ := (hb.cell (World.block_lt_of_cell? _ _ (hHeld.2.2.2.2.2.1))).trans (hHeld.2.2.2.2.2.1)
             have HS6_ := (hb.cell (World.block_lt_of_cell? _ _ (hHeld.2.2.2.2.2.2))).trans (hHeld.2.2.2.2.2.2)
             have BK566 := Aside0.mk (hbox)
             have GW566 := gwa w hg
             have GE566 := gwa w hg
             have NB539_566 := nal BK539 hg
             have NB566_539 := nag BK539 hg
             have NB556_566 := nal BK556 hg
             have NB566_556 := nag BK556 hg
             replace HO_8 := hoa HO_8 hb
             replace BK539 := bka BK539 hb
             replace BK556 := bka BK556 hb
             replace HB := hba hb
             clear hb hbox hg
             refine hK.out _ _ ⟨(blk_cell BK539.out 0).trans rfl, (blk_cell BK539.out 1).trans rfl, (blk_cell BK539.out 2).trans rfl, HS3_, HS4_, HS5_, HS6_⟩ (fun hHeld => ?_)
             clear hK K
             refine norm_ (a' := ?_) ?_ ?_
             rotate_left
             ·show Act.put _ (some 14) _ = _
              simp only [Act.put, List.setIfInBounds_toArray, List.set_cons_zero, List.set_cons_succ, i64_w, i32_w]
              rfl
             refine one_ (i := 8) (N := some 64) #[true, true, true, true, true, true, true, true, true, false, false, false, false, false, true, false, false, false, false] rfl rfl (one_of HT_.out (by kernel_rfl)) (by decide) (fun K hK => ?_)
             refine goes_ Try.func63 (by kernel_rfl) rfl #[.agg #[.int .i64 a0_0, .int .i64 a0_1, .slice A0_2 l0_2.length c0_2], .agg #[.int .i64 a0_0, .int .i64 0, .int .i64 0, .int .i64 0, .bool false], .agg #[.int .i64 ((rd_T78 t543 x13_2).f0), .int .i64 ((rd_T78 t543 x13_2).f1), .int .i64 ((rd_T78 t543 x13_2).f2), .int .i64 ((rd_T78 t543 x13_2).f3)]] (by rfl) rfl rfl gla ?_
             with_reducible refine (contract_Judge.calls a0_0 a0_1 _ _ l0_2 a0_0 0 0 0 false ((rd_T78 t543 x13_2).f0) ((rd_T78 t543 x13_2).f1) ((rd_T78 t543 x13_2).f2) ((rd_T78 t543 x13_2).f3) t558 t559 t560 t561 t562 t563 t564 t565 _ ?side1 ?side2 A36.out).mono ?_
             (case side1 => repeat (first | exact (Kd.C_below HR0_2.out HB.out) | (with_reducible refine Kd.C_alloc ?_ _) | (with_reducible refine Kd.C_drewN ?_ _) | (with_reducible refine Kd.C_drew ?_)))
             (case side2 => exact HC0_2.out)
             rintro e w41 ⟨rfl, hb⟩
             have HS3_ := (hb.cell (World.block_lt_of_cell? _ _ (hHeld.2.2.2.1))).trans (hHeld.2.2.2.1)
             have HS4_ := (hb.cell (World.block_lt_of_cell? _ _ (hHeld.2.2.2.2.1))).trans (hHeld.2.2.2.2.1)
             have HS5_ := (hb.cell (World.block_lt_of_cell? _ _ (hHeld.2.2.2.2.2.1))).trans (hHeld.2.2.2.2.2.1)
             have HS6_ := (hb.cell (World.block_lt_of_cell? _ _ (hHeld.2.2.2.2.2.2))).trans (hHeld.2.2.2.2.2.2)
             refine ⟨_, rfl, ?_⟩
             replace HO_8 := hoa HO_8 hb
             replace BK539 := bka BK539 hb
             replace BK556 := bka BK556 hb
             replace BK566 := bka BK566 hb
             replace HB := hba hb
             (try clear hb)
             (try clear hb2)
             (try clear hk)
             (try clear hi)
             refine hK.out _ _ ⟨(blk_cell BK539.out 0).trans rfl, (blk_cell BK539.out 1).trans rfl, (blk_cell BK539.out 2).trans rfl, HS3_, HS4_, HS5_, HS6_⟩ (fun hHeld => ?_)
             clear hK K
             refine norm_ (a' := ?_) ?_ ?_
             rotate_left
             ·show Act.put _ (some 64) _ = _
              simp only [Act.put, List.setIfInBounds_toArray, List.set_cons_zero, List.set_cons_succ, i64_w, i32_w]
              rfl
             refine pure_ (i := 9) (N := some 55) (v := ?_) (a' := ?_) #[true, true, true, true, true, true, true, true, true, true, false, false, false, false, true, false, false, false, false] rfl rfl (any_of HT_.out (by kernel_rfl)) (fun _ _ _ h => h) (Or.inl ⟨by rfl, ?_⟩) ?_ ?_
             rotate_left
             ·intro w'
              go_simp
              with_reducible rfl
             rotate_left
             ·exact apt
             refine pure_ (i := 10) (N := some 65) (v := ?_) (a' := ?_) #[true, true, true, true, true, true, true, true, true, true, true, false, false, false, true, false, false, false, false] rfl rfl (any_of HT_.out (by kernel_rfl)) (fun _ _ _ h => h) (Or.inl ⟨by rfl, ?_⟩) ?_ ?_
             rotate_left
             ·intro w'
              go_simp
              with_reducible rfl
             rotate_left
             ·exact apt
             refine pure_ (i := 11) (N := some 66) (v := ?_) (a' := ?_) #[true, true, true, true, true, true, true, true, true, true, true, true, false, false, true, false, false, false, false] rfl rfl (any_of HT_.out (by kernel_rfl)) (fun _ _ _ h => h) (Or.inl ⟨by rfl, ?_⟩) ?_ ?_
             rotate_left
             ·intro w'
              go_simp
              with_reducible rfl
             rotate_left
             ·exact apt
             refine pure_ (i := 12) (N := some 67) (v := ?_) (a' := ?_) #[true, true, true, true, true, true, true, true, true, true, true, true, true, false, true, false, false, false, false] rfl rfl (any_of HT_.out (by kernel_rfl)) (fun _ _ _ h => h) (Or.inl ⟨by rfl, ?_⟩) ?_ ?_
             rotate_left
             ·intro w'
              go_simp
              with_reducible rfl
             rotate_left
             ·exact apt
             refine pure_ (i := 13) (N := some 68) (v := ?_) (a' := ?_) #[true, true, true, true, true, true, true, true, true, true, true, true, true, true, true, false, false, false, false] rfl rfl (any_of HT_.out (by kernel_rfl)) (fun _ _ _ h => h) (Or.inl ⟨by rfl, ?_⟩) ?_ ?_
             rotate_left
             ·intro w'
              go_simp
              with_reducible rfl
             rotate_left
             ·exact apt
             exact norm_ (by simp only [putAll, Act.put, List.setIfInBounds_toArray, List.set_cons_zero, List.set_cons_succ]) (hCont (gb566) _ ⟨hHeld, (krl HO_8), (by (with_reducible repeat (first | refine blk_drewN ?_ _ | refine blk_drew ?_ | refine blk_alloc ?_ _)); exact BK539.out), (by (with_reducible repeat (first | refine blk_drewN ?_ _ | refine blk_drew ?_ | refine blk_alloc ?_ _)); exact BK556.out), (by (with_reducible repeat (first | refine blk_drewN ?_ _ | refine blk_drew ?_ | refine blk_alloc ?_ _)); exact BK566.out), GW566.out, GE566.out, NB539_566.out, NB566_539.out, NB556_566.out, NB566_556.out, bel⟩)
           rintro gb566 w42 ⟨hS_, h0_, h1_, h2_, h3_, h4_, h5_, h6_, h7_, h8_, h9_, h10_⟩
           have n0_ : Aside0 (Kd.R k78 78 w42 w.heap.size (fun _ => True) (.slice (some ad557) t543.length co29) t543) := ⟨h0_⟩
           have n1_ : Aside0 (w42.heap[gb539]? = some (.cells #[.int .i64 a0_0, .int .i64 a0_1, .slice A0_2 l0_2.length c0_2] 69 (0, 0))) := ⟨h1_⟩
           have n2_ : Aside0 (w42.heap[gb556]? = some (.cells #[.int .i64 t547, .int .i64 t548, .int .i64 t549, .int .i64 t550, .bool t551] 71 (0, 0))) := ⟨h2_⟩
           have n3_ : Aside0 (w42.heap[gb566]? = some (.cells #[.int .i64 0, .int .i64 0, .int .i64 0, .int .i64 0, .bool false] 71 (0, 0))) := ⟨h3_⟩
           have n4_ : Aside0 (w.heap.size ≤ gb566) := ⟨h4_⟩
           have n5_ : Aside0 (w.heap.size ≤ gb566) := ⟨h5_⟩
           have n6_ : Aside0 (gb539 ≠ gb566) := ⟨h6_⟩
           have n7_ : Aside0 (gb566 ≠ gb539) := ⟨h7_⟩
           have n8_ : Aside0 (gb556 ≠ gb566) := ⟨h8_⟩
           have n9_ : Aside0 (gb566 ≠ gb556) := ⟨h9_⟩
           have n10_ : Aside0 (Below w.heap.size w w42) := ⟨h10_⟩
           clear HO_8
           clear BK539
           clear BK556
           clear HB
           clear h0_ h1_ h2_ h3_ h4_ h5_ h6_ h7_ h8_ h9_ h10_
           have HO_8 := n0_
           have BK539 := n1_
           have BK556 := n2_
           have BK566 := n3_
           have GW566 := n4_
           have GE566 := n5_
           have NB539_566 := n6_
           have NB566_539 := n7_
           have NB556_566 := n8_
           have NB566_556 := n9_
           have HB := n10_
           clear n0_ n1_ n2_ n3_ n4_ n5_ n6_ n7_ n8_ n9_ n10_
           have hHeld : w42.cell? ⟨gb539, 0, none⟩ = some (.int .i64 a0_0) ∧ w42.cell? ⟨gb539, 1, none⟩ = some (.int .i64 a0_1) ∧ w42.cell? ⟨gb539, 2, none⟩ = some (.slice A0_2 l0_2.length c0_2) ∧ w42.cell? (ad557.add ((x13_2).toNat * 4)) = some (.int .i64 ((rd_T78 t543 x13_2).f0)) ∧ w42.cell? ⟨(ad557.add ((x13_2).toNat * 4)).block, (ad557.add ((x13_2).toNat * 4)).off + 1, none⟩ = some (.int .i64 ((rd_T78 t543 x13_2).f1)) ∧ w42.cell? ⟨(ad557.add ((x13_2).toNat * 4)).block, (ad557.add ((x13_2).toNat * 4)).off + 2, none⟩ = some (.int .i64 ((rd_T78 t543 x13_2).f2)) ∧ w42.cell? ⟨(ad557.add ((x13_2).toNat * 4)).block, (ad557.add ((x13_2).toNat * 4)).off + 3, none⟩ = some (.int .i64 ((rd_T78 t543 x13_2).f3)) := hS_
           refine norm_ (a' := ?_) ?_ ?_
           rotate_left
           ·simp only [putAll, Act.put, List.setIfInBounds_toArray, List.set_cons_zero, List.set_cons_succ]
            rfl
           refine one_ (i := 15) (N := none) #[true, true, true, true, true, true, true, true, true, true, true, true, true, true, true, true, false, false, false] rfl rfl (one_of HT_.out (by kernel_rfl)) (by decide) (fun K hK => ?_)
           have hs43 : w42.cell? ⟨gb566, 0, none⟩ = some (.int .i64 0) := (blk_cell BK566.out 0).trans rfl
           have hfs43 := blk_frozen BK566.out 0
           have hns43_0 := NB539_566.out
           have hns43_1 := NB556_566.out
           have hms43_0 := NB566_539.out
           have hms43_1 := NB566_556.out
           have hs44 : w42.cell? ⟨gb566, 1, none⟩ = some (.int .i64 0) := (blk_cell BK566.out 1).trans rfl
           have hfs44 := blk_frozen BK566.out 1
           have hns44_0 := NB539_566.out
           have hns44_1 := NB556_566.out
           have hms44_0 := NB566_539.out
           have hms44_1 := NB566_556.out
           have hs45 : w42.cell? ⟨gb566, 2, none⟩ = some (.int .i64 0) := (blk_cell BK566.out 2).trans rfl
           have hfs45 := blk_frozen BK566.out 2
           have hns45_0 := NB539_566.out
           have hns45_1 := NB556_566.out
           have hms45_0 := NB566_539.out
           have hms45_1 := NB566_556.out
           have hs46 : w42.cell? ⟨gb566, 3, none⟩ = some (.int .i64 0) := (blk_cell BK566.out 3).trans rfl
           have hfs46 := blk_frozen BK566.out 3
           have hns46_0 := NB539_566.out
           have hns46_1 := NB556_566.out
           have hms46_0 := NB566_539.out
           have hms46_1 := NB566_556.out
           have hs47 : w42.cell? ⟨gb566, 4, none⟩ = some (.bool false) := (blk_cell BK566.out 4).trans rfl
           have hfs47 := blk_frozen BK566.out 4
           have hns47_0 := NB539_566.out
           have hns47_1 := NB556_566.out
           have hms47_0 := NB566_539.out
           have hms47_1 := NB566_556.out
           refine skip_ (w1 := ?_) (by rfl) rfl ?_ ?_
           rotate_left
           ·go_simp
            rfl
           refine hK.out _ _ ⟨(cf5 NB539_566.out (hHeld.1)), (cf5 NB539_566.out (hHeld.2.1)), (cf5 NB539_566.out (hHeld.2.2.1)), ((cell_far (p := ⟨gb566, _, none⟩) (by first | exact Kd.own_blk (Kd.R_ne HO_8.out BK566.out (by decide)) | (rw [add_block]; exact Kd.own_blk (Kd.R_ne HO_8.out BK566.out (by decide))) | (show (Addr.add _ _).block ≠ _; rw [add_block]; exact Kd.own_blk (Kd.R_ne HO_8.out BK566.out (by decide))) | (dsimp only; exact Kd.own_blk (Kd.R_ne HO_8.out BK566.out (by decide)))) _).trans (((cell_far (p := ⟨gb566, _, none⟩) (by first | exact Kd.own_blk (Kd.R_ne HO_8.out BK566.out (by decide)) | (rw [add_block]; exact Kd.own_blk (Kd.R_ne HO_8.out BK566.out (by decide))) | (show (Addr.add _ _).block ≠ _; rw [add_block]; exact Kd.own_blk (Kd.R_ne HO_8.out BK566.out (by decide))) | (dsimp only; exact Kd.own_blk (Kd.R_ne HO_8.out BK566.out (by decide)))) _).trans (((cell_far (p := ⟨gb566, _, none⟩) (by first | exact Kd.own_blk (Kd.R_ne HO_8.out BK566.out (by decide)) | (rw [add_block]; exact Kd.own_blk (Kd.R_ne HO_8.out BK566.out (by decide))) | (show (Addr.add _ _).block ≠ _; rw [add_block]; exact Kd.own_blk (Kd.R_ne HO_8.out BK566.out (by decide))) | (dsimp only; exact Kd.own_blk (Kd.R_ne HO_8.out BK566.out (by decide)))) _).trans (((cell_far (p := ⟨gb566, _, none⟩) (by first | exact Kd.own_blk (Kd.R_ne HO_8.out BK566.out (by decide)) | (rw [add_block]; exact Kd.own_blk (Kd.R_ne HO_8.out BK566.out (by decide))) | (show (Addr.add _ _).block ≠ _; rw [add_block]; exact Kd.own_blk (Kd.R_ne HO_8.out BK566.out (by decide))) | (dsimp only; exact Kd.own_blk (Kd.R_ne HO_8.out BK566.out (by decide)))) _).trans (((cell_far (p := ⟨gb566, _, none⟩) (by first | exact Kd.own_blk (Kd.R_ne HO_8.out BK566.out (by decide)) | (rw [add_block]; exact Kd.own_blk (Kd.R_ne HO_8.out BK566.out (by decide))) | (show (Addr.add _ _).block ≠ _; rw [add_block]; exact Kd.own_blk (Kd.R_ne HO_8.out BK566.out (by decide))) | (dsimp only; exact Kd.own_blk (Kd.R_ne HO_8.out BK566.out (by decide)))) _).trans (hHeld.2.2.2.1)))))))))), ((cell_far (p := ⟨gb566, _, none⟩) (by first | exact Kd.own_blk (Kd.R_ne HO_8.out BK566.out (by decide)) | (rw [add_block]; exact Kd.own_blk (Kd.R_ne HO_8.out BK566.out (by decide))) | (show (Addr.add _ _).block ≠ _; rw [add_block]; exact Kd.own_blk (Kd.R_ne HO_8.out BK566.out (by decide))) | (dsimp only; exact Kd.own_blk (Kd.R_ne HO_8.out BK566.out (by decide)))) _).trans (((cell_far (p := ⟨gb566, _, none⟩) (by first | exact Kd.own_blk (Kd.R_ne HO_8.out BK566.out (by decide)) | (rw [add_block]; exact Kd.own_blk (Kd.R_ne HO_8.out BK566.out (by decide))) | (show (Addr.add _ _).block ≠ _; rw [add_block]; exact Kd.own_blk (Kd.R_ne HO_8.out BK566.out (by decide))) | (dsimp only; exact Kd.own_blk (Kd.R_ne HO_8.out BK566.out (by decide)))) _).trans (((cell_far (p := ⟨gb566, _, none⟩) (by first | exact Kd.own_blk (Kd.R_ne HO_8.out BK566.out (by decide)) | (rw [add_block]; exact Kd.own_blk (Kd.R_ne HO_8.out BK566.out (by decide))) | (show (Addr.add _ _).block ≠ _; rw [add_block]; exact Kd.own_blk (Kd.R_ne HO_8.out BK566.out (by decide))) | (dsimp only; exact Kd.own_blk (Kd.R_ne HO_8.out BK566.out (by decide)))) _).trans (((cell_far (p := ⟨gb566, _, none⟩) (by first | exact Kd.own_blk (Kd.R_ne HO_8.out BK566.out (by decide)) | (rw [add_block]; exact Kd.own_blk (Kd.R_ne HO_8.out BK566.out (by decide))) | (show (Addr.add _ _).block ≠ _; rw [add_block]; exact Kd.own_blk (Kd.R_ne HO_8.out BK566.out (by decide))) | (dsimp only; exact Kd.own_blk (Kd.R_ne HO_8.out BK566.out (by decide)))) _).trans (((cell_far (p := ⟨gb566, _, none⟩) (by first | exact Kd.own_blk (Kd.R_ne HO_8.out BK566.out (by decide)) | (rw [add_block]; exact Kd.own_blk (Kd.R_ne HO_8.out BK566.out (by decide))) | (show (Addr.add _ _).block ≠ _; rw [add_block]; exact Kd.own_blk (Kd.R_ne HO_8.out BK566.out (by decide))) | (dsimp only; exact Kd.own_blk (Kd.R_ne HO_8.out BK566.out (by decide)))) _).trans (hHeld.2.2.2.2.1)))))))))), ((cell_far (p := ⟨gb566, _, none⟩) (by first | exact Kd.own_blk (Kd.R_ne HO_8.out BK566.out (by decide)) | (rw [add_block]; exact Kd.own_blk (Kd.R_ne HO_8.out BK566.out (by decide))) | (show (Addr.add _ _).block ≠ _; rw [add_block]; exact Kd.own_blk (Kd.R_ne HO_8.out BK566.out (by decide))) | (dsimp only; exact Kd.own_blk (Kd.R_ne HO_8.out BK566.out (by decide)))) _).trans (((cell_far (p := ⟨gb566, _, none⟩) (by first | exact Kd.own_blk (Kd.R_ne HO_8.out BK566.out (by decide)) | (rw [add_block]; exact Kd.own_blk (Kd.R_ne HO_8.out BK566.out (by decide))) | (show (Addr.add _ _).block ≠ _; rw [add_block]; exact Kd.own_blk (Kd.R_ne HO_8.out BK566.out (by decide))) | (dsimp only; exact Kd.own_blk (Kd.R_ne HO_8.out BK566.out (by decide)))) _).trans (((cell_far (p := ⟨gb566, _, none⟩) (by first | exact Kd.own_blk (Kd.R_ne HO_8.out BK566.out (by decide)) | (rw [add_block]; exact Kd.own_blk (Kd.R_ne HO_8.out BK566.out (by decide))) | (show (Addr.add _ _).block ≠ _; rw [add_block]; exact Kd.own_blk (Kd.R_ne HO_8.out BK566.out (by decide))) | (dsimp only; exact Kd.own_blk (Kd.R_ne HO_8.out BK566.out (by decide)))) _).trans (((cell_far (p := ⟨gb566, _, none⟩) (by first | exact Kd.own_blk (Kd.R_ne HO_8.out BK566.out (by decide)) | (rw [add_block]; exact Kd.own_blk (Kd.R_ne HO_8.out BK566.out (by decide))) | (show (Addr.add _ _).block ≠ _; rw [add_block]; exact Kd.own_blk (Kd.R_ne HO_8.out BK566.out (by decide))) | (dsimp only; exact Kd.own_blk (Kd.R_ne HO_8.out BK566.out (by decide)))) _).trans (((cell_far (p := ⟨gb566, _, none⟩) (by first | exact Kd.own_blk (Kd.R_ne HO_8.out BK566.out (by decide)) | (rw [add_block]; exact Kd.own_blk (Kd.R_ne HO_8.out BK566.out (by decide))) | (show (Addr.add _ _).block ≠ _; rw [add_block]; exact Kd.own_blk (Kd.R_ne HO_8.out BK566.out (by decide))) | (dsimp only; exact Kd.own_blk (Kd.R_ne HO_8.out BK566.out (by decide)))) _).trans (hHeld.2.2.2.2.2.1)))))))))), ((cell_far (p := ⟨gb566, _, none⟩) (by first | exact Kd.own_blk (Kd.R_ne HO_8.out BK566.out (by decide)) | (rw [add_block]; exact Kd.own_blk (Kd.R_ne HO_8.out BK566.out (by decide))) | (show (Addr.add _ _).block ≠ _; rw [add_block]; exact Kd.own_blk (Kd.R_ne HO_8.out BK566.out (by decide))) | (dsimp only; exact Kd.own_blk (Kd.R_ne HO_8.out BK566.out (by decide)))) _).trans (((cell_far (p := ⟨gb566, _, none⟩) (by first | exact Kd.own_blk (Kd.R_ne HO_8.out BK566.out (by decide)) | (rw [add_block]; exact Kd.own_blk (Kd.R_ne HO_8.out BK566.out (by decide))) | (show (Addr.add _ _).block ≠ _; rw [add_block]; exact Kd.own_blk (Kd.R_ne HO_8.out BK566.out (by decide))) | (dsimp only; exact Kd.own_blk (Kd.R_ne HO_8.out BK566.out (by decide)))) _).trans (((cell_far (p := ⟨gb566, _, none⟩) (by first | exact Kd.own_blk (Kd.R_ne HO_8.out BK566.out (by decide)) | (rw [add_block]; exact Kd.own_blk (Kd.R_ne HO_8.out BK566.out (by decide))) | (show (Addr.add _ _).block ≠ _; rw [add_block]; exact Kd.own_blk (Kd.R_ne HO_8.out BK566.out (by decide))) | (dsimp only; exact Kd.own_blk (Kd.R_ne HO_8.out BK566.out (by decide)))) _).trans (((cell_far (p := ⟨gb566, _, none⟩) (by first | exact Kd.own_blk (Kd.R_ne HO_8.out BK566.out (by decide)) | (rw [add_block]; exact Kd.own_blk (Kd.R_ne HO_8.out BK566.out (by decide))) | (show (Addr.add _ _).block ≠ _; rw [add_block]; exact Kd.own_blk (Kd.R_ne HO_8.out BK566.out (by decide))) | (dsimp only; exact Kd.own_blk (Kd.R_ne HO_8.out BK566.out (by decide)))) _).trans (((cell_far (p := ⟨gb566, _, none⟩) (by first | exact Kd.own_blk (Kd.R_ne HO_8.out BK566.out (by decide)) | (rw [add_block]; exact Kd.own_blk (Kd.R_ne HO_8.out BK566.out (by decide))) | (show (Addr.add _ _).block ≠ _; rw [add_block]; exact Kd.own_blk (Kd.R_ne HO_8.out BK566.out (by decide))) | (dsimp only; exact Kd.own_blk (Kd.R_ne HO_8.out BK566.out (by decide)))) _).trans (hHeld.2.2.2.2.2.2))))))))))⟩ (fun hHeld => ?_)
           clear hK K
           refine pure_ (i := 16) (N := some 15) (v := ?_) (a' := ?_) #[true, true, true, true, true, true, true, true, true, true, true, true, true, true, true, true, true, false, false] rfl rfl (any_of HT_.out (by kernel_rfl)) (fun _ _ _ h => h) (Or.inl ⟨by rfl, ?_⟩) ?_ ?_
           rotate_left
           ·intro w'
            go_simp
            with_reducible rfl
           rotate_left
           ·exact apt
           refine pure_ (i := 17) (N := some 16) (v := ?_) (a' := ?_) #[true, true, true, true, true, true, true, true, true, true, true, true, true, true, true, true, true, true, false] rfl rfl (any_of HT_.out (by kernel_rfl)) (fun _ _ _ h => h) (Or.inl ⟨by rfl, ?_⟩) ?_ ?_
           rotate_left
           ·intro w'
            go_simp
            with_reducible rfl
           rotate_left
           ·exact apt
           refine pure_ (i := 18) (N := some 17) (v := ?_) (a' := ?_) #[true, true, true, true, true, true, true, true, true, true, true, true, true, true, true, true, true, true, true] rfl rfl (any_of HT_.out (by kernel_rfl)) (fun _ _ _ h => h) (Or.inl ⟨by rfl, ?_⟩) ?_ ?_
           rotate_left
           ·intro w'
            go_simp
            with_reducible rfl
           rotate_left
           ·exact apt
           refine done_ (done_of HT_.out (by kernel_rfl)) ?_
           try go_wp2
           go_roundg k2
           case measure => have := HJ4.out; have := HK2.out; omega
           case rel => exact ⟨(!t564), (wrap64 (x13_2 + 1)), (by first | rfl | (simp; done) | (simp [*]; done)), (by first | rfl | (simp; done) | (simp [*]; done)), H', ⟨by have := HJ4.out; have := HK2.out; omega⟩, ⟨by (with_reducible repeat (first | apply Kd.R_alloc | apply Kd.R_drewN | apply Kd.R_drew)); exact Kd.R_mono (Kd.R_far (p := ⟨gb566, 4, none⟩) (Kd.R_far (p := ⟨gb566, 3, none⟩) (Kd.R_far (p := ⟨gb566, 2, none⟩) (Kd.R_far (p := ⟨gb566, 1, none⟩) (Kd.R_far (p := ⟨gb566, 0, none⟩) (Kd.R_types HO_8.out BK566.out (by decide)) (fun _ hk => hk.2) (.int .i64 t558)) (fun _ hk => hk.2) (.int .i64 t559)) (fun _ hk => hk.2) (.int .i64 t560)) (fun _ hk => hk.2) (.int .i64 t561)) (fun _ hk => hk.2) (.bool t562)) (fun _ hk => trivial)⟩, ⟨bkf BK539⟩, ⟨bkf BK556⟩, ⟨bel⟩⟩
          ·rw [if_neg c38] at H
           have c38b0 : (t565 == 0) = false := beq_eq_false_iff_ne.mpr c38
           have c38b1 : (t565 != 0) = true := bne_iff_ne.mpr c38
           have H' := Aside0.mk H
           clear H
           try go_wp2
           replace HO_8 := Aside0.mk (Kd.R_drew HO_8.out)
           replace BK539 := Aside0.mk (blk_drew BK539.out)
           replace BK556 := Aside0.mk (blk_drew BK556.out)
           replace HB := Aside0.mk (below_drew1 HB.out)
           have p557 : 0 ≤ (x13_2 : Int) := of_decide_eq_true (by first | (with_reducible assumption) | assumption)
           have q557 : x13_2 < (t543.length : Int) := of_decide_eq_true (by first | (with_reducible assumption) | assumption)
           obtain ⟨ad557, e557, hx557_0, hx557_1, hx557_2, hx557_3⟩ := at_T78 (Kd.R_reads' HO_8.out).2.2 x13_2 p557 q557
           cases e557
           replace p557 := eq_true p557
           replace q557 := eq_true q557
           refine start_ (n := 19) (S := fun w' => w'.cell? ⟨gb539, 0, none⟩ = some (.int .i64 a0_0) ∧ w'.cell? ⟨gb539, 1, none⟩ = some (.int .i64 a0_1) ∧ w'.cell? ⟨gb539, 2, none⟩ = some (.slice A0_2 l0_2.length c0_2) ∧ w'.cell? (ad557.add ((x13_2).toNat * 4)) = some (.int .i64 ((rd_T78 t543 x13_2).f0)) ∧ w'.cell? ⟨(ad557.add ((x13_2).toNat * 4)).block, (ad557.add ((x13_2).toNat * 4)).off + 1, none⟩ = some (.int .i64 ((rd_T78 t543 x13_2).f1)) ∧ w'.cell? ⟨(ad557.add ((x13_2).toNat * 4)).block, (ad557.add ((x13_2).toNat * 4)).off + 2, none⟩ = some (.int .i64 ((rd_T78 t543 x13_2).f2)) ∧ w'.cell? ⟨(ad557.add ((x13_2).toNat * 4)).block, (ad557.add ((x13_2).toNat * 4)).off + 3, none⟩ = some (.int .i64 ((rd_T78 t543 x13_2).f3))) (ds := []) #[false, false, false, false, false, false, false, false, false, false, false, false, false, false, false, false, false, false, false] (by kernel_rfl) rfl rfl ⟨(blk_cell BK539.out 0).trans rfl, (blk_cell BK539.out 1).trans rfl, (blk_cell BK539.out 2).trans rfl, hx557_0, hx557_1, hx557_2, hx557_3⟩ (fun hHeld => ?_); refine with_tabW formelaw38_ContractHonest.tab11 formelaw38_ContractHonest.bits11 (fun HT_ HW_ => ?_)
           generalize wr.drew = w48 at HO_8 BK539 BK556 HB hx557_0 hx557_1 hx557_2 hx557_3 hHeld ⊢
           refine pure_ (i := 1) (N := some 57) (v := ?_) (a' := ?_) #[false, true, false, false, false, false, false, false, false, false, false, false, false, false, false, false, false, false, false] rfl rfl (any_of HT_.out (by kernel_rfl)) (fun _ _ _ h => h) (Or.inl ⟨by rfl, ?_⟩) ?_ ?_
           rotate_left
           ·intro w'
            go_simp
            with_reducible rfl
           rotate_left
           ·exact apt
           refine pure_ (i := 4) (N := some 60) (v := ?_) (a' := ?_) #[false, true, false, false, true, false, false, false, false, false, false, false, false, false, false, false, false, false, false] rfl rfl (any_of HT_.out (by kernel_rfl)) (fun _ _ _ h => h) (Or.inl ⟨by rfl, ?_⟩) ?_ ?_
           rotate_left
           ·intro w'
            go_simp
            with_reducible rfl
           rotate_left
           ·exact apt
           refine pure_ (i := 5) (N := some 61) (v := ?_) (a' := ?_) #[false, true, false, false, true, true, false, false, false, false, false, false, false, false, false, false, false, false, false] rfl rfl (any_of HT_.out (by kernel_rfl)) (fun _ _ _ h => h) (Or.inl ⟨by rfl, ?_⟩) ?_ ?_
           rotate_left
           ·intro w'
            go_simp
            with_reducible rfl
           rotate_left
           ·exact apt
           refine pure_ (i := 6) (N := some 62) (v := ?_) (a' := ?_) #[false, true, false, false, true, true, true, false, false, false, false, false, false, false, false, false, false, false, false] rfl rfl (any_of HT_.out (by kernel_rfl)) (fun _ _ _ h => h) (Or.inl ⟨by rfl, ?_⟩) ?_ ?_
           rotate_left
           ·intro w'
            go_simp
            with_reducible rfl
           rotate_left
           ·exact apt
           refine take_ (i := 0) (N := some 56) (v := ?_) (a' := ?_) #[true, true, false, false, true, true, true, false, false, false, false, false, false, false, false, false, false, false, false] rfl rfl (take_ofW HT_.out HW_.out (by kernel_rfl)) (fun _ _ _ h => h) (Or.inl ⟨by rfl, ?_⟩) hHeld ?_ ?_
           rotate_left
           ·rintro w' ⟨s0, s1, s2, s3, s4, s5, s6⟩
            go_simp
            with_reducible rfl
           rotate_left
           ·exact apt
           refine take_ (i := 2) (N := some 58) (v := ?_) (a' := ?_) #[true, true, true, false, true, true, true, false, false, false, false, false, false, false, false, false, false, false, false] rfl rfl (take_ofW HT_.out HW_.out (by kernel_rfl)) (fun _ _ _ h => h) (Or.inl ⟨by rfl, ?_⟩) hHeld ?_ ?_
           rotate_left
           ·rintro w' ⟨s0, s1, s2, s3, s4, s5, s6⟩
            go_simp
            with_reducible rfl
           rotate_left
           ·exact apt
           refine pure_ (i := 3) (N := some 59) (v := ?_) (a' := ?_) #[true, true, true, true, true, true, true, false, false, false, false, false, false, false, false, false, false, false, false] rfl rfl (any_of HT_.out (by kernel_rfl)) (fun _ _ _ h => h) (Or.inl ⟨by rfl, ?_⟩) ?_ ?_
           rotate_left
           ·intro w'
            go_simp
            with_reducible rfl
           rotate_left
           ·exact apt
           refine take_ (i := 7) (N := some 63) (v := ?_) (a' := ?_) #[true, true, true, true, true, true, true, true, false, false, false, false, false, false, false, false, false, false, false] rfl rfl (take_ofW HT_.out HW_.out (by kernel_rfl)) (fun _ _ _ h => h) (Or.inl ⟨by rfl, ?_⟩) hHeld ?_ ?_
           rotate_left
           ·rintro w' ⟨s0, s1, s2, s3, s4, s5, s6⟩
            go_simp
            with_reducible rfl
           rotate_left
           ·exact apt
           refine join_ (σ := Nat) 4 #[true, true, true, true, true, true, true, true, true, true, true, true, true, true, true, false, false, false, false] (fun s_ => [(64, .tuple #[.agg #[.int .i64 t558, .int .i64 t559, .int .i64 t560, .int .i64 t561, .bool t562], .int .i64 t563, .bool t564, .int .i64 t565]), (14, .pointer (some ⟨s_, 0, none⟩)), (55, .tuple #[.agg #[.int .i64 t558, .int .i64 t559, .int .i64 t560, .int .i64 t561, .bool t562], .int .i64 t563, .bool t564, .int .i64 t565]), (65, .agg #[.int .i64 t558, .int .i64 t559, .int .i64 t560, .int .i64 t561, .bool t562]), (66, .int .i64 t563), (67, .bool t564), (68, .int .i64 t565)]) (fun s_ w' => (w'.cell? ⟨gb539, 0, none⟩ = some (.int .i64 a0_0) ∧ w'.cell? ⟨gb539, 1, none⟩ = some (.int .i64 a0_1) ∧ w'.cell? ⟨gb539, 2, none⟩ = some (.slice A0_2 l0_2.length c0_2) ∧ w'.cell? (ad557.add ((x13_2).toNat * 4)) = some (.int .i64 ((rd_T78 t543 x13_2).f0)) ∧ w'.cell? ⟨(ad557.add ((x13_2).toNat * 4)).block, (ad557.add ((x13_2).toNat * 4)).off + 1, none⟩ = some (.int .i64 ((rd_T78 t543 x13_2).f1)) ∧ w'.cell? ⟨(ad557.add ((x13_2).toNat * 4)).block, (ad557.add ((x13_2).toNat * 4)).off + 2, none⟩ = some (.int .i64 ((rd_T78 t543 x13_2).f2)) ∧ w'.cell? ⟨(ad557.add ((x13_2).toNat * 4)).block, (ad557.add ((x13_2).toNat * 4)).off + 3, none⟩ = some (.int .i64 ((rd_T78 t543 x13_2).f3))) ∧ (Kd.R k78 78 w' w.heap.size (fun _ => True) (.slice (some ad557) t543.length co29) t543) ∧ (w'.heap[gb539]? = some (.cells #[.int .i64 a0_0, .int .i64 a0_1, .slice A0_2 l0_2.length c0_2] 69 (0, 0))) ∧ (w'.heap[gb556]? = some (.cells #[.int .i64 t547, .int .i64 t548, .int .i64 t549, .int .i64 t550, .bool t551] 71 (0, 0))) ∧ (w'.heap[s_]? = some (.cells #[.int .i64 0, .int .i64 0, .int .i64 0, .int .i64 0, .bool false] 71 (0, 0))) ∧ (w.heap.size ≤ s_) ∧ (w.heap.size ≤ s_) ∧ (gb539 ≠ s_) ∧ (s_ ≠ gb539) ∧ (gb556 ≠ s_) ∧ (s_ ≠ gb556) ∧ (Below w.heap.size w w')) ?_ ?_
           rotate_left
           ·intro hCont
            refine two_ (i := 8) (j := 14) (Ni := some 64) (Nj := some 14) #[true, true, true, true, true, true, true, true, true, false, false, false, false, false, false, false, false, false, false] #[true, true, true, true, true, true, true, true, false, false, false, false, false, false, true, false, false, false, false] rfl rfl rfl rfl (two_of HT_.out (by kernel_rfl)) (by decide) (by decide) (fun K hK => ?_) (fun K hK => ?_)
            ·skip
             refine goes_ Try.func63 (by kernel_rfl) rfl #[.agg #[.int .i64 a0_0, .int .i64 a0_1, .slice A0_2 l0_2.length c0_2], .agg #[.int .i64 a0_0, .int .i64 0, .int .i64 0, .int .i64 0, .bool false], .agg #[.int .i64 ((rd_T78 t543 x13_2).f0), .int .i64 ((rd_T78 t543 x13_2).f1), .int .i64 ((rd_T78 t543 x13_2).f2), .int .i64 ((rd_T78 t543 x13_2).f3)]] (by rfl) rfl rfl gla ?_
             with_reducible refine (contract_Judge.calls a0_0 a0_1 _ _ l0_2 a0_0 0 0 0 false ((rd_T78 t543 x13_2).f0) ((rd_T78 t543 x13_2).f1) ((rd_T78 t543 x13_2).f2) ((rd_T78 t543 x13_2).f3) t558 t559 t560 t561 t562 t563 t564 t565 _ ?side1 ?side2 A36.out).mono ?_
             (case side1 => repeat (first | exact (Kd.C_below HR0_2.out HB.out) | (with_reducible refine Kd.C_alloc ?_ _) | (with_reducible refine Kd.C_drewN ?_ _) | (with_reducible refine Kd.C_drew ?_)))
             (case side2 => exact HC0_2.out)
             rintro e w49 ⟨rfl, hb⟩
             have HS3_ := (hb.cell (World.block_lt_of_cell? _ _ (hHeld.2.2.2.1))).trans (hHeld.2.2.2.1)
             have HS4_ := (hb.cell (World.block_lt_of_cell? _ _ (hHeld.2.2.2.2.1))).trans (hHeld.2.2.2.2.1)
             have HS5_ := (hb.cell (World.block_lt_of_cell? _ _ (hHeld.2.2.2.2.2.1))).trans (hHeld.2.2.2.2.2.1)
             have HS6_ := (hb.cell (World.block_lt_of_cell? _ _ (hHeld.2.2.2.2.2.2))).trans (hHeld.2.2.2.2.2.2)
             refine ⟨_, rfl, ?_⟩
             replace HO_8 := hoa HO_8 hb
             replace BK539 := bka BK539 hb
             replace BK556 := bka BK556 hb
             replace HB := hba hb
             (try clear hb)
             (try clear hb2)
             (try clear hk)
             (try clear hi)
             refine hK.out _ _ ⟨(blk_cell BK539.out 0).trans rfl, (blk_cell BK539.out 1).trans rfl, (blk_cell BK539.out 2).trans rfl, HS3_, HS4_, HS5_, HS6_⟩ (fun hHeld => ?_)
             clear hK K
             refine norm_ (a' := ?_) ?_ ?_
             rotate_left
             ·show Act.put _ (some 64) _ = _
              simp only [Act.put, List.setIfInBounds_toArray, List.set_cons_zero, List.set_cons_succ, i64_w, i32_w]
              rfl
             refine pure_ (i := 9) (N := some 55) (v := ?_) (a' := ?_) #[true, true, true, true, true, true, true, true, true, true, false, false, false, false, false, false, false, false, false] rfl rfl (any_of HT_.out (by kernel_rfl)) (fun _ _ _ h => h) (Or.inl ⟨by rfl, ?_⟩) ?_ ?_
             rotate_left
             ·intro w'
              go_simp
              with_reducible rfl
             rotate_left
             ·exact apt
             refine pure_ (i := 10) (N := some 65) (v := ?_) (a' := ?_) #[true, true, true, true, true, true, true, true, true, true, true, false, false, false, false, false, false, false, false] rfl rfl (any_of HT_.out (by kernel_rfl)) (fun _ _ _ h => h) (Or.inl ⟨by rfl, ?_⟩) ?_ ?_
             rotate_left
             ·intro w'
              go_simp
              with_reducible rfl
             rotate_left
             ·exact apt
             refine pure_ (i := 11) (N := some 66) (v := ?_) (a' := ?_) #[true, true, true, true, true, true, true, true, true, true, true, true, false, false, false, false, false, false, false] rfl rfl (any_of HT_.out (by kernel_rfl)) (fun _ _ _ h => h) (Or.inl ⟨by rfl, ?_⟩) ?_ ?_
             rotate_left
             ·intro w'
              go_simp
              with_reducible rfl
             rotate_left
             ·exact apt
             refine pure_ (i := 12) (N := some 67) (v := ?_) (a' := ?_) #[true, true, true, true, true, true, true, true, true, true, true, true, true, false, false, false, false, false, false] rfl rfl (any_of HT_.out (by kernel_rfl)) (fun _ _ _ h => h) (Or.inl ⟨by rfl, ?_⟩) ?_ ?_
             rotate_left
             ·intro w'
              go_simp
              with_reducible rfl
             rotate_left
             ·exact apt
             refine pure_ (i := 13) (N := some 68) (v := ?_) (a' := ?_) #[true, true, true, true, true, true, true, true, true, true, true, true, true, true, false, false, false, false, false] rfl rfl (any_of HT_.out (by kernel_rfl)) (fun _ _ _ h => h) (Or.inl ⟨by rfl, ?_⟩) ?_ ?_
             rotate_left
             ·intro w'
              go_simp
              with_reducible rfl
             rotate_left
             ·exact apt
             refine one_ (i := 14) (N := some 14) #[true, true, true, true, true, true, true, true, true, true, true, true, true, true, true, false, false, false, false] rfl rfl (one_of HT_.out (by kernel_rfl)) (by decide) (fun K hK => ?_)
             refine box_step ?hg (N := 14) ?hd (cs := #[.int .i64 0, .int .i64 0, .int .i64 0, .int .i64 0, .bool false]) (t := 71) ?hr ?_; (case hd => rfl); (case hg => rfl); (case hr => first | (go_simp; done) | (go_simp; rfl))
             intro gb566 hg w50 hbox hb
             have HS3_ := (hb.cell (World.block_lt_of_cell? _ _ (hHeld.2.2.2.1))).trans (hHeld.2.2.2.1)
             have HS4_ := (hb.cell (World.block_lt_of_cell? _ _ (hHeld.2.2.2.2.1))).trans (hHeld.2.2.2.2.1)
             have HS5_ := (hb.cell (World.block_lt_of_cell? _ _ (hHeld.2.2.2.2.2.1))).trans (hHeld.2.2.2.2.2.1)
             have HS6_ := (hb.cell (World.block_lt_of_cell? _ _ (hHeld.2.2.2.2.2.2))).trans (hHeld.2.2.2.2.2.2)
             have BK566 := Aside0.mk (hbox)
             have GW566 := gwa w hg
             have GE566 := gwa w hg
             have NB539_566 := nal BK539 hg
             have NB566_539 := nag BK539 hg
             have NB556_566 := nal BK556 hg
             have NB566_556 := nag BK556 hg
             replace HO_8 := hoa HO_8 hb
             replace BK539 := bka BK539 hb
             replace BK556 := bka BK556 hb
             replace HB := hba hb
             clear hb hbox hg
             refine hK.out _ _ ⟨(blk_cell BK539.out 0).trans rfl, (blk_cell BK539.out 1).trans rfl, (blk_cell BK539.out 2).trans rfl, HS3_, HS4_, HS5_, HS6_⟩ (fun hHeld => ?_)
             clear hK K
             refine norm_ (a' := ?_) ?_ ?_
             rotate_left
             ·show Act.put _ (some 14) _ = _
              simp only [Act.put, List.setIfInBounds_toArray, List.set_cons_zero, List.set_cons_succ, i64_w, i32_w]
              rfl
             exact norm_ (by simp only [putAll, Act.put, List.setIfInBounds_toArray, List.set_cons_zero, List.set_cons_succ]) (hCont (gb566) _ ⟨hHeld, (krl HO_8), (by (with_reducible repeat (first | refine blk_drewN ?_ _ | refine blk_drew ?_ | refine blk_alloc ?_ _)); exact BK539.out), (by (with_reducible repeat (first | refine blk_drewN ?_ _ | refine blk_drew ?_ | refine blk_alloc ?_ _)); exact BK556.out), (by (with_reducible repeat (first | refine blk_drewN ?_ _ | refine blk_drew ?_ | refine blk_alloc ?_ _)); exact BK566.out), GW566.out, GE566.out, NB539_566.out, NB566_539.out, NB556_566.out, NB566_556.out, bel⟩)
            ·skip
             refine box_step ?hg (N := 14) ?hd (cs := #[.int .i64 0, .int .i64 0, .int .i64 0, .int .i64 0, .bool false]) (t := 71) ?hr ?_; (case hd => rfl); (case hg => rfl); (case hr => first | (go_simp; done) | (go_simp; rfl))
             intro gb566 hg w49 hbox hb
             have HS3_ := (hb.cell (World.block_lt_of_cell? _ _ (hHeld.2.2.2.1))).trans (hHeld.2.2.2.1)
             have HS4_ := (hb.cell (World.block_lt_of_cell? _ _ (hHeld.2.2.2.2.1))).trans (hHeld.2.2.2.2.1)
             have HS5_ := (hb.cell (World.block_lt_of_cell? _ _ (hHeld.2.2.2.2.2.1))).trans (hHeld.2.2.2.2.2.1)
             have HS6_ := (hb.cell (World.block_lt_of_cell? _ _ (hHeld.2.2.2.2.2.2))).trans (hHeld.2.2.2.2.2.2)
             have BK566 := Aside0.mk (hbox)
             have GW566 := gwa w hg
             have GE566 := gwa w hg
             have NB539_566 := nal BK539 hg
             have NB566_539 := nag BK539 hg
             have NB556_566 := nal BK556 hg
             have NB566_556 := nag BK556 hg
             replace HO_8 := hoa HO_8 hb
             replace BK539 := bka BK539 hb
             replace BK556 := bka BK556 hb
             replace HB := hba hb
             clear hb hbox hg
             refine hK.out _ _ ⟨(blk_cell BK539.out 0).trans rfl, (blk_cell BK539.out 1).trans rfl, (blk_cell BK539.out 2).trans rfl, HS3_, HS4_, HS5_, HS6_⟩ (fun hHeld => ?_)
             clear hK K
             refine norm_ (a' := ?_) ?_ ?_
             rotate_left
             ·show Act.put _ (some 14) _ = _
              simp only [Act.put, List.setIfInBounds_toArray, List.set_cons_zero, List.set_cons_succ, i64_w, i32_w]
              rfl
             refine one_ (i := 8) (N := some 64) #[true, true, true, true, true, true, true, true, true, false, false, false, false, false, true, false, false, false, false] rfl rfl (one_of HT_.out (by kernel_rfl)) (by decide) (fun K hK => ?_)
             refine goes_ Try.func63 (by kernel_rfl) rfl #[.agg #[.int .i64 a0_0, .int .i64 a0_1, .slice A0_2 l0_2.length c0_2], .agg #[.int .i64 a0_0, .int .i64 0, .int .i64 0, .int .i64 0, .bool false], .agg #[.int .i64 ((rd_T78 t543 x13_2).f0), .int .i64 ((rd_T78 t543 x13_2).f1), .int .i64 ((rd_T78 t543 x13_2).f2), .int .i64 ((rd_T78 t543 x13_2).f3)]] (by rfl) rfl rfl gla ?_
             with_reducible refine (contract_Judge.calls a0_0 a0_1 _ _ l0_2 a0_0 0 0 0 false ((rd_T78 t543 x13_2).f0) ((rd_T78 t543 x13_2).f1) ((rd_T78 t543 x13_2).f2) ((rd_T78 t543 x13_2).f3) t558 t559 t560 t561 t562 t563 t564 t565 _ ?side1 ?side2 A36.out).mono ?_
             (case side1 => repeat (first | exact (Kd.C_below HR0_2.out HB.out) | (with_reducible refine Kd.C_alloc ?_ _) | (with_reducible refine Kd.C_drewN ?_ _) | (with_reducible refine Kd.C_drew ?_)))
             (case side2 => exact HC0_2.out)
             rintro e w50 ⟨rfl, hb⟩
             have HS3_ := (hb.cell (World.block_lt_of_cell? _ _ (hHeld.2.2.2.1))).trans (hHeld.2.2.2.1)
             have HS4_ := (hb.cell (World.block_lt_of_cell? _ _ (hHeld.2.2.2.2.1))).trans (hHeld.2.2.2.2.1)
             have HS5_ := (hb.cell (World.block_lt_of_cell? _ _ (hHeld.2.2.2.2.2.1))).trans (hHeld.2.2.2.2.2.1)
             have HS6_ := (hb.cell (World.block_lt_of_cell? _ _ (hHeld.2.2.2.2.2.2))).trans (hHeld.2.2.2.2.2.2)
             refine ⟨_, rfl, ?_⟩
             replace HO_8 := hoa HO_8 hb
             replace BK539 := bka BK539 hb
             replace BK556 := bka BK556 hb
             replace BK566 := bka BK566 hb
             replace HB := hba hb
             (try clear hb)
             (try clear hb2)
             (try clear hk)
             (try clear hi)
             refine hK.out _ _ ⟨(blk_cell BK539.out 0).trans rfl, (blk_cell BK539.out 1).trans rfl, (blk_cell BK539.out 2).trans rfl, HS3_, HS4_, HS5_, HS6_⟩ (fun hHeld => ?_)
             clear hK K
             refine norm_ (a' := ?_) ?_ ?_
             rotate_left
             ·show Act.put _ (some 64) _ = _
              simp only [Act.put, List.setIfInBounds_toArray, List.set_cons_zero, List.set_cons_succ, i64_w, i32_w]
              rfl
             refine pure_ (i := 9) (N := some 55) (v := ?_) (a' := ?_) #[true, true, true, true, true, true, true, true, true, true, false, false, false, false, true, false, false, false, false] rfl rfl (any_of HT_.out (by kernel_rfl)) (fun _ _ _ h => h) (Or.inl ⟨by rfl, ?_⟩) ?_ ?_
             rotate_left
             ·intro w'
              go_simp
              with_reducible rfl
             rotate_left
             ·exact apt
             refine pure_ (i := 10) (N := some 65) (v := ?_) (a' := ?_) #[true, true, true, true, true, true, true, true, true, true, true, false, false, false, true, false, false, false, false] rfl rfl (any_of HT_.out (by kernel_rfl)) (fun _ _ _ h => h) (Or.inl ⟨by rfl, ?_⟩) ?_ ?_
             rotate_left
             ·intro w'
              go_simp
              with_reducible rfl
             rotate_left
             ·exact apt
             refine pure_ (i := 11) (N := some 66) (v := ?_) (a' := ?_) #[true, true, true, true, true, true, true, true, true, true, true, true, false, false, true, false, false, false, false] rfl rfl (any_of HT_.out (by kernel_rfl)) (fun _ _ _ h => h) (Or.inl ⟨by rfl, ?_⟩) ?_ ?_
             rotate_left
             ·intro w'
              go_simp
              with_reducible rfl
             rotate_left
             ·exact apt
             refine pure_ (i := 12) (N := some 67) (v := ?_) (a' := ?_) #[true, true, true, true, true, true, true, true, true, true, true, true, true, false, true, false, false, false, false] rfl rfl (any_of HT_.out (by kernel_rfl)) (fun _ _ _ h => h) (Or.inl ⟨by rfl, ?_⟩) ?_ ?_
             rotate_left
             ·intro w'
              go_simp
              with_reducible rfl
             rotate_left
             ·exact apt
             refine pure_ (i := 13) (N := some 68) (v := ?_) (a' := ?_) #[true, true, true, true, true, true, true, true, true, true, true, true, true, true, true, false, false, false, false] rfl rfl (any_of HT_.out (by kernel_rfl)) (fun _ _ _ h => h) (Or.inl ⟨by rfl, ?_⟩) ?_ ?_
             rotate_left
             ·intro w'
              go_simp
              with_reducible rfl
             rotate_left
             ·exact apt
             exact norm_ (by simp only [putAll, Act.put, List.setIfInBounds_toArray, List.set_cons_zero, List.set_cons_succ]) (hCont (gb566) _ ⟨hHeld, (krl HO_8), (by (with_reducible repeat (first | refine blk_drewN ?_ _ | refine blk_drew ?_ | refine blk_alloc ?_ _)); exact BK539.out), (by (with_reducible repeat (first | refine blk_drewN ?_ _ | refine blk_drew ?_ | refine blk_alloc ?_ _)); exact BK556.out), (by (with_reducible repeat (first | refine blk_drewN ?_ _ | refine blk_drew ?_ | refine blk_alloc ?_ _)); exact BK566.out), GW566.out, GE566.out, NB539_566.out, NB566_539.out, NB556_566.out, NB566_556.out, bel⟩)
           rintro gb566 w51 ⟨hS_, h0_, h1_, h2_, h3_, h4_, h5_, h6_, h7_, h8_, h9_, h10_⟩
           have n0_ : Aside0 (Kd.R k78 78 w51 w.heap.size (fun _ => True) (.slice (some ad557) t543.length co29) t543) := ⟨h0_⟩
           have n1_ : Aside0 (w51.heap[gb539]? = some (.cells #[.int .i64 a0_0, .int .i64 a0_1, .slice A0_2 l0_2.length c0_2] 69 (0, 0))) := ⟨h1_⟩
           have n2_ : Aside0 (w51.heap[gb556]? = some (.cells #[.int .i64 t547, .int .i64 t548, .int .i64 t549, .int .i64 t550, .bool t551] 71 (0, 0))) := ⟨h2_⟩
           have n3_ : Aside0 (w51.heap[gb566]? = some (.cells #[.int .i64 0, .int .i64 0, .int .i64 0, .int .i64 0, .bool false] 71 (0, 0))) := ⟨h3_⟩
           have n4_ : Aside0 (w.heap.size ≤ gb566) := ⟨h4_⟩
           have n5_ : Aside0 (w.heap.size ≤ gb566) := ⟨h5_⟩
           have n6_ : Aside0 (gb539 ≠ gb566) := ⟨h6_⟩
           have n7_ : Aside0 (gb566 ≠ gb539) := ⟨h7_⟩
           have n8_ : Aside0 (gb556 ≠ gb566) := ⟨h8_⟩
           have n9_ : Aside0 (gb566 ≠ gb556) := ⟨h9_⟩
           have n10_ : Aside0 (Below w.heap.size w w51) := ⟨h10_⟩
           clear HO_8
           clear BK539
           clear BK556
           clear HB
           clear h0_ h1_ h2_ h3_ h4_ h5_ h6_ h7_ h8_ h9_ h10_
           have HO_8 := n0_
           have BK539 := n1_
           have BK556 := n2_
           have BK566 := n3_
           have GW566 := n4_
           have GE566 := n5_
           have NB539_566 := n6_
           have NB566_539 := n7_
           have NB556_566 := n8_
           have NB566_556 := n9_
           have HB := n10_
           clear n0_ n1_ n2_ n3_ n4_ n5_ n6_ n7_ n8_ n9_ n10_
           have hHeld : w51.cell? ⟨gb539, 0, none⟩ = some (.int .i64 a0_0) ∧ w51.cell? ⟨gb539, 1, none⟩ = some (.int .i64 a0_1) ∧ w51.cell? ⟨gb539, 2, none⟩ = some (.slice A0_2 l0_2.length c0_2) ∧ w51.cell? (ad557.add ((x13_2).toNat * 4)) = some (.int .i64 ((rd_T78 t543 x13_2).f0)) ∧ w51.cell? ⟨(ad557.add ((x13_2).toNat * 4)).block, (ad557.add ((x13_2).toNat * 4)).off + 1, none⟩ = some (.int .i64 ((rd_T78 t543 x13_2).f1)) ∧ w51.cell? ⟨(ad557.add ((x13_2).toNat * 4)).block, (ad557.add ((x13_2).toNat * 4)).off + 2, none⟩ = some (.int .i64 ((rd_T78 t543 x13_2).f2)) ∧ w51.cell? ⟨(ad557.add ((x13_2).toNat * 4)).block, (ad557.add ((x13_2).toNat * 4)).off + 3, none⟩ = some (.int .i64 ((rd_T78 t543 x13_2).f3)) := hS_
           refine norm_ (a' := ?_) ?_ ?_
           rotate_left
           ·simp only [putAll, Act.put, List.setIfInBounds_toArray, List.set_cons_zero, List.set_cons_succ]
            rfl
           refine one_ (i := 15) (N := none) #[true, true, true, true, true, true, true, true, true, true, true, true, true, true, true, true, false, false, false] rfl rfl (one_of HT_.out (by kernel_rfl)) (by decide) (fun K hK => ?_)
           have hs52 : w51.cell? ⟨gb566, 0, none⟩ = some (.int .i64 0) := (blk_cell BK566.out 0).trans rfl
           have hfs52 := blk_frozen BK566.out 0
           have hns52_0 := NB539_566.out
           have hns52_1 := NB556_566.out
           have hms52_0 := NB566_539.out
           have hms52_1 := NB566_556.out
           have hs53 : w51.cell? ⟨gb566, 1, none⟩ = some (.int .i64 0) := (blk_cell BK566.out 1).trans rfl
           have hfs53 := blk_frozen BK566.out 1
           have hns53_0 := NB539_566.out
           have hns53_1 := NB556_566.out
           have hms53_0 := NB566_539.out
           have hms53_1 := NB566_556.out
           have hs54 : w51.cell? ⟨gb566, 2, none⟩ = some (.int .i64 0) := (blk_cell BK566.out 2).trans rfl
           have hfs54 := blk_frozen BK566.out 2
           have hns54_0 := NB539_566.out
           have hns54_1 := NB556_566.out
           have hms54_0 := NB566_539.out
           have hms54_1 := NB566_556.out
           have hs55 : w51.cell? ⟨gb566, 3, none⟩ = some (.int .i64 0) := (blk_cell BK566.out 3).trans rfl
           have hfs55 := blk_frozen BK566.out 3
           have hns55_0 := NB539_566.out
           have hns55_1 := NB556_566.out
           have hms55_0 := NB566_539.out
           have hms55_1 := NB566_556.out
           have hs56 : w51.cell? ⟨gb566, 4, none⟩ = some (.bool false) := (blk_cell BK566.out 4).trans rfl
           have hfs56 := blk_frozen BK566.out 4
           have hns56_0 := NB539_566.out
           have hns56_1 := NB556_566.out
           have hms56_0 := NB566_539.out
           have hms56_1 := NB566_556.out
           refine skip_ (w1 := ?_) (by rfl) rfl ?_ ?_
           rotate_left
           ·go_simp
            rfl
           refine hK.out _ _ ⟨(cf5 NB539_566.out (hHeld.1)), (cf5 NB539_566.out (hHeld.2.1)), (cf5 NB539_566.out (hHeld.2.2.1)), ((cell_far (p := ⟨gb566, _, none⟩) (by first | exact Kd.own_blk (Kd.R_ne HO_8.out BK566.out (by decide)) | (rw [add_block]; exact Kd.own_blk (Kd.R_ne HO_8.out BK566.out (by decide))) | (show (Addr.add _ _).block ≠ _; rw [add_block]; exact Kd.own_blk (Kd.R_ne HO_8.out BK566.out (by decide))) | (dsimp only; exact Kd.own_blk (Kd.R_ne HO_8.out BK566.out (by decide)))) _).trans (((cell_far (p := ⟨gb566, _, none⟩) (by first | exact Kd.own_blk (Kd.R_ne HO_8.out BK566.out (by decide)) | (rw [add_block]; exact Kd.own_blk (Kd.R_ne HO_8.out BK566.out (by decide))) | (show (Addr.add _ _).block ≠ _; rw [add_block]; exact Kd.own_blk (Kd.R_ne HO_8.out BK566.out (by decide))) | (dsimp only; exact Kd.own_blk (Kd.R_ne HO_8.out BK566.out (by decide)))) _).trans (((cell_far (p := ⟨gb566, _, none⟩) (by first | exact Kd.own_blk (Kd.R_ne HO_8.out BK566.out (by decide)) | (rw [add_block]; exact Kd.own_blk (Kd.R_ne HO_8.out BK566.out (by decide))) | (show (Addr.add _ _).block ≠ _; rw [add_block]; exact Kd.own_blk (Kd.R_ne HO_8.out BK566.out (by decide))) | (dsimp only; exact Kd.own_blk (Kd.R_ne HO_8.out BK566.out (by decide)))) _).trans (((cell_far (p := ⟨gb566, _, none⟩) (by first | exact Kd.own_blk (Kd.R_ne HO_8.out BK566.out (by decide)) | (rw [add_block]; exact Kd.own_blk (Kd.R_ne HO_8.out BK566.out (by decide))) | (show (Addr.add _ _).block ≠ _; rw [add_block]; exact Kd.own_blk (Kd.R_ne HO_8.out BK566.out (by decide))) | (dsimp only; exact Kd.own_blk (Kd.R_ne HO_8.out BK566.out (by decide)))) _).trans (((cell_far (p := ⟨gb566, _, none⟩) (by first | exact Kd.own_blk (Kd.R_ne HO_8.out BK566.out (by decide)) | (rw [add_block]; exact Kd.own_blk (Kd.R_ne HO_8.out BK566.out (by decide))) | (show (Addr.add _ _).block ≠ _; rw [add_block]; exact Kd.own_blk (Kd.R_ne HO_8.out BK566.out (by decide))) | (dsimp only; exact Kd.own_blk (Kd.R_ne HO_8.out BK566.out (by decide)))) _).trans (hHeld.2.2.2.1)))))))))), ((cell_far (p := ⟨gb566, _, none⟩) (by first | exact Kd.own_blk (Kd.R_ne HO_8.out BK566.out (by decide)) | (rw [add_block]; exact Kd.own_blk (Kd.R_ne HO_8.out BK566.out (by decide))) | (show (Addr.add _ _).block ≠ _; rw [add_block]; exact Kd.own_blk (Kd.R_ne HO_8.out BK566.out (by decide))) | (dsimp only; exact Kd.own_blk (Kd.R_ne HO_8.out BK566.out (by decide)))) _).trans (((cell_far (p := ⟨gb566, _, none⟩) (by first | exact Kd.own_blk (Kd.R_ne HO_8.out BK566.out (by decide)) | (rw [add_block]; exact Kd.own_blk (Kd.R_ne HO_8.out BK566.out (by decide))) | (show (Addr.add _ _).block ≠ _; rw [add_block]; exact Kd.own_blk (Kd.R_ne HO_8.out BK566.out (by decide))) | (dsimp only; exact Kd.own_blk (Kd.R_ne HO_8.out BK566.out (by decide)))) _).trans (((cell_far (p := ⟨gb566, _, none⟩) (by first | exact Kd.own_blk (Kd.R_ne HO_8.out BK566.out (by decide)) | (rw [add_block]; exact Kd.own_blk (Kd.R_ne HO_8.out BK566.out (by decide))) | (show (Addr.add _ _).block ≠ _; rw [add_block]; exact Kd.own_blk (Kd.R_ne HO_8.out BK566.out (by decide))) | (dsimp only; exact Kd.own_blk (Kd.R_ne HO_8.out BK566.out (by decide)))) _).trans (((cell_far (p := ⟨gb566, _, none⟩) (by first | exact Kd.own_blk (Kd.R_ne HO_8.out BK566.out (by decide)) | (rw [add_block]; exact Kd.own_blk (Kd.R_ne HO_8.out BK566.out (by decide))) | (show (Addr.add _ _).block ≠ _; rw [add_block]; exact Kd.own_blk (Kd.R_ne HO_8.out BK566.out (by decide))) | (dsimp only; exact Kd.own_blk (Kd.R_ne HO_8.out BK566.out (by decide)))) _).trans (((cell_far (p := ⟨gb566, _, none⟩) (by first | exact Kd.own_blk (Kd.R_ne HO_8.out BK566.out (by decide)) | (rw [add_block]; exact Kd.own_blk (Kd.R_ne HO_8.out BK566.out (by decide))) | (show (Addr.add _ _).block ≠ _; rw [add_block]; exact Kd.own_blk (Kd.R_ne HO_8.out BK566.out (by decide))) | (dsimp only; exact Kd.own_blk (Kd.R_ne HO_8.out BK566.out (by decide)))) _).trans (hHeld.2.2.2.2.1)))))))))), ((cell_far (p := ⟨gb566, _, none⟩) (by first | exact Kd.own_blk (Kd.R_ne HO_8.out BK566.out (by decide)) | (rw [add_block]; exact Kd.own_blk (Kd.R_ne HO_8.out BK566.out (by decide))) | (show (Addr.add _ _).block ≠ _; rw [add_block]; exact Kd.own_blk (Kd.R_ne HO_8.out BK566.out (by decide))) | (dsimp only; exact Kd.own_blk (Kd.R_ne HO_8.out BK566.out (by decide)))) _).trans (((cell_far (p := ⟨gb566, _, none⟩) (by first | exact Kd.own_blk (Kd.R_ne HO_8.out BK566.out (by decide)) | (rw [add_block]; exact Kd.own_blk (Kd.R_ne HO_8.out BK566.out (by decide))) | (show (Addr.add _ _).block ≠ _; rw [add_block]; exact Kd.own_blk (Kd.R_ne HO_8.out BK566.out (by decide))) | (dsimp only; exact Kd.own_blk (Kd.R_ne HO_8.out BK566.out (by decide)))) _).trans (((cell_far (p := ⟨gb566, _, none⟩) (by first | exact Kd.own_blk (Kd.R_ne HO_8.out BK566.out (by decide)) | (rw [add_block]; exact Kd.own_blk (Kd.R_ne HO_8.out BK566.out (by decide))) | (show (Addr.add _ _).block ≠ _; rw [add_block]; exact Kd.own_blk (Kd.R_ne HO_8.out BK566.out (by decide))) | (dsimp only; exact Kd.own_blk (Kd.R_ne HO_8.out BK566.out (by decide)))) _).trans (((cell_far (p := ⟨gb566, _, none⟩) (by first | exact Kd.own_blk (Kd.R_ne HO_8.out BK566.out (by decide)) | (rw [add_block]; exact Kd.own_blk (Kd.R_ne HO_8.out BK566.out (by decide))) | (show (Addr.add _ _).block ≠ _; rw [add_block]; exact Kd.own_blk (Kd.R_ne HO_8.out BK566.out (by decide))) | (dsimp only; exact Kd.own_blk (Kd.R_ne HO_8.out BK566.out (by decide)))) _).trans (((cell_far (p := ⟨gb566, _, none⟩) (by first | exact Kd.own_blk (Kd.R_ne HO_8.out BK566.out (by decide)) | (rw [add_block]; exact Kd.own_blk (Kd.R_ne HO_8.out BK566.out (by decide))) | (show (Addr.add _ _).block ≠ _; rw [add_block]; exact Kd.own_blk (Kd.R_ne HO_8.out BK566.out (by decide))) | (dsimp only; exact Kd.own_blk (Kd.R_ne HO_8.out BK566.out (by decide)))) _).trans (hHeld.2.2.2.2.2.1)))))))))), ((cell_far (p := ⟨gb566, _, none⟩) (by first | exact Kd.own_blk (Kd.R_ne HO_8.out BK566.out (by decide)) | (rw [add_block]; exact Kd.own_blk (Kd.R_ne HO_8.out BK566.out (by decide))) | (show (Addr.add _ _).block ≠ _; rw [add_block]; exact Kd.own_blk (Kd.R_ne HO_8.out BK566.out (by decide))) | (dsimp only; exact Kd.own_blk (Kd.R_ne HO_8.out BK566.out (by decide)))) _).trans (((cell_far (p := ⟨gb566, _, none⟩) (by first | exact Kd.own_blk (Kd.R_ne HO_8.out BK566.out (by decide)) | (rw [add_block]; exact Kd.own_blk (Kd.R_ne HO_8.out BK566.out (by decide))) | (show (Addr.add _ _).block ≠ _; rw [add_block]; exact Kd.own_blk (Kd.R_ne HO_8.out BK566.out (by decide))) | (dsimp only; exact Kd.own_blk (Kd.R_ne HO_8.out BK566.out (by decide)))) _).trans (((cell_far (p := ⟨gb566, _, none⟩) (by first | exact Kd.own_blk (Kd.R_ne HO_8.out BK566.out (by decide)) | (rw [add_block]; exact Kd.own_blk (Kd.R_ne HO_8.out BK566.out (by decide))) | (show (Addr.add _ _).block ≠ _; rw [add_block]; exact Kd.own_blk (Kd.R_ne HO_8.out BK566.out (by decide))) | (dsimp only; exact Kd.own_blk (Kd.R_ne HO_8.out BK566.out (by decide)))) _).trans (((cell_far (p := ⟨gb566, _, none⟩) (by first | exact Kd.own_blk (Kd.R_ne HO_8.out BK566.out (by decide)) | (rw [add_block]; exact Kd.own_blk (Kd.R_ne HO_8.out BK566.out (by decide))) | (show (Addr.add _ _).block ≠ _; rw [add_block]; exact Kd.own_blk (Kd.R_ne HO_8.out BK566.out (by decide))) | (dsimp only; exact Kd.own_blk (Kd.R_ne HO_8.out BK566.out (by decide)))) _).trans (((cell_far (p := ⟨gb566, _, none⟩) (by first | exact Kd.own_blk (Kd.R_ne HO_8.out BK566.out (by decide)) | (rw [add_block]; exact Kd.own_blk (Kd.R_ne HO_8.out BK566.out (by decide))) | (show (Addr.add _ _).block ≠ _; rw [add_block]; exact Kd.own_blk (Kd.R_ne HO_8.out BK566.out (by decide))) | (dsimp only; exact Kd.own_blk (Kd.R_ne HO_8.out BK566.out (by decide)))) _).trans (hHeld.2.2.2.2.2.2))))))))))⟩ (fun hHeld => ?_)
           clear hK K
           refine pure_ (i := 16) (N := some 15) (v := ?_) (a' := ?_) #[true, true, true, true, true, true, true, true, true, true, true, true, true, true, true, true, true, false, false] rfl rfl (any_of HT_.out (by kernel_rfl)) (fun _ _ _ h => h) (Or.inl ⟨by rfl, ?_⟩) ?_ ?_
           rotate_left
           ·intro w'
            go_simp
            with_reducible rfl
           rotate_left
           ·exact apt
           refine pure_ (i := 17) (N := some 16) (v := ?_) (a' := ?_) #[true, true, true, true, true, true, true, true, true, true, true, true, true, true, true, true, true, true, false] rfl rfl (any_of HT_.out (by kernel_rfl)) (fun _ _ _ h => h) (Or.inl ⟨by rfl, ?_⟩) ?_ ?_
           rotate_left
           ·intro w'
            go_simp
            with_reducible rfl
           rotate_left
           ·exact apt
           refine pure_ (i := 18) (N := some 17) (v := ?_) (a' := ?_) #[true, true, true, true, true, true, true, true, true, true, true, true, true, true, true, true, true, true, true] rfl rfl (any_of HT_.out (by kernel_rfl)) (fun _ _ _ h => h) (Or.inl ⟨by rfl, ?_⟩) ?_ ?_
           rotate_left
           ·intro w'
            go_simp
            with_reducible rfl
           rotate_left
           ·exact apt
           refine done_ (done_of HT_.out (by kernel_rfl)) ?_
           try go_wp2
           go_roundg k2
           case measure => have := HJ4.out; have := HK2.out; omega
           case rel => exact ⟨(false), (wrap64 (x13_2 + 1)), (by first | rfl | (simp; done) | (simp [*]; done)), (by first | rfl | (simp; done) | (simp [*]; done)), H', ⟨by have := HJ4.out; have := HK2.out; omega⟩, ⟨by (with_reducible repeat (first | apply Kd.R_alloc | apply Kd.R_drewN | apply Kd.R_drew)); exact Kd.R_mono (Kd.R_far (p := ⟨gb566, 4, none⟩) (Kd.R_far (p := ⟨gb566, 3, none⟩) (Kd.R_far (p := ⟨gb566, 2, none⟩) (Kd.R_far (p := ⟨gb566, 1, none⟩) (Kd.R_far (p := ⟨gb566, 0, none⟩) (Kd.R_types HO_8.out BK566.out (by decide)) (fun _ hk => hk.2) (.int .i64 t558)) (fun _ hk => hk.2) (.int .i64 t559)) (fun _ hk => hk.2) (.int .i64 t560)) (fun _ hk => hk.2) (.int .i64 t561)) (fun _ hk => hk.2) (.bool t562)) (fun _ hk => trivial)⟩, ⟨bkf BK539⟩, ⟨bkf BK556⟩, ⟨bel⟩⟩
         ·replace c37 := Bool.eq_false_iff.mpr c37
          subst c37
          rw [if_neg (show ¬ (false = true) by decide)] at H
          have H' := Aside0.mk H
          clear H
          try go_wp2
          replace HO_8 := Aside0.mk (Kd.R_drew HO_8.out)
          replace BK539 := Aside0.mk (blk_drew BK539.out)
          replace BK556 := Aside0.mk (blk_drew BK556.out)
          replace HB := Aside0.mk (below_drew1 HB.out)
          have p557 : 0 ≤ (x13_2 : Int) := of_decide_eq_true (by first | (with_reducible assumption) | assumption)
          have q557 : x13_2 < (t543.length : Int) := of_decide_eq_true (by first | (with_reducible assumption) | assumption)
          obtain ⟨ad557, e557, hx557_0, hx557_1, hx557_2, hx557_3⟩ := at_T78 (Kd.R_reads' HO_8.out).2.2 x13_2 p557 q557
          cases e557
          replace p557 := eq_true p557
          replace q557 := eq_true q557
          refine start_ (n := 19) (S := fun w' => w'.cell? ⟨gb539, 0, none⟩ = some (.int .i64 a0_0) ∧ w'.cell? ⟨gb539, 1, none⟩ = some (.int .i64 a0_1) ∧ w'.cell? ⟨gb539, 2, none⟩ = some (.slice A0_2 l0_2.length c0_2) ∧ w'.cell? (ad557.add ((x13_2).toNat * 4)) = some (.int .i64 ((rd_T78 t543 x13_2).f0)) ∧ w'.cell? ⟨(ad557.add ((x13_2).toNat * 4)).block, (ad557.add ((x13_2).toNat * 4)).off + 1, none⟩ = some (.int .i64 ((rd_T78 t543 x13_2).f1)) ∧ w'.cell? ⟨(ad557.add ((x13_2).toNat * 4)).block, (ad557.add ((x13_2).toNat * 4)).off + 2, none⟩ = some (.int .i64 ((rd_T78 t543 x13_2).f2)) ∧ w'.cell? ⟨(ad557.add ((x13_2).toNat * 4)).block, (ad557.add ((x13_2).toNat * 4)).off + 3, none⟩ = some (.int .i64 ((rd_T78 t543 x13_2).f3))) (ds := []) #[false, false, false, false, false, false, false, false, false, false, false, false, false, false, false, false, false, false, false] (by kernel_rfl) rfl rfl ⟨(blk_cell BK539.out 0).trans rfl, (blk_cell BK539.out 1).trans rfl, (blk_cell BK539.out 2).trans rfl, hx557_0, hx557_1, hx557_2, hx557_3⟩ (fun hHeld => ?_); refine with_tabW formelaw38_ContractHonest.tab11 formelaw38_ContractHonest.bits11 (fun HT_ HW_ => ?_)
          generalize wr.drew = w57 at HO_8 BK539 BK556 HB hx557_0 hx557_1 hx557_2 hx557_3 hHeld ⊢
          refine pure_ (i := 1) (N := some 57) (v := ?_) (a' := ?_) #[false, true, false, false, false, false, false, false, false, false, false, false, false, false, false, false, false, false, false] rfl rfl (any_of HT_.out (by kernel_rfl)) (fun _ _ _ h => h) (Or.inl ⟨by rfl, ?_⟩) ?_ ?_
          rotate_left
          ·intro w'
           go_simp
           with_reducible rfl
          rotate_left
          ·exact apt
          refine pure_ (i := 4) (N := some 60) (v := ?_) (a' := ?_) #[false, true, false, false, true, false, false, false, false, false, false, false, false, false, false, false, false, false, false] rfl rfl (any_of HT_.out (by kernel_rfl)) (fun _ _ _ h => h) (Or.inl ⟨by rfl, ?_⟩) ?_ ?_
          rotate_left
          ·intro w'
           go_simp
           with_reducible rfl
          rotate_left
          ·exact apt
          refine pure_ (i := 5) (N := some 61) (v := ?_) (a' := ?_) #[false, true, false, false, true, true, false, false, false, false, false, false, false, false, false, false, false, false, false] rfl rfl (any_of HT_.out (by kernel_rfl)) (fun _ _ _ h => h) (Or.inl ⟨by rfl, ?_⟩) ?_ ?_
          rotate_left
          ·intro w'
           go_simp
           with_reducible rfl
          rotate_left
          ·exact apt
          refine pure_ (i := 6) (N := some 62) (v := ?_) (a' := ?_) #[false, true, false, false, true, true, true, false, false, false, false, false, false, false, false, false, false, false, false] rfl rfl (any_of HT_.out (by kernel_rfl)) (fun _ _ _ h => h) (Or.inl ⟨by rfl, ?_⟩) ?_ ?_
          rotate_left
          ·intro w'
           go_simp
           with_reducible rfl
          rotate_left
          ·exact apt
          refine take_ (i := 0) (N := some 56) (v := ?_) (a' := ?_) #[true, true, false, false, true, true, true, false, false, false, false, false, false, false, false, false, false, false, false] rfl rfl (take_ofW HT_.out HW_.out (by kernel_rfl)) (fun _ _ _ h => h) (Or.inl ⟨by rfl, ?_⟩) hHeld ?_ ?_
          rotate_left
          ·rintro w' ⟨s0, s1, s2, s3, s4, s5, s6⟩
           go_simp
           with_reducible rfl
          rotate_left
          ·exact apt
          refine take_ (i := 2) (N := some 58) (v := ?_) (a' := ?_) #[true, true, true, false, true, true, true, false, false, false, false, false, false, false, false, false, false, false, false] rfl rfl (take_ofW HT_.out HW_.out (by kernel_rfl)) (fun _ _ _ h => h) (Or.inl ⟨by rfl, ?_⟩) hHeld ?_ ?_
          rotate_left
          ·rintro w' ⟨s0, s1, s2, s3, s4, s5, s6⟩
           go_simp
           with_reducible rfl
          rotate_left
          ·exact apt
          refine pure_ (i := 3) (N := some 59) (v := ?_) (a' := ?_) #[true, true, true, true, true, true, true, false, false, false, false, false, false, false, false, false, false, false, false] rfl rfl (any_of HT_.out (by kernel_rfl)) (fun _ _ _ h => h) (Or.inl ⟨by rfl, ?_⟩) ?_ ?_
          rotate_left
          ·intro w'
           go_simp
           with_reducible rfl
          rotate_left
          ·exact apt
          refine take_ (i := 7) (N := some 63) (v := ?_) (a' := ?_) #[true, true, true, true, true, true, true, true, false, false, false, false, false, false, false, false, false, false, false] rfl rfl (take_ofW HT_.out HW_.out (by kernel_rfl)) (fun _ _ _ h => h) (Or.inl ⟨by rfl, ?_⟩) hHeld ?_ ?_
          rotate_left
          ·rintro w' ⟨s0, s1, s2, s3, s4, s5, s6⟩
           go_simp
           with_reducible rfl
          rotate_left
          ·exact apt
          refine join_ (σ := Nat) 4 #[true, true, true, true, true, true, true, true, true, true, true, true, true, true, true, false, false, false, false] (fun s_ => [(64, .tuple #[.agg #[.int .i64 t558, .int .i64 t559, .int .i64 t560, .int .i64 t561, .bool t562], .int .i64 t563, .bool t564, .int .i64 t565]), (14, .pointer (some ⟨s_, 0, none⟩)), (55, .tuple #[.agg #[.int .i64 t558, .int .i64 t559, .int .i64 t560, .int .i64 t561, .bool t562], .int .i64 t563, .bool t564, .int .i64 t565]), (65, .agg #[.int .i64 t558, .int .i64 t559, .int .i64 t560, .int .i64 t561, .bool t562]), (66, .int .i64 t563), (67, .bool t564), (68, .int .i64 t565)]) (fun s_ w' => (w'.cell? ⟨gb539, 0, none⟩ = some (.int .i64 a0_0) ∧ w'.cell? ⟨gb539, 1, none⟩ = some (.int .i64 a0_1) ∧ w'.cell? ⟨gb539, 2, none⟩ = some (.slice A0_2 l0_2.length c0_2) ∧ w'.cell? (ad557.add ((x13_2).toNat * 4)) = some (.int .i64 ((rd_T78 t543 x13_2).f0)) ∧ w'.cell? ⟨(ad557.add ((x13_2).toNat * 4)).block, (ad557.add ((x13_2).toNat * 4)).off + 1, none⟩ = some (.int .i64 ((rd_T78 t543 x13_2).f1)) ∧ w'.cell? ⟨(ad557.add ((x13_2).toNat * 4)).block, (ad557.add ((x13_2).toNat * 4)).off + 2, none⟩ = some (.int .i64 ((rd_T78 t543 x13_2).f2)) ∧ w'.cell? ⟨(ad557.add ((x13_2).toNat * 4)).block, (ad557.add ((x13_2).toNat * 4)).off + 3, none⟩ = some (.int .i64 ((rd_T78 t543 x13_2).f3))) ∧ (Kd.R k78 78 w' w.heap.size (fun _ => True) (.slice (some ad557) t543.length co29) t543) ∧ (w'.heap[gb539]? = some (.cells #[.int .i64 a0_0, .int .i64 a0_1, .slice A0_2 l0_2.length c0_2] 69 (0, 0))) ∧ (w'.heap[gb556]? = some (.cells #[.int .i64 t547, .int .i64 t548, .int .i64 t549, .int .i64 t550, .bool t551] 71 (0, 0))) ∧ (w'.heap[s_]? = some (.cells #[.int .i64 0, .int .i64 0, .int .i64 0, .int .i64 0, .bool false] 71 (0, 0))) ∧ (w.heap.size ≤ s_) ∧ (w.heap.size ≤ s_) ∧ (gb539 ≠ s_) ∧ (s_ ≠ gb539) ∧ (gb556 ≠ s_) ∧ (s_ ≠ gb556) ∧ (Below w.heap.size w w')) ?_ ?_
          rotate_left
          ·intro hCont
           refine two_ (i := 8) (j := 14) (Ni := some 64) (Nj := some 14) #[true, true, true, true, true, true, true, true, true, false, false, false, false, false, false, false, false, false, false] #[true, true, true, true, true, true, true, true, false, false, false, false, false, false, true, false, false, false, false] rfl rfl rfl rfl (two_of HT_.out (by kernel_rfl)) (by decide) (by decide) (fun K hK => ?_) (fun K hK => ?_)
           ·skip
            refine goes_ Try.func63 (by kernel_rfl) rfl #[.agg #[.int .i64 a0_0, .int .i64 a0_1, .slice A0_2 l0_2.length c0_2], .agg #[.int .i64 a0_0, .int .i64 0, .int .i64 0, .int .i64 0, .bool false], .agg #[.int .i64 ((rd_T78 t543 x13_2).f0), .int .i64 ((rd_T78 t543 x13_2).f1), .int .i64 ((rd_T78 t543 x13_2).f2), .int .i64 ((rd_T78 t543 x13_2).f3)]] (by rfl) rfl rfl gla ?_
            with_reducible refine (contract_Judge.calls a0_0 a0_1 _ _ l0_2 a0_0 0 0 0 false ((rd_T78 t543 x13_2).f0) ((rd_T78 t543 x13_2).f1) ((rd_T78 t543 x13_2).f2) ((rd_T78 t543 x13_2).f3) t558 t559 t560 t561 t562 t563 t564 t565 _ ?side1 ?side2 A36.out).mono ?_
            (case side1 => repeat (first | exact (Kd.C_below HR0_2.out HB.out) | (with_reducible refine Kd.C_alloc ?_ _) | (with_reducible refine Kd.C_drewN ?_ _) | (with_reducible refine Kd.C_drew ?_)))
            (case side2 => exact HC0_2.out)
            rintro e w58 ⟨rfl, hb⟩
            have HS3_ := (hb.cell (World.block_lt_of_cell? _ _ (hHeld.2.2.2.1))).trans (hHeld.2.2.2.1)
            have HS4_ := (hb.cell (World.block_lt_of_cell? _ _ (hHeld.2.2.2.2.1))).trans (hHeld.2.2.2.2.1)
            have HS5_ := (hb.cell (World.block_lt_of_cell? _ _ (hHeld.2.2.2.2.2.1))).trans (hHeld.2.2.2.2.2.1)
            have HS6_ := (hb.cell (World.block_lt_of_cell? _ _ (hHeld.2.2.2.2.2.2))).trans (hHeld.2.2.2.2.2.2)
            refine ⟨_, rfl, ?_⟩
            replace HO_8 := hoa HO_8 hb
            replace BK539 := bka BK539 hb
            replace BK556 := bka BK556 hb
            replace HB := hba hb
            (try clear hb)
            (try clear hb2)
            (try clear hk)
            (try clear hi)
            refine hK.out _ _ ⟨(blk_cell BK539.out 0).trans rfl, (blk_cell BK539.out 1).trans rfl, (blk_cell BK539.out 2).trans rfl, HS3_, HS4_, HS5_, HS6_⟩ (fun hHeld => ?_)
            clear hK K
            refine norm_ (a' := ?_) ?_ ?_
            rotate_left
            ·show Act.put _ (some 64) _ = _
             simp only [Act.put, List.setIfInBounds_toArray, List.set_cons_zero, List.set_cons_succ, i64_w, i32_w]
             rfl
            refine pure_ (i := 9) (N := some 55) (v := ?_) (a' := ?_) #[true, true, true, true, true, true, true, true, true, true, false, false, false, false, false, false, false, false, false] rfl rfl (any_of HT_.out (by kernel_rfl)) (fun _ _ _ h => h) (Or.inl ⟨by rfl, ?_⟩) ?_ ?_
            rotate_left
            ·intro w'
             go_simp
             with_reducible rfl
            rotate_left
            ·exact apt
            refine pure_ (i := 10) (N := some 65) (v := ?_) (a' := ?_) #[true, true, true, true, true, true, true, true, true, true, true, false, false, false, false, false, false, false, false] rfl rfl (any_of HT_.out (by kernel_rfl)) (fun _ _ _ h => h) (Or.inl ⟨by rfl, ?_⟩) ?_ ?_
            rotate_left
            ·intro w'
             go_simp
             with_reducible rfl
            rotate_left
            ·exact apt
            refine pure_ (i := 11) (N := some 66) (v := ?_) (a' := ?_) #[true, true, true, true, true, true, true, true, true, true, true, true, false, false, false, false, false, false, false] rfl rfl (any_of HT_.out (by kernel_rfl)) (fun _ _ _ h => h) (Or.inl ⟨by rfl, ?_⟩) ?_ ?_
            rotate_left
            ·intro w'
             go_simp
             with_reducible rfl
            rotate_left
            ·exact apt
            refine pure_ (i := 12) (N := some 67) (v := ?_) (a' := ?_) #[true, true, true, true, true, true, true, true, true, true, true, true, true, false, false, false, false, false, false] rfl rfl (any_of HT_.out (by kernel_rfl)) (fun _ _ _ h => h) (Or.inl ⟨by rfl, ?_⟩) ?_ ?_
            rotate_left
            ·intro w'
             go_simp
             with_reducible rfl
            rotate_left
            ·exact apt
            refine pure_ (i := 13) (N := some 68) (v := ?_) (a' := ?_) #[true, true, true, true, true, true, true, true, true, true, true, true, true, true, false, false, false, false, false] rfl rfl (any_of HT_.out (by kernel_rfl)) (fun _ _ _ h => h) (Or.inl ⟨by rfl, ?_⟩) ?_ ?_
            rotate_left
            ·intro w'
             go_simp
             with_reducible rfl
            rotate_left
            ·exact apt
            refine one_ (i := 14) (N := some 14) #[true, true, true, true, true, true, true, true, true, true, true, true, true, true, true, false, false, false, false] rfl rfl (one_of HT_.out (by kernel_rfl)) (by decide) (fun K hK => ?_)
            refine box_step ?hg (N := 14) ?hd (cs := #[.int .i64 0, .int .i64 0, .int .i64 0, .int .i64 0, .bool false]) (t := 71) ?hr ?_; (case hd => rfl); (case hg => rfl); (case hr => first | (go_simp; done) | (go_simp; rfl))
            intro gb566 hg w59 hbox hb
            have HS3_ := (hb.cell (World.block_lt_of_cell? _ _ (hHeld.2.2.2.1))).trans (hHeld.2.2.2.1)
            have HS4_ := (hb.cell (World.block_lt_of_cell? _ _ (hHeld.2.2.2.2.1))).trans (hHeld.2.2.2.2.1)
            have HS5_ := (hb.cell (World.block_lt_of_cell? _ _ (hHeld.2.2.2.2.2.1))).trans (hHeld.2.2.2.2.2.1)
            have HS6_ := (hb.cell (World.block_lt_of_cell? _ _ (hHeld.2.2.2.2.2.2))).trans (hHeld.2.2.2.2.2.2)
            have BK566 := Aside0.mk (hbox)
            have GW566 := gwa w hg
            have GE566 := gwa w hg
            have NB539_566 := nal BK539 hg
            have NB566_539 := nag BK539 hg
            have NB556_566 := nal BK556 hg
            have NB566_556 := nag BK556 hg
            replace HO_8 := hoa HO_8 hb
            replace BK539 := bka BK539 hb
            replace BK556 := bka BK556 hb
            replace HB := hba hb
            clear hb hbox hg
            refine hK.out _ _ ⟨(blk_cell BK539.out 0).trans rfl, (blk_cell BK539.out 1).trans rfl, (blk_cell BK539.out 2).trans rfl, HS3_, HS4_, HS5_, HS6_⟩ (fun hHeld => ?_)
            clear hK K
            refine norm_ (a' := ?_) ?_ ?_
            rotate_left
            ·show Act.put _ (some 14) _ = _
             simp only [Act.put, List.setIfInBounds_toArray, List.set_cons_zero, List.set_cons_succ, i64_w, i32_w]
             rfl
            exact norm_ (by simp only [putAll, Act.put, List.setIfInBounds_toArray, List.set_cons_zero, List.set_cons_succ]) (hCont (gb566) _ ⟨hHeld, (krl HO_8), (by (with_reducible repeat (first | refine blk_drewN ?_ _ | refine blk_drew ?_ | refine blk_alloc ?_ _)); exact BK539.out), (by (with_reducible repeat (first | refine blk_drewN ?_ _ | refine blk_drew ?_ | refine blk_alloc ?_ _)); exact BK556.out), (by (with_reducible repeat (first | refine blk_drewN ?_ _ | refine blk_drew ?_ | refine blk_alloc ?_ _)); exact BK566.out), GW566.out, GE566.out, NB539_566.out, NB566_539.out, NB556_566.out, NB566_556.out, bel⟩)
           ·skip
            refine box_step ?hg (N := 14) ?hd (cs := #[.int .i64 0, .int .i64 0, .int .i64 0, .int .i64 0, .bool false]) (t := 71) ?hr ?_; (case hd => rfl); (case hg => rfl); (case hr => first | (go_simp; done) | (go_simp; rfl))
            intro gb566 hg w58 hbox hb
            have HS3_ := (hb.cell (World.block_lt_of_cell? _ _ (hHeld.2.2.2.1))).trans (hHeld.2.2.2.1)
            have HS4_ := (hb.cell (World.block_lt_of_cell? _ _ (hHeld.2.2.2.2.1))).trans (hHeld.2.2.2.2.1)
            have HS5_ := (hb.cell (World.block_lt_of_cell? _ _ (hHeld.2.2.2.2.2.1))).trans (hHeld.2.2.2.2.2.1)
            have HS6_ := (hb.cell (World.block_lt_of_cell? _ _ (hHeld.2.2.2.2.2.2))).trans (hHeld.2.2.2.2.2.2)
            have BK566 := Aside0.mk (hbox)
            have GW566 := gwa w hg
            have GE566 := gwa w hg
            have NB539_566 := nal BK539 hg
            have NB566_539 := nag BK539 hg
            have NB556_566 := nal BK556 hg
            have NB566_556 := nag BK556 hg
            replace HO_8 := hoa HO_8 hb
            replace BK539 := bka BK539 hb
            replace BK556 := bka BK556 hb
            replace HB := hba hb
            clear hb hbox hg
            refine hK.out _ _ ⟨(blk_cell BK539.out 0).trans rfl, (blk_cell BK539.out 1).trans rfl, (blk_cell BK539.out 2).trans rfl, HS3_, HS4_, HS5_, HS6_⟩ (fun hHeld => ?_)
            clear hK K
            refine norm_ (a' := ?_) ?_ ?_
            rotate_left
            ·show Act.put _ (some 14) _ = _
             simp only [Act.put, List.setIfInBounds_toArray, List.set_cons_zero, List.set_cons_succ, i64_w, i32_w]
             rfl
            refine one_ (i := 8) (N := some 64) #[true, true, true, true, true, true, true, true, true, false, false, false, false, false, true, false, false, false, false] rfl rfl (one_of HT_.out (by kernel_rfl)) (by decide) (fun K hK => ?_)
            refine goes_ Try.func63 (by kernel_rfl) rfl #[.agg #[.int .i64 a0_0, .int .i64 a0_1, .slice A0_2 l0_2.length c0_2], .agg #[.int .i64 a0_0, .int .i64 0, .int .i64 0, .int .i64 0, .bool false], .agg #[.int .i64 ((rd_T78 t543 x13_2).f0), .int .i64 ((rd_T78 t543 x13_2).f1), .int .i64 ((rd_T78 t543 x13_2).f2), .int .i64 ((rd_T78 t543 x13_2).f3)]] (by rfl) rfl rfl gla ?_
            with_reducible refine (contract_Judge.calls a0_0 a0_1 _ _ l0_2 a0_0 0 0 0 false ((rd_T78 t543 x13_2).f0) ((rd_T78 t543 x13_2).f1) ((rd_T78 t543 x13_2).f2) ((rd_T78 t543 x13_2).f3) t558 t559 t560 t561 t562 t563 t564 t565 _ ?side1 ?side2 A36.out).mono ?_
            (case side1 => repeat (first | exact (Kd.C_below HR0_2.out HB.out) | (with_reducible refine Kd.C_alloc ?_ _) | (with_reducible refine Kd.C_drewN ?_ _) | (with_reducible refine Kd.C_drew ?_)))
            (case side2 => exact HC0_2.out)
            rintro e w59 ⟨rfl, hb⟩
            have HS3_ := (hb.cell (World.block_lt_of_cell? _ _ (hHeld.2.2.2.1))).trans (hHeld.2.2.2.1)
            have HS4_ := (hb.cell (World.block_lt_of_cell? _ _ (hHeld.2.2.2.2.1))).trans (hHeld.2.2.2.2.1)
            have HS5_ := (hb.cell (World.block_lt_of_cell? _ _ (hHeld.2.2.2.2.2.1))).trans (hHeld.2.2.2.2.2.1)
            have HS6_ := (hb.cell (World.block_lt_of_cell? _ _ (hHeld.2.2.2.2.2.2))).trans (hHeld.2.2.2.2.2.2)
            refine ⟨_, rfl, ?_⟩
            replace HO_8 := hoa HO_8 hb
            replace BK539 := bka BK539 hb
            replace BK556 := bka BK556 hb
            replace BK566 := bka BK566 hb
            replace HB := hba hb
            (try clear hb)
            (try clear hb2)
            (try clear hk)
            (try clear hi)
            refine hK.out _ _ ⟨(blk_cell BK539.out 0).trans rfl, (blk_cell BK539.out 1).trans rfl, (blk_cell BK539.out 2).trans rfl, HS3_, HS4_, HS5_, HS6_⟩ (fun hHeld => ?_)
            clear hK K
            refine norm_ (a' := ?_) ?_ ?_
            rotate_left
            ·show Act.put _ (some 64) _ = _
             simp only [Act.put, List.setIfInBounds_toArray, List.set_cons_zero, List.set_cons_succ, i64_w, i32_w]
             rfl
            refine pure_ (i := 9) (N := some 55) (v := ?_) (a' := ?_) #[true, true, true, true, true, true, true, true, true, true, false, false, false, false, true, false, false, false, false] rfl rfl (any_of HT_.out (by kernel_rfl)) (fun _ _ _ h => h) (Or.inl ⟨by rfl, ?_⟩) ?_ ?_
            rotate_left
            ·intro w'
             go_simp
             with_reducible rfl
            rotate_left
            ·exact apt
            refine pure_ (i := 10) (N := some 65) (v := ?_) (a' := ?_) #[true, true, true, true, true, true, true, true, true, true, true, false, false, false, true, false, false, false, false] rfl rfl (any_of HT_.out (by kernel_rfl)) (fun _ _ _ h => h) (Or.inl ⟨by rfl, ?_⟩) ?_ ?_
            rotate_left
            ·intro w'
             go_simp
             with_reducible rfl
            rotate_left
            ·exact apt
            refine pure_ (i := 11) (N := some 66) (v := ?_) (a' := ?_) #[true, true, true, true, true, true, true, true, true, true, true, true, false, false, true, false, false, false, false] rfl rfl (any_of HT_.out (by kernel_rfl)) (fun _ _ _ h => h) (Or.inl ⟨by rfl, ?_⟩) ?_ ?_
            rotate_left
            ·intro w'
             go_simp
             with_reducible rfl
            rotate_left
            ·exact apt
            refine pure_ (i := 12) (N := some 67) (v := ?_) (a' := ?_) #[true, true, true, true, true, true, true, true, true, true, true, true, true, false, true, false, false, false, false] rfl rfl (any_of HT_.out (by kernel_rfl)) (fun _ _ _ h => h) (Or.inl ⟨by rfl, ?_⟩) ?_ ?_
            rotate_left
            ·intro w'
             go_simp
             with_reducible rfl
            rotate_left
            ·exact apt
            refine pure_ (i := 13) (N := some 68) (v := ?_) (a' := ?_) #[true, true, true, true, true, true, true, true, true, true, true, true, true, true, true, false, false, false, false] rfl rfl (any_of HT_.out (by kernel_rfl)) (fun _ _ _ h => h) (Or.inl ⟨by rfl, ?_⟩) ?_ ?_
            rotate_left
            ·intro w'
             go_simp
             with_reducible rfl
            rotate_left
            ·exact apt
            exact norm_ (by simp only [putAll, Act.put, List.setIfInBounds_toArray, List.set_cons_zero, List.set_cons_succ]) (hCont (gb566) _ ⟨hHeld, (krl HO_8), (by (with_reducible repeat (first | refine blk_drewN ?_ _ | refine blk_drew ?_ | refine blk_alloc ?_ _)); exact BK539.out), (by (with_reducible repeat (first | refine blk_drewN ?_ _ | refine blk_drew ?_ | refine blk_alloc ?_ _)); exact BK556.out), (by (with_reducible repeat (first | refine blk_drewN ?_ _ | refine blk_drew ?_ | refine blk_alloc ?_ _)); exact BK566.out), GW566.out, GE566.out, NB539_566.out, NB566_539.out, NB556_566.out, NB566_556.out, bel⟩)
          rintro gb566 w60 ⟨hS_, h0_, h1_, h2_, h3_, h4_, h5_, h6_, h7_, h8_, h9_, h10_⟩
          have n0_ : Aside0 (Kd.R k78 78 w60 w.heap.size (fun _ => True) (.slice (some ad557) t543.length co29) t543) := ⟨h0_⟩
          have n1_ : Aside0 (w60.heap[gb539]? = some (.cells #[.int .i64 a0_0, .int .i64 a0_1, .slice A0_2 l0_2.length c0_2] 69 (0, 0))) := ⟨h1_⟩
          have n2_ : Aside0 (w60.heap[gb556]? = some (.cells #[.int .i64 t547, .int .i64 t548, .int .i64 t549, .int .i64 t550, .bool t551] 71 (0, 0))) := ⟨h2_⟩
          have n3_ : Aside0 (w60.heap[gb566]? = some (.cells #[.int .i64 0, .int .i64 0, .int .i64 0, .int .i64 0, .bool false] 71 (0, 0))) := ⟨h3_⟩
          have n4_ : Aside0 (w.heap.size ≤ gb566) := ⟨h4_⟩
          have n5_ : Aside0 (w.heap.size ≤ gb566) := ⟨h5_⟩
          have n6_ : Aside0 (gb539 ≠ gb566) := ⟨h6_⟩
          have n7_ : Aside0 (gb566 ≠ gb539) := ⟨h7_⟩
          have n8_ : Aside0 (gb556 ≠ gb566) := ⟨h8_⟩
          have n9_ : Aside0 (gb566 ≠ gb556) := ⟨h9_⟩
          have n10_ : Aside0 (Below w.heap.size w w60) := ⟨h10_⟩
          clear HO_8
          clear BK539
          clear BK556
          clear HB
          clear h0_ h1_ h2_ h3_ h4_ h5_ h6_ h7_ h8_ h9_ h10_
          have HO_8 := n0_
          have BK539 := n1_
          have BK556 := n2_
          have BK566 := n3_
          have GW566 := n4_
          have GE566 := n5_
          have NB539_566 := n6_
          have NB566_539 := n7_
          have NB556_566 := n8_
          have NB566_556 := n9_
          have HB := n10_
          clear n0_ n1_ n2_ n3_ n4_ n5_ n6_ n7_ n8_ n9_ n10_
          have hHeld : w60.cell? ⟨gb539, 0, none⟩ = some (.int .i64 a0_0) ∧ w60.cell? ⟨gb539, 1, none⟩ = some (.int .i64 a0_1) ∧ w60.cell? ⟨gb539, 2, none⟩ = some (.slice A0_2 l0_2.length c0_2) ∧ w60.cell? (ad557.add ((x13_2).toNat * 4)) = some (.int .i64 ((rd_T78 t543 x13_2).f0)) ∧ w60.cell? ⟨(ad557.add ((x13_2).toNat * 4)).block, (ad557.add ((x13_2).toNat * 4)).off + 1, none⟩ = some (.int .i64 ((rd_T78 t543 x13_2).f1)) ∧ w60.cell? ⟨(ad557.add ((x13_2).toNat * 4)).block, (ad557.add ((x13_2).toNat * 4)).off + 2, none⟩ = some (.int .i64 ((rd_T78 t543 x13_2).f2)) ∧ w60.cell? ⟨(ad557.add ((x13_2).toNat * 4)).block, (ad557.add ((x13_2).toNat * 4)).off + 3, none⟩ = some (.int .i64 ((rd_T78 t543 x13_2).f3)) := hS_
          refine norm_ (a' := ?_) ?_ ?_
          rotate_left
          ·simp only [putAll, Act.put, List.setIfInBounds_toArray, List.set_cons_zero, List.set_cons_succ]
           rfl
          refine one_ (i := 15) (N := none) #[true, true, true, true, true, true, true, true, true, true, true, true, true, true, true, true, false, false, false] rfl rfl (one_of HT_.out (by kernel_rfl)) (by decide) (fun K hK => ?_)
          have hs61 : w60.cell? ⟨gb566, 0, none⟩ = some (.int .i64 0) := (blk_cell BK566.out 0).trans rfl
          have hfs61 := blk_frozen BK566.out 0
          have hns61_0 := NB539_566.out
          have hns61_1 := NB556_566.out
          have hms61_0 := NB566_539.out
          have hms61_1 := NB566_556.out
          have hs62 : w60.cell? ⟨gb566, 1, none⟩ = some (.int .i64 0) := (blk_cell BK566.out 1).trans rfl
          have hfs62 := blk_frozen BK566.out 1
          have hns62_0 := NB539_566.out
          have hns62_1 := NB556_566.out
          have hms62_0 := NB566_539.out
          have hms62_1 := NB566_556.out
          have hs63 : w60.cell? ⟨gb566, 2, none⟩ = some (.int .i64 0) := (blk_cell BK566.out 2).trans rfl
          have hfs63 := blk_frozen BK566.out 2
          have hns63_0 := NB539_566.out
          have hns63_1 := NB556_566.out
          have hms63_0 := NB566_539.out
          have hms63_1 := NB566_556.out
          have hs64 : w60.cell? ⟨gb566, 3, none⟩ = some (.int .i64 0) := (blk_cell BK566.out 3).trans rfl
          have hfs64 := blk_frozen BK566.out 3
          have hns64_0 := NB539_566.out
          have hns64_1 := NB556_566.out
          have hms64_0 := NB566_539.out
          have hms64_1 := NB566_556.out
          have hs65 : w60.cell? ⟨gb566, 4, none⟩ = some (.bool false) := (blk_cell BK566.out 4).trans rfl
          have hfs65 := blk_frozen BK566.out 4
          have hns65_0 := NB539_566.out
          have hns65_1 := NB556_566.out
          have hms65_0 := NB566_539.out
          have hms65_1 := NB566_556.out
          refine skip_ (w1 := ?_) (by rfl) rfl ?_ ?_
          rotate_left
          ·go_simp
           rfl
          refine hK.out _ _ ⟨(cf5 NB539_566.out (hHeld.1)), (cf5 NB539_566.out (hHeld.2.1)), (cf5 NB539_566.out (hHeld.2.2.1)), ((cell_far (p := ⟨gb566, _, none⟩) (by first | exact Kd.own_blk (Kd.R_ne HO_8.out BK566.out (by decide)) | (rw [add_block]; exact Kd.own_blk (Kd.R_ne HO_8.out BK566.out (by decide))) | (show (Addr.add _ _).block ≠ _; rw [add_block]; exact Kd.own_blk (Kd.R_ne HO_8.out BK566.out (by decide))) | (dsimp only; exact Kd.own_blk (Kd.R_ne HO_8.out BK566.out (by decide)))) _).trans (((cell_far (p := ⟨gb566, _, none⟩) (by first | exact Kd.own_blk (Kd.R_ne HO_8.out BK566.out (by decide)) | (rw [add_block]; exact Kd.own_blk (Kd.R_ne HO_8.out BK566.out (by decide))) | (show (Addr.add _ _).block ≠ _; rw [add_block]; exact Kd.own_blk (Kd.R_ne HO_8.out BK566.out (by decide))) | (dsimp only; exact Kd.own_blk (Kd.R_ne HO_8.out BK566.out (by decide)))) _).trans (((cell_far (p := ⟨gb566, _, none⟩) (by first | exact Kd.own_blk (Kd.R_ne HO_8.out BK566.out (by decide)) | (rw [add_block]; exact Kd.own_blk (Kd.R_ne HO_8.out BK566.out (by decide))) | (show (Addr.add _ _).block ≠ _; rw [add_block]; exact Kd.own_blk (Kd.R_ne HO_8.out BK566.out (by decide))) | (dsimp only; exact Kd.own_blk (Kd.R_ne HO_8.out BK566.out (by decide)))) _).trans (((cell_far (p := ⟨gb566, _, none⟩) (by first | exact Kd.own_blk (Kd.R_ne HO_8.out BK566.out (by decide)) | (rw [add_block]; exact Kd.own_blk (Kd.R_ne HO_8.out BK566.out (by decide))) | (show (Addr.add _ _).block ≠ _; rw [add_block]; exact Kd.own_blk (Kd.R_ne HO_8.out BK566.out (by decide))) | (dsimp only; exact Kd.own_blk (Kd.R_ne HO_8.out BK566.out (by decide)))) _).trans (((cell_far (p := ⟨gb566, _, none⟩) (by first | exact Kd.own_blk (Kd.R_ne HO_8.out BK566.out (by decide)) | (rw [add_block]; exact Kd.own_blk (Kd.R_ne HO_8.out BK566.out (by decide))) | (show (Addr.add _ _).block ≠ _; rw [add_block]; exact Kd.own_blk (Kd.R_ne HO_8.out BK566.out (by decide))) | (dsimp only; exact Kd.own_blk (Kd.R_ne HO_8.out BK566.out (by decide)))) _).trans (hHeld.2.2.2.1)))))))))), ((cell_far (p := ⟨gb566, _, none⟩) (by first | exact Kd.own_blk (Kd.R_ne HO_8.out BK566.out (by decide)) | (rw [add_block]; exact Kd.own_blk (Kd.R_ne HO_8.out BK566.out (by decide))) | (show (Addr.add _ _).block ≠ _; rw [add_block]; exact Kd.own_blk (Kd.R_ne HO_8.out BK566.out (by decide))) | (dsimp only; exact Kd.own_blk (Kd.R_ne HO_8.out BK566.out (by decide)))) _).trans (((cell_far (p := ⟨gb566, _, none⟩) (by first | exact Kd.own_blk (Kd.R_ne HO_8.out BK566.out (by decide)) | (rw [add_block]; exact Kd.own_blk (Kd.R_ne HO_8.out BK566.out (by decide))) | (show (Addr.add _ _).block ≠ _; rw [add_block]; exact Kd.own_blk (Kd.R_ne HO_8.out BK566.out (by decide))) | (dsimp only; exact Kd.own_blk (Kd.R_ne HO_8.out BK566.out (by decide)))) _).trans (((cell_far (p := ⟨gb566, _, none⟩) (by first | exact Kd.own_blk (Kd.R_ne HO_8.out BK566.out (by decide)) | (rw [add_block]; exact Kd.own_blk (Kd.R_ne HO_8.out BK566.out (by decide))) | (show (Addr.add _ _).block ≠ _; rw [add_block]; exact Kd.own_blk (Kd.R_ne HO_8.out BK566.out (by decide))) | (dsimp only; exact Kd.own_blk (Kd.R_ne HO_8.out BK566.out (by decide)))) _).trans (((cell_far (p := ⟨gb566, _, none⟩) (by first | exact Kd.own_blk (Kd.R_ne HO_8.out BK566.out (by decide)) | (rw [add_block]; exact Kd.own_blk (Kd.R_ne HO_8.out BK566.out (by decide))) | (show (Addr.add _ _).block ≠ _; rw [add_block]; exact Kd.own_blk (Kd.R_ne HO_8.out BK566.out (by decide))) | (dsimp only; exact Kd.own_blk (Kd.R_ne HO_8.out BK566.out (by decide)))) _).trans (((cell_far (p := ⟨gb566, _, none⟩) (by first | exact Kd.own_blk (Kd.R_ne HO_8.out BK566.out (by decide)) | (rw [add_block]; exact Kd.own_blk (Kd.R_ne HO_8.out BK566.out (by decide))) | (show (Addr.add _ _).block ≠ _; rw [add_block]; exact Kd.own_blk (Kd.R_ne HO_8.out BK566.out (by decide))) | (dsimp only; exact Kd.own_blk (Kd.R_ne HO_8.out BK566.out (by decide)))) _).trans (hHeld.2.2.2.2.1)))))))))), ((cell_far (p := ⟨gb566, _, none⟩) (by first | exact Kd.own_blk (Kd.R_ne HO_8.out BK566.out (by decide)) | (rw [add_block]; exact Kd.own_blk (Kd.R_ne HO_8.out BK566.out (by decide))) | (show (Addr.add _ _).block ≠ _; rw [add_block]; exact Kd.own_blk (Kd.R_ne HO_8.out BK566.out (by decide))) | (dsimp only; exact Kd.own_blk (Kd.R_ne HO_8.out BK566.out (by decide)))) _).trans (((cell_far (p := ⟨gb566, _, none⟩) (by first | exact Kd.own_blk (Kd.R_ne HO_8.out BK566.out (by decide)) | (rw [add_block]; exact Kd.own_blk (Kd.R_ne HO_8.out BK566.out (by decide))) | (show (Addr.add _ _).block ≠ _; rw [add_block]; exact Kd.own_blk (Kd.R_ne HO_8.out BK566.out (by decide))) | (dsimp only; exact Kd.own_blk (Kd.R_ne HO_8.out BK566.out (by decide)))) _).trans (((cell_far (p := ⟨gb566, _, none⟩) (by first | exact Kd.own_blk (Kd.R_ne HO_8.out BK566.out (by decide)) | (rw [add_block]; exact Kd.own_blk (Kd.R_ne HO_8.out BK566.out (by decide))) | (show (Addr.add _ _).block ≠ _; rw [add_block]; exact Kd.own_blk (Kd.R_ne HO_8.out BK566.out (by decide))) | (dsimp only; exact Kd.own_blk (Kd.R_ne HO_8.out BK566.out (by decide)))) _).trans (((cell_far (p := ⟨gb566, _, none⟩) (by first | exact Kd.own_blk (Kd.R_ne HO_8.out BK566.out (by decide)) | (rw [add_block]; exact Kd.own_blk (Kd.R_ne HO_8.out BK566.out (by decide))) | (show (Addr.add _ _).block ≠ _; rw [add_block]; exact Kd.own_blk (Kd.R_ne HO_8.out BK566.out (by decide))) | (dsimp only; exact Kd.own_blk (Kd.R_ne HO_8.out BK566.out (by decide)))) _).trans (((cell_far (p := ⟨gb566, _, none⟩) (by first | exact Kd.own_blk (Kd.R_ne HO_8.out BK566.out (by decide)) | (rw [add_block]; exact Kd.own_blk (Kd.R_ne HO_8.out BK566.out (by decide))) | (show (Addr.add _ _).block ≠ _; rw [add_block]; exact Kd.own_blk (Kd.R_ne HO_8.out BK566.out (by decide))) | (dsimp only; exact Kd.own_blk (Kd.R_ne HO_8.out BK566.out (by decide)))) _).trans (hHeld.2.2.2.2.2.1)))))))))), ((cell_far (p := ⟨gb566, _, none⟩) (by first | exact Kd.own_blk (Kd.R_ne HO_8.out BK566.out (by decide)) | (rw [add_block]; exact Kd.own_blk (Kd.R_ne HO_8.out BK566.out (by decide))) | (show (Addr.add _ _).block ≠ _; rw [add_block]; exact Kd.own_blk (Kd.R_ne HO_8.out BK566.out (by decide))) | (dsimp only; exact Kd.own_blk (Kd.R_ne HO_8.out BK566.out (by decide)))) _).trans (((cell_far (p := ⟨gb566, _, none⟩) (by first | exact Kd.own_blk (Kd.R_ne HO_8.out BK566.out (by decide)) | (rw [add_block]; exact Kd.own_blk (Kd.R_ne HO_8.out BK566.out (by decide))) | (show (Addr.add _ _).block ≠ _; rw [add_block]; exact Kd.own_blk (Kd.R_ne HO_8.out BK566.out (by decide))) | (dsimp only; exact Kd.own_blk (Kd.R_ne HO_8.out BK566.out (by decide)))) _).trans (((cell_far (p := ⟨gb566, _, none⟩) (by first | exact Kd.own_blk (Kd.R_ne HO_8.out BK566.out (by decide)) | (rw [add_block]; exact Kd.own_blk (Kd.R_ne HO_8.out BK566.out (by decide))) | (show (Addr.add _ _).block ≠ _; rw [add_block]; exact Kd.own_blk (Kd.R_ne HO_8.out BK566.out (by decide))) | (dsimp only; exact Kd.own_blk (Kd.R_ne HO_8.out BK566.out (by decide)))) _).trans (((cell_far (p := ⟨gb566, _, none⟩) (by first | exact Kd.own_blk (Kd.R_ne HO_8.out BK566.out (by decide)) | (rw [add_block]; exact Kd.own_blk (Kd.R_ne HO_8.out BK566.out (by decide))) | (show (Addr.add _ _).block ≠ _; rw [add_block]; exact Kd.own_blk (Kd.R_ne HO_8.out BK566.out (by decide))) | (dsimp only; exact Kd.own_blk (Kd.R_ne HO_8.out BK566.out (by decide)))) _).trans (((cell_far (p := ⟨gb566, _, none⟩) (by first | exact Kd.own_blk (Kd.R_ne HO_8.out BK566.out (by decide)) | (rw [add_block]; exact Kd.own_blk (Kd.R_ne HO_8.out BK566.out (by decide))) | (show (Addr.add _ _).block ≠ _; rw [add_block]; exact Kd.own_blk (Kd.R_ne HO_8.out BK566.out (by decide))) | (dsimp only; exact Kd.own_blk (Kd.R_ne HO_8.out BK566.out (by decide)))) _).trans (hHeld.2.2.2.2.2.2))))))))))⟩ (fun hHeld => ?_)
          clear hK K
          refine pure_ (i := 16) (N := some 15) (v := ?_) (a' := ?_) #[true, true, true, true, true, true, true, true, true, true, true, true, true, true, true, true, true, false, false] rfl rfl (any_of HT_.out (by kernel_rfl)) (fun _ _ _ h => h) (Or.inl ⟨by rfl, ?_⟩) ?_ ?_
          rotate_left
          ·intro w'
           go_simp
           with_reducible rfl
          rotate_left
          ·exact apt
          refine pure_ (i := 17) (N := some 16) (v := ?_) (a' := ?_) #[true, true, true, true, true, true, true, true, true, true, true, true, true, true, true, true, true, true, false] rfl rfl (any_of HT_.out (by kernel_rfl)) (fun _ _ _ h => h) (Or.inl ⟨by rfl, ?_⟩) ?_ ?_
          rotate_left
          ·intro w'
           go_simp
           with_reducible rfl
          rotate_left
          ·exact apt
          refine pure_ (i := 18) (N := some 17) (v := ?_) (a' := ?_) #[true, true, true, true, true, true, true, true, true, true, true, true, true, true, true, true, true, true, true] rfl rfl (any_of HT_.out (by kernel_rfl)) (fun _ _ _ h => h) (Or.inl ⟨by rfl, ?_⟩) ?_ ?_
          rotate_left
          ·intro w'
           go_simp
           with_reducible rfl
          rotate_left
          ·exact apt
          refine done_ (done_of HT_.out (by kernel_rfl)) ?_
          try go_wp2
          go_roundg k2
          case measure => have := HJ4.out; have := HK2.out; omega
          case rel => exact ⟨(false), (wrap64 (x13_2 + 1)), (by first | rfl | (simp; done) | (simp [*]; done)), (by first | rfl | (simp; done) | (simp [*]; done)), H', ⟨by have := HJ4.out; have := HK2.out; omega⟩, ⟨by (with_reducible repeat (first | apply Kd.R_alloc | apply Kd.R_drewN | apply Kd.R_drew)); exact Kd.R_mono (Kd.R_far (p := ⟨gb566, 4, none⟩) (Kd.R_far (p := ⟨gb566, 3, none⟩) (Kd.R_far (p := ⟨gb566, 2, none⟩) (Kd.R_far (p := ⟨gb566, 1, none⟩) (Kd.R_far (p := ⟨gb566, 0, none⟩) (Kd.R_types HO_8.out BK566.out (by decide)) (fun _ hk => hk.2) (.int .i64 t558)) (fun _ hk => hk.2) (.int .i64 t559)) (fun _ hk => hk.2) (.int .i64 t560)) (fun _ hk => hk.2) (.int .i64 t561)) (fun _ hk => hk.2) (.bool t562)) (fun _ hk => trivial)⟩, ⟨bkf BK539⟩, ⟨bkf BK556⟩, ⟨bel⟩⟩
        ·rw [if_neg c35] at H
         exact absurd H (by simp)
       ·rw [if_neg c34] at H
        have c34b0 : decide (x13_2 < (t543.length : Int)) = false := decide_eq_false c34
        clear c34
        by_cases c66 : x7_2 = true
        ·subst c66
         rw [if_pos rfl] at H
         by_cases c67 : t555 = 0
         ·rw [if_pos c67] at H
          have c67b0 : (t555 == 0) = true := beq_iff_eq.mpr c67
          have c67b1 : (t555 != 0) = false := bne_eq_false_iff_eq.mpr c67
          clear c67
          obtain rfl := Option.some.inj H
          have hnb68 := NB556_539.out
          have hnc68 := NB539_556.out
          obtain ⟨hcz69_0, hcz69_1, hcz69_2, hcz69_3, hcz69_4, hfz69_0, hfz69_1, hfz69_2, hfz69_3, hfz69_4⟩ := cz5 BK556
          obtain ⟨hcz70_0, hcz70_1, hcz70_2, hfz70_0, hfz70_1, hfz70_2⟩ := cz3 BK539
          go_wp2
          go_ret
          exact ⟨by first | rfl | (simp [errW_none, errW_some] <;> rfl) | (simp [*, errW_none, errW_some] <;> rfl), bel⟩
         ·rw [if_neg c67] at H
          have c67b0 : (t555 == 0) = false := beq_eq_false_iff_ne.mpr c67
          have c67b1 : (t555 != 0) = true := bne_iff_ne.mpr c67
          exact absurd ((Option.some.inj H).trans HTr.out) (by decide)
        ·replace c66 := Bool.eq_false_iff.mpr c66
         subst c66
         rw [if_neg (show ¬ (false = true) by decide)] at H
         exact absurd ((Option.some.inj H).trans HTr.out) (by decide)
    ·replace c24 := Bool.eq_false_iff.mpr c24
     subst c24
     rw [if_neg (show ¬ (false = true) by decide)] at H
     exact absurd ((Option.some.inj H).trans HTr.out) (by decide)
end Go.Proofs.Ytjpghfjaloglhaa.PContract

