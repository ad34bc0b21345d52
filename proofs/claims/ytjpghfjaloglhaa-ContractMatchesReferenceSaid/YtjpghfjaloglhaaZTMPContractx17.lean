import Derived.Test.YtjpghfjaloglhaaZTMZip
import Derived.Test.YtjpghfjaloglhaaZTMPContractx0
import Derived.Test.YtjpghfjaloglhaaZTMPContractx13
import Derived.Test.YtjpghfjaloglhaaZTMPContractx14
import Derived.Test.YtjpghfjaloglhaaZTMPContractx15
namespace Go.Proofs.Ytjpghfjaloglhaa.PContract
open Go.RowKit Go.Proofs.YtjpghfjaloglhaaW.PrintWords Go.Proofs.YtjpghfjaloglhaaW.PrintLast Go.Proofs.YtjpghfjaloglhaaW.PrintMore Go.Proofs.Ytjpghfjaloglhaa.Zip
attribute [local go_sem] max2_int min2_int max_two min_two max_three min_three max_four min_four   -- for this text's walks alone
set_option linter.unusedVariables false
set_option linter.unusedSimpArgs false
mutual
def formeref38_Course.l0 : Nat → List (S78) → List Int → Int → Int → Int → List (S61) → Int → Int → Int → Int → Bool → Option (Int × Int × Int × Int × Bool × List Int × Int)
 | 0, _, _, _, _, _, _, _, _, _, _, _ => none
 | k + 1, x1, x9, x10, x343000, x343001, x343002, x346000, x346001, x346002, x346003, x346004 => if x10 < (x1.length : Int) then (if 0 ≤ x10 then ((formeref38_Answer.f ((rd_T78 x1 x10).f0) ((rd_T78 x1 x10).f1) ((rd_T78 x1 x10).f2) ((rd_T78 x1 x10).f3)).bind fun t347 => (if t347 = true then (formeref38_Course.j1 k x1 x9 x10 (((rd_T78 x1 x10).f0) != x343000) x343000 x343001 x343002 x346000 x346001 x346002 x346003 x346004) else (formeref38_Course.j1 k x1 x9 x10 true x343000 x343001 x343002 x346000 x346001 x346002 x346003 x346004))) else (none)) else (some (x346000, x346001, x346002, x346003, x346004, x9, 0))
def formeref38_Course.j1 : Nat → List (S78) → List Int → Int → Bool → Int → Int → List (S61) → Int → Int → Int → Int → Bool → Option (Int × Int × Int × Int × Bool × List Int × Int)
 | 0, _, _, _, _, _, _, _, _, _, _, _, _ => none
 | k + 1, x1, x9, x10, x46, x343000, x343001, x343002, x346000, x346001, x346002, x346003, x346004 => if x46 = true then (some (0, 0, 0, 0, false, ([] : List Int), 1)) else (if 0 ≤ x10 then (if x10 < (x1.length : Int) then ((formeref38_judge.f k x343000 x343001 x343002 x346000 x346001 x346002 x346003 x346004 ((rd_T78 x1 x10).f0) ((rd_T78 x1 x10).f1) ((rd_T78 x1 x10).f2) ((rd_T78 x1 x10).f3)).bind fun bt350 => ((formeref38_promised.f k x343000 x343001 x343002 ((rd_T78 x1 x10).f1)).bind fun t356 => (if x9.length < 17592186044416 then (formeref38_Course.l0 k x1 (x9 ++ [t356]) (wrap64 (x10 + 1)) x343000 x343001 x343002 bt350.1 bt350.2.1 bt350.2.2.1 bt350.2.2.2.1 bt350.2.2.2.2) else (none)))) else (none)) else (none))
end
def formeref38_Course.f (k : Nat) (a0_0 : Int) (a0_1 : Int) (l0_2 : List (S61)) (l1 : List (S78)) : Option (Int × Int × Int × Int × Bool × List Int × Int) := (formeref38_Valid.f k a0_0 a0_1 l0_2).bind fun t344 => (if t344 = true then (if (l1.length : Int) > 500 then (some (0, 0, 0, 0, false, ([] : List Int), 2)) else (formeref38_Course.l0 k l1 ([] : List Int) 0 a0_0 a0_1 l0_2 a0_0 0 0 0 false)) else (some (0, 0, 0, 0, false, ([] : List Int), 1)))
theorem formeref38_Course.mono_l : ∀ k, (∀ y0 y1 y2 y3 y4 y5 y6 y7 y8 y9 y10, LeO (formeref38_Course.l0 k y0 y1 y2 y3 y4 y5 y6 y7 y8 y9 y10) (formeref38_Course.l0 (k + 1) y0 y1 y2 y3 y4 y5 y6 y7 y8 y9 y10)) ∧ (∀ y0 y1 y2 y3 y4 y5 y6 y7 y8 y9 y10 y11, LeO (formeref38_Course.j1 k y0 y1 y2 y3 y4 y5 y6 y7 y8 y9 y10 y11) (formeref38_Course.j1 (k + 1) y0 y1 y2 y3 y4 y5 y6 y7 y8 y9 y10 y11))
 | 0 => ⟨fun _ _ _ _ _ _ _ _ _ _ _ r h => by simp [formeref38_Course.l0] at h, fun _ _ _ _ _ _ _ _ _ _ _ _ r h => by simp [formeref38_Course.j1] at h⟩
 | k + 1 => by
  obtain ⟨ih0, ih1⟩ := formeref38_Course.mono_l k
  refine ⟨?_, ?_⟩
  ·intro y0 y1 y2 y3 y4 y5 y6 y7 y8 y9 y10
   unfold formeref38_Course.l0
   repeat' first
   | (with_reducible exact ih0 _ _ _ _ _ _ _ _ _ _ _)
   | (with_reducible exact ih1 _ _ _ _ _ _ _ _ _ _ _ _)
   | (with_reducible exact formeref38_Valid.mono _ _ _ _)
   | (with_reducible exact formeref38_judge.mono _ _ _ _ _ _ _ _ _ _ _ _ _)
   | (with_reducible exact formeref38_promised.mono _ _ _ _ _)
   | (with_reducible exact LeO.refl _)
   | (with_reducible exact LeO.none _)
   | (with_reducible refine LeO.ite ?_ ?_)
   | (with_reducible refine LeO.bind ?_ (fun _ => ?_))
   | exact ih0 _ _ _ _ _ _ _ _ _ _ _
   | exact ih1 _ _ _ _ _ _ _ _ _ _ _ _
   | exact formeref38_Valid.mono _ _ _ _
   | exact formeref38_judge.mono _ _ _ _ _ _ _ _ _ _ _ _ _
   | exact formeref38_promised.mono _ _ _ _ _
   | exact LeO.none _
   | refine LeO.ite ?_ ?_
   | refine LeO.bind ?_ (fun _ => ?_)
  ·intro y0 y1 y2 y3 y4 y5 y6 y7 y8 y9 y10 y11
   unfold formeref38_Course.j1
   repeat' first
   | (with_reducible exact ih0 _ _ _ _ _ _ _ _ _ _ _)
   | (with_reducible exact ih1 _ _ _ _ _ _ _ _ _ _ _ _)
   | (with_reducible exact formeref38_Valid.mono _ _ _ _)
   | (with_reducible exact formeref38_judge.mono _ _ _ _ _ _ _ _ _ _ _ _ _)
   | (with_reducible exact formeref38_promised.mono _ _ _ _ _)
   | (with_reducible exact LeO.refl _)
   | (with_reducible exact LeO.none _)
   | (with_reducible refine LeO.ite ?_ ?_)
   | (with_reducible refine LeO.bind ?_ (fun _ => ?_))
   | exact ih0 _ _ _ _ _ _ _ _ _ _ _
   | exact ih1 _ _ _ _ _ _ _ _ _ _ _ _
   | exact formeref38_Valid.mono _ _ _ _
   | exact formeref38_judge.mono _ _ _ _ _ _ _ _ _ _ _ _ _
   | exact formeref38_promised.mono _ _ _ _ _
   | exact LeO.none _
   | refine LeO.ite ?_ ?_
   | refine LeO.bind ?_ (fun _ => ?_)
theorem formeref38_Course.mono : ∀ a0 a1 a2 a3 k, LeO (formeref38_Course.f k a0 a1 a2 a3) (formeref38_Course.f (k + 1) a0 a1 a2 a3) := by
 intro a0 a1 a2 a3 k
 obtain ⟨ih0, ih1⟩ := formeref38_Course.mono_l k
 unfold formeref38_Course.f
 repeat' first
   | (with_reducible exact ih0 _ _ _ _ _ _ _ _ _ _ _)
   | (with_reducible exact ih1 _ _ _ _ _ _ _ _ _ _ _ _)
   | (with_reducible exact formeref38_Valid.mono _ _ _ _)
   | (with_reducible exact formeref38_judge.mono _ _ _ _ _ _ _ _ _ _ _ _ _)
   | (with_reducible exact formeref38_promised.mono _ _ _ _ _)
   | (with_reducible exact LeO.refl _)
   | (with_reducible exact LeO.none _)
   | (with_reducible refine LeO.ite ?_ ?_)
   | (with_reducible refine LeO.bind ?_ (fun _ => ?_))
   | exact ih0 _ _ _ _ _ _ _ _ _ _ _
   | exact ih1 _ _ _ _ _ _ _ _ _ _ _ _
   | exact formeref38_Valid.mono _ _ _ _
   | exact formeref38_judge.mono _ _ _ _ _ _ _ _ _ _ _ _ _
   | exact formeref38_promised.mono _ _ _ _ _
   | exact LeO.none _
   | refine LeO.ite ?_ ?_
   | refine LeO.bind ?_ (fun _ => ?_)
def formeref38_Course.T12 : Bool × List (List Nat × List Nat) := (true, [([], []), ([0], [0]), ([1], [1]), ([2], [2]), ([2], [2]), ([3, 4, 2], [2, 3, 4]), ([5, 2], [2, 5]), ([6, 2], [2, 6]), ([2], [2]), ([8, 2], [2, 8]), ([7, 9, 2], [2, 7, 9]), ([2, 10], [2, 10])])
def formeref38_Course.B12 : List Nat := [0, 1, 3, 7, 7, 31, 63, 127, 7, 263, 1023, 2047]
theorem formeref38_Course.tab12 : rtab .any (opsOf Try.f66 12) = formeref38_Course.T12 := by kernel_rfl
theorem formeref38_Course.bits12 : waitsOk formeref38_Course.T12.2 formeref38_Course.B12 = true := by kernel_rfl
def formeref38_Course.T14 : Bool × List (List Nat × List Nat) := (true, [([], []), ([], []), ([], []), ([], []), ([2, 3], [2, 3]), ([4], [4]), ([0, 1, 5], [0, 1, 5]), ([6, 6, 0, 1, 2, 3, 4, 5, 6], [6])])
def formeref38_Course.B14 : List Nat := [0, 0, 0, 0, 12, 28, 63, 127]
theorem formeref38_Course.tab14 : rtab .any (opsOf Try.f66 14) = formeref38_Course.T14 := by kernel_rfl
theorem formeref38_Course.bits14 : waitsOk formeref38_Course.T14.2 formeref38_Course.B14 = true := by kernel_rfl
def formeref38_Course.T15 : Bool × List (List Nat × List Nat) := (true, [([], []), ([], []), ([], []), ([], []), ([2, 3], [2, 3]), ([4], [4]), ([5], [5]), ([1, 6], [1, 6]), ([7], [7]), ([0, 8, 7], [0, 8]), ([9, 9, 0, 1, 2, 3, 4, 5, 6, 7, 8, 9], [0, 9])])
def formeref38_Course.B15 : List Nat := [0, 0, 0, 0, 12, 28, 60, 126, 254, 511, 1023]
theorem formeref38_Course.tab15 : rtab .any (opsOf Try.f66 15) = formeref38_Course.T15 := by kernel_rfl
theorem formeref38_Course.bits15 : waitsOk formeref38_Course.T15.2 formeref38_Course.B15 = true := by kernel_rfl
set_option maxHeartbeats 8000000 in
set_option maxRecDepth 100000 in
theorem formeref38_Course.calls (k : Nat) (a0_0 : Int) (a0_1 : Int) (A0_2 : Option Addr) (c0_2 : Nat) (l0_2 : List (S61)) (A1 : Option Addr) (c1 : Nat) (l1 : List (S78)) (r1 : Int) (r2 : Int) (r3 : Int) (r4 : Int) (r5 : Bool) (r6 : List Int) (r7 : Int) (w : World) (hr0_2 : Kd.C k61 w A0_2 l0_2.length l0_2) (hc0_2 : l0_2.length ≤ c0_2) (hr1 : Kd.C k78 w A1 l1.length l1) (hc1 : l1.length ≤ c1) (h : formeref38_Course.f k a0_0 a0_1 l0_2 l1 = some (r1, r2, r3, r4, r5, r6, r7)) :
  Calls Try.prog 66 #[.agg #[.int .i64 a0_0, .int .i64 a0_1, .slice A0_2 l0_2.length c0_2], .slice A1 l1.length c1] w fun e w' => ∃ v5_ : Value, e = .returned (.tuple #[.agg #[.int .i64 r1, .int .i64 r2, .int .i64 r3, .int .i64 r4, .bool r5], v5_, .int .i64 r7]) ∧ Kd.R (Kd.int .i64) 3 w' w.heap.size (fun _ => True) v5_ r6 ∧ Below w.heap.size w w' := by
 have hu69 := Try.underlying69
 have hu71 := Try.underlying71
 have hu78 := Try.underlying78
 have HR0_2 := Aside0.mk hr0_2
 have HC0_2 := Aside0.mk hc0_2
 clear hr0_2 hc0_2
 have HR1 := Aside0.mk hr1
 have HC1 := Aside0.mk hc1
 clear hr1 hc1
 have HB := Aside0.mk (Below.refl w.heap.size w)
 have H := h
 unfold formeref38_Course.f at H
 clear h
 replace H := Option.bind_eq_some_iff.mp H
 obtain ⟨t344, A30, H⟩ := H
 try dsimp only at H
 have A3 := Aside0.mk A30
 clear A30
 by_cases c4 : t344 = true
 ·subst c4
  rw [if_pos rfl] at H
  by_cases c5 : (l1.length : Int) > 500
  ·rw [if_pos c5] at H
   have c5b0 : decide (500 < (l1.length : Int)) = true := decide_eq_true c5
   have c5b1 : decide (500 < l1.length) = true := decide_eq_true (by omega)
   clear c5
   simp only [Option.some.injEq, Prod.mk.injEq] at H
   obtain ⟨rfl, rfl, rfl, rfl, rfl, rfl, rfl⟩ := H
   go_enter Try.func66, Try.ntmps66
   go_wp2_with (first | ((with_reducible refine gate_dst (N := 2) rfl ?_); refine box_event ?hg (N := 2) ?hd (cs := #[.int .i64 a0_0, .int .i64 a0_1, .slice A0_2 l0_2.length c0_2]) (t := 69) ?hr ?_; (case hd => rfl); (case hg => rfl); (case hr => first | (go_simp; done) | (go_simp; rfl)); intro gb342 hg w6 hbox hb; have BK342 := Aside0.mk (hbox); have GW342 := gwa w hg; have GE342 := gwa w hg; replace HB := hba hb; clear hb hbox hg) | ((with_reducible refine gate_dst (N := 4) rfl ?_); refine box_event ?hg (N := 4) ?hd (cs := #[.int .i64 0, .int .i64 0, .int .i64 0, .int .i64 0, .bool false]) (t := 71) ?hr ?_; (case hd => rfl); (case hg => rfl); (case hr => first | (go_simp; done) | (go_simp; rfl)); intro gb343 hg w7 hbox hb; have BK343 := Aside0.mk (hbox); have GW343 := gwa w hg; have GE343 := gwa w hg; have NB342_343 := nal BK342 hg; have NB343_342 := nag BK342 hg; replace BK342 := bka BK342 hb; replace HB := hba hb; clear hb hbox hg; have hnb8 := NB342_343.out; have hnc8 := NB343_342.out; obtain ⟨hcz9_0, hcz9_1, hcz9_2, hfz9_0, hfz9_1, hfz9_2⟩ := cz3 BK342) | ((with_reducible refine gate_callee (f := 62) rfl ?_); refine goesL_ (some 13) rfl rfl Try.func62 (by kernel_rfl) rfl #[.agg #[.int .i64 a0_0, .int .i64 a0_1, .slice A0_2 l0_2.length c0_2]] rfl gla ?_; (with_reducible refine (formeref38_Valid.calls k a0_0 a0_1 _ _ l0_2 true _ ?side1 ?side2 A3.out).mono ?_); (case side1 => repeat (first | exact (Kd.C_below HR0_2.out HB.out) | (with_reducible refine Kd.C_alloc ?_ _) | (with_reducible refine Kd.C_drewN ?_ _) | (with_reducible refine Kd.C_drew ?_))); (case side2 => exact HC0_2.out); rintro e w10 ⟨rfl, hb⟩; refine ⟨_, rfl, ?_⟩; replace BK342 := bka BK342 hb; replace BK343 := bka BK343 hb; replace HB := hba hb; (try clear hb); obtain ⟨hcz11_0, hcz11_1, hcz11_2, hcz11_3, hcz11_4, hfz11_0, hfz11_1, hfz11_2, hfz11_3, hfz11_4⟩ := cz5 BK343))
   refine bodyPost_ret (results_ctt rfl _ _ gb343 71 #[.int .i64 0, .int .i64 0, .int .i64 0, .int .i64 0, .bool false] (0, 0) _ rfl (by (with_reducible repeat (first | refine blk_drewN ?_ _ | refine blk_drew ?_ | refine blk_alloc ?_ _)); refine blk_put (cs := #[.int .i64 0, .int .i64 0, .int .i64 0, .int .i64 0, .bool false]) ?_ 4 _ rfl; (with_reducible repeat (first | refine blk_drewN ?_ _ | refine blk_drew ?_ | refine blk_alloc ?_ _)); refine blk_put (cs := #[.int .i64 0, .int .i64 0, .int .i64 0, .int .i64 0, .bool false]) ?_ 3 _ rfl; (with_reducible repeat (first | refine blk_drewN ?_ _ | refine blk_drew ?_ | refine blk_alloc ?_ _)); refine blk_put (cs := #[.int .i64 0, .int .i64 0, .int .i64 0, .int .i64 0, .bool false]) ?_ 2 _ rfl; (with_reducible repeat (first | refine blk_drewN ?_ _ | refine blk_drew ?_ | refine blk_alloc ?_ _)); refine blk_put (cs := #[.int .i64 0, .int .i64 0, .int .i64 0, .int .i64 0, .bool false]) ?_ 1 _ rfl; (with_reducible repeat (first | refine blk_drewN ?_ _ | refine blk_drew ?_ | refine blk_alloc ?_ _)); refine blk_put (cs := #[.int .i64 0, .int .i64 0, .int .i64 0, .int .i64 0, .bool false]) ?_ 0 _ rfl; (with_reducible repeat (first | refine blk_drewN ?_ _ | refine blk_drew ?_ | refine blk_alloc ?_ _)); exact BK343.out) Try.underlying71 rfl (by kernel_rfl)) rfl ?_
   exact ⟨_, by first | rfl | (simp [errW_none, errW_some] <;> rfl) | (simp [*, errW_none, errW_some] <;> rfl), by first | exact Kd.R_nil _ _ _ _ _ | exact Kd.N_nil _ _ _ _ _ | exact Kd.V_nil _ _ _ _ _ | exact Kd.Q_nil _ _ _ _ _ | exact Kd.S_nil _ _ _ _ _, bel⟩
  ·rw [if_neg c5] at H
   have c5b0 : decide (500 < (l1.length : Int)) = false := decide_eq_false c5
   have c5b1 : decide (500 < l1.length) = false := decide_eq_false (by omega)
   clear c5
   have H' := Aside0.mk H
   clear H
   go_enter Try.func66, Try.ntmps66
   go_wp2_with (first | ((with_reducible refine gate_dst (N := 2) rfl ?_); refine box_event ?hg (N := 2) ?hd (cs := #[.int .i64 a0_0, .int .i64 a0_1, .slice A0_2 l0_2.length c0_2]) (t := 69) ?hr ?_; (case hd => rfl); (case hg => rfl); (case hr => first | (go_simp; done) | (go_simp; rfl)); intro gb342 hg w12 hbox hb; have BK342 := Aside0.mk (hbox); have GW342 := gwa w hg; have GE342 := gwa w hg; replace HB := hba hb; clear hb hbox hg) | ((with_reducible refine gate_dst (N := 4) rfl ?_); refine box_event ?hg (N := 4) ?hd (cs := #[.int .i64 0, .int .i64 0, .int .i64 0, .int .i64 0, .bool false]) (t := 71) ?hr ?_; (case hd => rfl); (case hg => rfl); (case hr => first | (go_simp; done) | (go_simp; rfl)); intro gb343 hg w13 hbox hb; have BK343 := Aside0.mk (hbox); have GW343 := gwa w hg; have GE343 := gwa w hg; have NB342_343 := nal BK342 hg; have NB343_342 := nag BK342 hg; replace BK342 := bka BK342 hb; replace HB := hba hb; clear hb hbox hg; have hnb14 := NB342_343.out; have hnc14 := NB343_342.out; obtain ⟨hcz15_0, hcz15_1, hcz15_2, hfz15_0, hfz15_1, hfz15_2⟩ := cz3 BK342) | ((with_reducible refine gate_callee (f := 62) rfl ?_); refine goesL_ (some 13) rfl rfl Try.func62 (by kernel_rfl) rfl #[.agg #[.int .i64 a0_0, .int .i64 a0_1, .slice A0_2 l0_2.length c0_2]] rfl gla ?_; (with_reducible refine (formeref38_Valid.calls k a0_0 a0_1 _ _ l0_2 true _ ?side1 ?side2 A3.out).mono ?_); (case side1 => repeat (first | exact (Kd.C_below HR0_2.out HB.out) | (with_reducible refine Kd.C_alloc ?_ _) | (with_reducible refine Kd.C_drewN ?_ _) | (with_reducible refine Kd.C_drew ?_))); (case side2 => exact HC0_2.out); rintro e w16 ⟨rfl, hb⟩; refine ⟨_, rfl, ?_⟩; replace BK342 := bka BK342 hb; replace BK343 := bka BK343 hb; replace HB := hba hb; (try clear hb); obtain ⟨hcz17_0, hcz17_1, hcz17_2, hfz17_0, hfz17_1, hfz17_2⟩ := cz3 BK342) | ((with_reducible refine gate_dst (N := 8) rfl ?_); refine box_event ?hg (N := 8) ?hd (cs := #[.int .i64 0, .int .i64 0, .int .i64 0, .int .i64 0, .bool false]) (t := 71) ?hr ?_; (case hd => rfl); (case hg => rfl); (case hr => first | (go_simp; done) | (go_simp; rfl)); intro gb345 hg w18 hbox hb; have BK345 := Aside0.mk (hbox); have GW345 := gwa w hg; have GE345 := gwa w hg; have NB342_345 := nal BK342 hg; have NB345_342 := nag BK342 hg; have NB343_345 := nal BK343 hg; have NB345_343 := nag BK343 hg; replace BK342 := bka BK342 hb; replace BK343 := bka BK343 hb; replace HB := hba hb; clear hb hbox hg; have hnb19 := NB345_342.out; have hnc19 := NB342_345.out; have hnb20 := NB345_343.out; have hnc20 := NB343_345.out; obtain ⟨hcz21_0, hcz21_1, hcz21_2, hcz21_3, hcz21_4, hfz21_0, hfz21_1, hfz21_2, hfz21_3, hfz21_4⟩ := cz5 BK345))
   go_loopg [9, 10] k (fun kq v9 v10 w' => ∃ (x9_1 : List Int) (x10_1 : Int) (x344000_1 : Int) (x344001_1 : Int) (x344002_1 : Int) (x344003_1 : Int) (x344004_1 : Bool) (x346000_1 : Int) (x346001_1 : Int) (x346002_1 : Int) (x346003_1 : Int) (x346004_1 : Bool), v10 = .int .i64 x10_1 ∧ Aside0 (formeref38_Course.l0 kq l1 x9_1 x10_1 a0_0 a0_1 l0_2 x346000_1 x346001_1 x346002_1 x346003_1 x346004_1 = some (r1, r2, r3, r4, r5, r6, r7)) ∧ Aside0 (kq ≤ k) ∧ Aside0 (Kd.R (Kd.int .i64) 3 w' w.heap.size (fun _ => True) v9 x9_1) ∧ Aside0 (w'.heap[gb342]? = some (.cells #[.int .i64 a0_0, .int .i64 a0_1, (.slice A0_2 l0_2.length c0_2)] 69 (0, 0))) ∧ Aside0 (w'.heap[gb343]? = some (.cells #[.int .i64 x344000_1, .int .i64 x344001_1, .int .i64 x344002_1, .int .i64 x344003_1, .bool x344004_1] 71 (0, 0))) ∧ Aside0 (w'.heap[gb345]? = some (.cells #[.int .i64 x346000_1, .int .i64 x346001_1, .int .i64 x346002_1, .int .i64 x346003_1, .bool x346004_1] 71 (0, 0))) ∧ Aside0 (Below w.heap.size w w'))
   case atStart => exact ⟨(([] : List Int)), (0), (0), (0), (0), (0), (false), (a0_0), (0), (0), (0), (false), (by first | rfl | (simp; done) | (simp [*]; done)), H', ⟨Nat.le_refl _⟩, ⟨by first | exact Kd.R_nil _ _ _ _ _ | exact Kd.N_nil _ _ _ _ _ | exact Kd.V_nil _ _ _ _ _ | exact Kd.Q_nil _ _ _ _ _ | exact Kd.S_nil _ _ _ _ _⟩, ⟨bkf BK342⟩, ⟨bkf BK343⟩, ⟨by (with_reducible repeat (first | refine blk_drewN ?_ _ | refine blk_drew ?_ | refine blk_alloc ?_ _)); refine blk_put (cs := #[.int .i64 a0_0, .int .i64 0, .int .i64 0, .int .i64 0, .bool false]) ?_ 4 _ rfl; (with_reducible repeat (first | refine blk_drewN ?_ _ | refine blk_drew ?_ | refine blk_alloc ?_ _)); refine blk_put (cs := #[.int .i64 a0_0, .int .i64 0, .int .i64 0, .int .i64 0, .bool false]) ?_ 3 _ rfl; (with_reducible repeat (first | refine blk_drewN ?_ _ | refine blk_drew ?_ | refine blk_alloc ?_ _)); refine blk_put (cs := #[.int .i64 a0_0, .int .i64 0, .int .i64 0, .int .i64 0, .bool false]) ?_ 2 _ rfl; (with_reducible repeat (first | refine blk_drewN ?_ _ | refine blk_drew ?_ | refine blk_alloc ?_ _)); refine blk_put (cs := #[.int .i64 a0_0, .int .i64 0, .int .i64 0, .int .i64 0, .bool false]) ?_ 1 _ rfl; (with_reducible repeat (first | refine blk_drewN ?_ _ | refine blk_drew ?_ | refine blk_alloc ?_ _)); refine blk_put (cs := #[.int .i64 0, .int .i64 0, .int .i64 0, .int .i64 0, .bool false]) ?_ 0 _ rfl; (with_reducible repeat (first | refine blk_drewN ?_ _ | refine blk_drew ?_ | refine blk_alloc ?_ _)); exact BK345.out⟩, ⟨bel⟩⟩
   case round =>
    clear H'
    try clear c1
    try clear c2
    try clear p2
    try clear c4
    try clear c5
    try clear c5b0
    try clear c5b1
    try clear c6
    try clear c8
    try clear c14
    try clear c19
    try clear c20
    obtain ⟨x9_1, x10_1, x344000_1, x344001_1, x344002_1, x344003_1, x344004_1, x346000_1, x346001_1, x346002_1, x346003_1, x346004_1, rfl, HA, HK1, HO_9, BK342, BK343, BK345, HB⟩ := hrel
    cases gk with
    | zero => exact absurd HA.out (by simp [formeref38_Course.l0])
    | succ k1 =>
     have H := HA.out
     clear HA
     simp only [formeref38_Course.l0] at H
     by_cases c22 : x10_1 < (l1.length : Int)
     ·rw [if_pos c22] at H
      have c22b0 : decide (x10_1 < (l1.length : Int)) = true := decide_eq_true c22
      clear c22
      by_cases c23 : 0 ≤ x10_1
      ·rw [if_pos c23] at H
       have c23b0 : decide (0 ≤ x10_1) = true := decide_eq_true c23
       clear c23
       replace H := Option.bind_eq_some_iff.mp H
       obtain ⟨t347, A240, H⟩ := H
       try dsimp only at H
       have A24 := Aside0.mk A240
       clear A240
       have HC25 := Aside0.mk H
       clear H
       have p346 : 0 ≤ (x10_1 : Int) := of_decide_eq_true (by first | (with_reducible assumption) | assumption)
       have q346 : x10_1 < (l1.length : Int) := of_decide_eq_true (by first | (with_reducible assumption) | assumption)
       obtain ⟨ad346, e346, hx346_0, hx346_1, hx346_2, hx346_3⟩ := at_T78 HR1.out x10_1 p346 q346
       cases e346
       replace hx346_0 := hxl HB hx346_0
       replace hx346_1 := hxl HB hx346_1
       replace hx346_2 := hxl HB hx346_2
       replace hx346_3 := hxl HB hx346_3
       replace p346 := eq_true p346
       replace q346 := eq_true q346
       go_upto_region 12 with (first | ((with_reducible refine gate_callee (f := 111) rfl ?_); refine goesL_ (some 34) rfl rfl Try.func111 (by kernel_rfl) rfl #[.agg #[.int .i64 ((rd_T78 l1 x10_1).f0), .int .i64 ((rd_T78 l1 x10_1).f1), .int .i64 ((rd_T78 l1 x10_1).f2), .int .i64 ((rd_T78 l1 x10_1).f3)]] rfl gla ?_; (with_reducible refine (formeref38_Answer.calls ((rd_T78 l1 x10_1).f0) ((rd_T78 l1 x10_1).f1) ((rd_T78 l1 x10_1).f2) ((rd_T78 l1 x10_1).f3) t347 _ A24.out).mono ?_); rintro e w26 ⟨rfl, hb⟩; refine ⟨_, rfl, ?_⟩; replace HO_9 := hoa HO_9 hb; replace BK342 := bka BK342 hb; replace BK343 := bka BK343 hb; replace BK345 := bka BK345 hb; replace HB := hba hb; (try clear hb)))
       (try simp only [Act.put, List.setIfInBounds_toArray, List.set_cons_zero, List.set_cons_succ])
       go_cut [46] (fun v46 wc => ∃ (kq : Nat) (x46_24 : Bool), v46 = .bool x46_24 ∧ Aside0 (formeref38_Course.j1 kq l1 x9_1 x10_1 x46_24 a0_0 a0_1 l0_2 x346000_1 x346001_1 x346002_1 x346003_1 x346004_1 = some (r1, r2, r3, r4, r5, r6, r7)) ∧ Aside0 (kq ≤ k1) ∧ Aside0 (Kd.R (Kd.int .i64) 3 wc w.heap.size (fun _ => True) u9 x9_1) ∧ Aside0 (wc.heap[gb342]? = some (.cells #[.int .i64 a0_0, .int .i64 a0_1, (.slice A0_2 l0_2.length c0_2)] 69 (0, 0))) ∧ Aside0 (wc.heap[gb343]? = some (.cells #[.int .i64 x344000_1, .int .i64 x344001_1, .int .i64 x344002_1, .int .i64 x344003_1, .bool x344004_1] 71 (0, 0))) ∧ Aside0 (wc.heap[gb345]? = some (.cells #[.int .i64 x346000_1, .int .i64 x346001_1, .int .i64 x346002_1, .int .i64 x346003_1, .bool x346004_1] 71 (0, 0))) ∧ Aside0 (Below w.heap.size w wc))
       case first =>
        have H := HC25.out
        clear HC25
        by_cases c27 : t347 = true
        ·subst c27
         rw [if_pos rfl] at H
         have H' := Aside0.mk H
         clear H
         try go_wp2
         replace HO_9 := Aside0.mk (Kd.R_drew HO_9.out)
         replace BK342 := Aside0.mk (blk_drew BK342.out)
         replace BK343 := Aside0.mk (blk_drew BK343.out)
         replace BK345 := Aside0.mk (blk_drew BK345.out)
         replace HB := Aside0.mk (below_drew1 HB.out)
         have p348 : 0 ≤ (x10_1 : Int) := of_decide_eq_true (by first | (with_reducible assumption) | assumption)
         have q348 : x10_1 < (l1.length : Int) := of_decide_eq_true (by first | (with_reducible assumption) | assumption)
         obtain ⟨ad348, e348, hx348_0, hx348_1, hx348_2, hx348_3⟩ := at_T78 HR1.out x10_1 p348 q348
         have hw348_3 := hx348_3
         have hw348_2 := hx348_2
         have hw348_1 := hx348_1
         have hw348_0 := hx348_0
         obtain rfl : ad346 = ad348 := (by injection e348)
         replace hx348_0 := hxl HB hx348_0
         replace hx348_1 := hxl HB hx348_1
         replace hx348_2 := hxl HB hx348_2
         replace hx348_3 := hxl HB hx348_3
         replace p348 := eq_true p348
         replace q348 := eq_true q348
         refine start_ (n := 12) (S := fun w' => w'.cell? ⟨gb342, 0, none⟩ = some (.int .i64 a0_0) ∧ w'.cell? ⟨gb342, 1, none⟩ = some (.int .i64 a0_1) ∧ w'.cell? ⟨gb342, 2, none⟩ = some (.slice A0_2 l0_2.length c0_2) ∧ w'.cell? (ad346.add ((x10_1).toNat * 4)) = some (.int .i64 ((rd_T78 l1 x10_1).f0)) ∧ w'.cell? ⟨(ad346.add ((x10_1).toNat * 4)).block, (ad346.add ((x10_1).toNat * 4)).off + 1, none⟩ = some (.int .i64 ((rd_T78 l1 x10_1).f1)) ∧ w'.cell? ⟨(ad346.add ((x10_1).toNat * 4)).block, (ad346.add ((x10_1).toNat * 4)).off + 2, none⟩ = some (.int .i64 ((rd_T78 l1 x10_1).f2)) ∧ w'.cell? ⟨(ad346.add ((x10_1).toNat * 4)).block, (ad346.add ((x10_1).toNat * 4)).off + 3, none⟩ = some (.int .i64 ((rd_T78 l1 x10_1).f3))) (ds := []) #[ff, ff, ff, ff, ff, ff, ff, ff, ff, ff, ff, ff] (by kernel_rfl) rfl rfl ⟨(blk_cell BK342.out 0).trans rfl, (blk_cell BK342.out 1).trans rfl, (blk_cell BK342.out 2).trans rfl, ((HB.out.cell (World.block_lt_of_cell? w _ hw348_0)).trans hw348_0), ((HB.out.cell (World.block_lt_of_cell? w _ hw348_1)).trans hw348_1), ((HB.out.cell (World.block_lt_of_cell? w _ hw348_2)).trans hw348_2), ((HB.out.cell (World.block_lt_of_cell? w _ hw348_3)).trans hw348_3)⟩ (fun hHeld => ?_); refine with_tabW formeref38_Course.tab12 formeref38_Course.bits12 (fun HT_ HW_ => ?_)
         generalize w26.drew = w28 at HO_9 BK342 BK343 BK345 HB hx348_0 hx348_1 hx348_2 hx348_3 hHeld ⊢
         refine pure_ (i := 0) (N := some 35) (v := ?_) (a' := ?_) #[tt, ff, ff, ff, ff, ff, ff, ff, ff, ff, ff, ff] rfl rfl (any_of HT_.out (by kernel_rfl)) (fun _ _ _ h => h) (Or.inl ⟨by rfl, ?_⟩) ?_ ?_
         rotate_left; intro w'; go_simp; with_reducible rfl; rotate_left; exact apt
         refine pure_ (i := 1) (N := some 36) (v := ?_) (a' := ?_) #[tt, tt, ff, ff, ff, ff, ff, ff, ff, ff, ff, ff] rfl rfl (any_of HT_.out (by kernel_rfl)) (fun _ _ _ h => h) (Or.inl ⟨by rfl, ?_⟩) ?_ ?_
         rotate_left; intro w'; go_simp; with_reducible rfl; rotate_left; exact apt
         refine pure_ (i := 2) (N := some 37) (v := ?_) (a' := ?_) #[tt, tt, tt, ff, ff, ff, ff, ff, ff, ff, ff, ff] rfl rfl (any_of HT_.out (by kernel_rfl)) (fun _ _ _ h => h) (Or.inl ⟨by rfl, ?_⟩) ?_ ?_
         rotate_left; intro w'; go_simp; with_reducible rfl; rotate_left; exact apt
         refine pure_ (i := 3) (N := some 38) (v := ?_) (a' := ?_) #[tt, tt, tt, tt, ff, ff, ff, ff, ff, ff, ff, ff] rfl rfl (any_of HT_.out (by kernel_rfl)) (fun _ _ _ h => h) (Or.inl ⟨by rfl, ?_⟩) ?_ ?_
         rotate_left; intro w'; go_simp; with_reducible rfl; rotate_left; exact apt
         refine pure_ (i := 4) (N := some 39) (v := ?_) (a' := ?_) #[tt, tt, tt, tt, tt, ff, ff, ff, ff, ff, ff, ff] rfl rfl (any_of HT_.out (by kernel_rfl)) (fun _ _ _ h => h) (Or.inl ⟨by rfl, ?_⟩) ?_ ?_
         rotate_left; intro w'; go_simp; with_reducible rfl; rotate_left; exact apt
         refine pure_ (i := 5) (N := some 40) (v := ?_) (a' := ?_) #[tt, tt, tt, tt, tt, tt, ff, ff, ff, ff, ff, ff] rfl rfl (any_of HT_.out (by kernel_rfl)) (fun _ _ _ h => h) (Or.inl ⟨by rfl, ?_⟩) ?_ ?_
         rotate_left; intro w'; go_simp; with_reducible rfl; rotate_left; exact apt
         refine pure_ (i := 6) (N := some 41) (v := ?_) (a' := ?_) #[tt, tt, tt, tt, tt, tt, tt, ff, ff, ff, ff, ff] rfl rfl (any_of HT_.out (by kernel_rfl)) (fun _ _ _ h => h) (Or.inl ⟨by rfl, ?_⟩) ?_ ?_
         rotate_left; intro w'; go_simp; with_reducible rfl; rotate_left; exact apt
         refine pure_ (i := 8) (N := some 43) (v := ?_) (a' := ?_) #[tt, tt, tt, tt, tt, tt, tt, ff, tt, ff, ff, ff] rfl rfl (any_of HT_.out (by kernel_rfl)) (fun _ _ _ h => h) (Or.inl ⟨by rfl, ?_⟩) ?_ ?_
         rotate_left; intro w'; go_simp; with_reducible rfl; rotate_left; exact apt
         refine take_ (i := 7) (N := some 42) (v := ?_) (a' := ?_) #[tt, tt, tt, tt, tt, tt, tt, tt, tt, ff, ff, ff] rfl rfl (take_ofW HT_.out HW_.out (by kernel_rfl)) (fun _ _ _ h => h) (Or.inl ⟨by rfl, ?_⟩) hHeld ?_ ?_
         rotate_left; rintro w' ⟨s0, s1, s2, s3, s4, s5, s6⟩; go_simp; with_reducible rfl; rotate_left; exact apt
         refine take_ (i := 9) (N := some 44) (v := ?_) (a' := ?_) #[tt, tt, tt, tt, tt, tt, tt, tt, tt, tt, ff, ff] rfl rfl (take_ofW HT_.out HW_.out (by kernel_rfl)) (fun _ _ _ h => h) (Or.inl ⟨by rfl, ?_⟩) hHeld ?_ ?_
         rotate_left; rintro w' ⟨s0, s1, s2, s3, s4, s5, s6⟩; go_simp; with_reducible rfl; rotate_left; exact apt
         refine pure_ (i := 10) (N := some 45) (v := ?_) (a' := ?_) #[tt, tt, tt, tt, tt, tt, tt, tt, tt, tt, tt, ff] rfl rfl (any_of HT_.out (by kernel_rfl)) (fun _ _ _ h => h) (Or.inl ⟨by rfl, ?_⟩) ?_ ?_
         rotate_left; intro w'; go_simp; with_reducible rfl; rotate_left; exact apt
         refine pure_ (i := 11) (N := some 46) (v := ?_) (a' := ?_) #[tt, tt, tt, tt, tt, tt, tt, tt, tt, tt, tt, tt] rfl rfl (any_of HT_.out (by kernel_rfl)) (fun _ _ _ h => h) (Or.inl ⟨by rfl, ?_⟩) ?_ ?_
         rotate_left; intro w'; go_simp; with_reducible rfl; rotate_left; exact apt
         refine done_ (done_of HT_.out (by kernel_rfl)) ?_
         try go_wp2
         go_meet
         case rel => exact ⟨_, ((((rd_T78 l1 x10_1).f0) != a0_0)), (by first | rfl | (simp; done) | (simp [*]; done)), H', ⟨by have := HK1.out; first | omega | exact Nat.le_refl _⟩, ⟨by (with_reducible repeat (first | apply Kd.R_alloc | apply Kd.R_drewN | apply Kd.R_drew)); exact HO_9.out⟩, ⟨by (with_reducible repeat (first | refine blk_drewN ?_ _ | refine blk_drew ?_ | refine blk_alloc ?_ _)); exact BK342.out⟩, ⟨by (with_reducible repeat (first | refine blk_drewN ?_ _ | refine blk_drew ?_ | refine blk_alloc ?_ _)); exact BK343.out⟩, ⟨by (with_reducible repeat (first | refine blk_drewN ?_ _ | refine blk_drew ?_ | refine blk_alloc ?_ _)); exact BK345.out⟩, ⟨bel⟩⟩
        ·replace c27 := Bool.eq_false_iff.mpr c27
         subst c27
         rw [if_neg (show ¬ (false = true) by decide)] at H
         have H' := Aside0.mk H
         clear H
         try go_wp2
         replace HO_9 := Aside0.mk (Kd.R_drew HO_9.out)
         replace BK342 := Aside0.mk (blk_drew BK342.out)
         replace BK343 := Aside0.mk (blk_drew BK343.out)
         replace BK345 := Aside0.mk (blk_drew BK345.out)
         replace HB := Aside0.mk (below_drew1 HB.out)
         refine start_ (n := 12) (S := fun w' => True) (ds := []) #[ff, ff, ff, ff, ff, ff, ff, ff, ff, ff, ff, ff] (by kernel_rfl) rfl rfl trivial (fun hHeld => ?_); refine with_tabW formeref38_Course.tab12 formeref38_Course.bits12 (fun HT_ HW_ => ?_)
         generalize w26.drew = w29 at HO_9 BK342 BK343 BK345 HB hHeld ⊢
         refine pure_ (i := 0) (N := some 35) (v := ?_) (a' := ?_) #[tt, ff, ff, ff, ff, ff, ff, ff, ff, ff, ff, ff] rfl rfl (any_of HT_.out (by kernel_rfl)) (fun _ _ _ h => h) (Or.inl ⟨by rfl, ?_⟩) ?_ ?_
         rotate_left; intro w'; go_simp; with_reducible rfl; rotate_left; exact apt
         refine pure_ (i := 1) (N := some 36) (v := ?_) (a' := ?_) #[tt, tt, ff, ff, ff, ff, ff, ff, ff, ff, ff, ff] rfl rfl (any_of HT_.out (by kernel_rfl)) (fun _ _ _ h => h) (Or.inl ⟨by rfl, ?_⟩) ?_ ?_
         rotate_left; intro w'; go_simp; with_reducible rfl; rotate_left; exact apt
         refine pure_ (i := 2) (N := some 37) (v := ?_) (a' := ?_) #[tt, tt, tt, ff, ff, ff, ff, ff, ff, ff, ff, ff] rfl rfl (any_of HT_.out (by kernel_rfl)) (fun _ _ _ h => h) (Or.inl ⟨by rfl, ?_⟩) ?_ ?_
         rotate_left; intro w'; go_simp; with_reducible rfl; rotate_left; exact apt
         refine pure_ (i := 3) (N := some 38) (v := undef) (a' := ?_) #[tt, tt, tt, tt, ff, ff, ff, ff, ff, ff, ff, ff] rfl rfl (any_of HT_.out (by kernel_rfl)) (fun _ _ _ h => h) (Or.inr ⟨by rfl, rfl⟩) ?_ ?_
         rotate_left
         ·exact apt
         refine pure_ (i := 4) (N := some 39) (v := undef) (a' := ?_) #[tt, tt, tt, tt, tt, ff, ff, ff, ff, ff, ff, ff] rfl rfl (any_of HT_.out (by kernel_rfl)) (fun _ _ _ h => h) (Or.inr ⟨by rfl, rfl⟩) ?_ ?_
         rotate_left
         ·exact apt
         refine pure_ (i := 5) (N := some 40) (v := undef) (a' := ?_) #[tt, tt, tt, tt, tt, tt, ff, ff, ff, ff, ff, ff] rfl rfl (any_of HT_.out (by kernel_rfl)) (fun _ _ _ h => h) (Or.inr ⟨by rfl, rfl⟩) ?_ ?_
         rotate_left
         ·exact apt
         refine pure_ (i := 6) (N := some 41) (v := undef) (a' := ?_) #[tt, tt, tt, tt, tt, tt, tt, ff, ff, ff, ff, ff] rfl rfl (any_of HT_.out (by kernel_rfl)) (fun _ _ _ h => h) (Or.inr ⟨by rfl, rfl⟩) ?_ ?_
         rotate_left
         ·exact apt
         refine pure_ (i := 7) (N := some 42) (v := undef) (a' := ?_) #[tt, tt, tt, tt, tt, tt, tt, tt, ff, ff, ff, ff] rfl rfl (any_of HT_.out (by kernel_rfl)) (fun _ _ _ h => h) (Or.inr ⟨by rfl, rfl⟩) ?_ ?_
         rotate_left
         ·exact apt
         refine pure_ (i := 8) (N := some 43) (v := undef) (a' := ?_) #[tt, tt, tt, tt, tt, tt, tt, tt, tt, ff, ff, ff] rfl rfl (any_of HT_.out (by kernel_rfl)) (fun _ _ _ h => h) (Or.inr ⟨by rfl, rfl⟩) ?_ ?_
         rotate_left
         ·exact apt
         refine pure_ (i := 9) (N := some 44) (v := undef) (a' := ?_) #[tt, tt, tt, tt, tt, tt, tt, tt, tt, tt, ff, ff] rfl rfl (any_of HT_.out (by kernel_rfl)) (fun _ _ _ h => h) (Or.inr ⟨by rfl, rfl⟩) ?_ ?_
         rotate_left
         ·exact apt
         refine pure_ (i := 10) (N := some 45) (v := undef) (a' := ?_) #[tt, tt, tt, tt, tt, tt, tt, tt, tt, tt, tt, ff] rfl rfl (any_of HT_.out (by kernel_rfl)) (fun _ _ _ h => h) (Or.inr ⟨by rfl, rfl⟩) ?_ ?_
         rotate_left
         ·exact apt
         refine pure_ (i := 11) (N := some 46) (v := ?_) (a' := ?_) #[tt, tt, tt, tt, tt, tt, tt, tt, tt, tt, tt, tt] rfl rfl (any_of HT_.out (by kernel_rfl)) (fun _ _ _ h => h) (Or.inl ⟨by rfl, ?_⟩) ?_ ?_
         rotate_left; intro w'; go_simp; with_reducible rfl; rotate_left; exact apt
         refine done_ (done_of HT_.out (by kernel_rfl)) ?_
         try go_wp2
         go_meet
         case rel => exact ⟨_, (true), (by first | rfl | (simp; done) | (simp [*]; done)), H', ⟨by have := HK1.out; first | omega | exact Nat.le_refl _⟩, ⟨by (with_reducible repeat (first | apply Kd.R_alloc | apply Kd.R_drewN | apply Kd.R_drew)); exact HO_9.out⟩, ⟨by (with_reducible repeat (first | refine blk_drewN ?_ _ | refine blk_drew ?_ | refine blk_alloc ?_ _)); exact BK342.out⟩, ⟨by (with_reducible repeat (first | refine blk_drewN ?_ _ | refine blk_drew ?_ | refine blk_alloc ?_ _)); exact BK343.out⟩, ⟨by (with_reducible repeat (first | refine blk_drewN ?_ _ | refine blk_drew ?_ | refine blk_alloc ?_ _)); exact BK345.out⟩, ⟨bel⟩⟩
       case rest =>
        clear HC25
        try clear c1
        try clear c2
        try clear p2
        try clear p3
        try clear q3
        try clear hx3
        try clear c4
        try clear c5
        try clear c5b0
        try clear c5b1
        try clear c6
        try clear c8
        try clear c11
        try clear c14
        try clear c19
        try clear c20
        try clear c22
        try clear c22b0
        try clear c23
        try clear c23b0
        try clear c27
        try clear hx346_0
        try clear hx346_1
        try clear hx346_2
        try clear hx346_3
        try clear hx348_0
        try clear hx348_1
        try clear hx348_2
        try clear hx348_3
        try clear p2
        try clear p346
        try clear p348
        try clear q346
        try clear q348
        obtain ⟨kq, x46_24, rfl, HA, HJ24, HO_9, BK342, BK343, BK345, HB⟩ := hcut
        cases kq with
        | zero => exact absurd HA.out (by simp [formeref38_Course.j1])
        | succ kj24 =>
         have H := HA.out
         clear HA
         simp only [formeref38_Course.j1] at H
         by_cases c30 : x46_24 = true
         ·subst c30
          rw [if_pos rfl] at H
          simp only [Option.some.injEq, Prod.mk.injEq] at H
          obtain ⟨rfl, rfl, rfl, rfl, rfl, rfl, rfl⟩ := H
          have hnb31 := NB343_342.out
          have hnc31 := NB342_343.out
          have hnb32 := NB343_345.out
          have hnc32 := NB345_343.out
          obtain ⟨hcz33_0, hcz33_1, hcz33_2, hcz33_3, hcz33_4, hfz33_0, hfz33_1, hfz33_2, hfz33_3, hfz33_4⟩ := cz5 BK343
          go_wp2
          refine bodyPost_ret (results_ctt rfl _ _ gb343 71 #[.int .i64 0, .int .i64 0, .int .i64 0, .int .i64 0, .bool false] (0, 0) _ rfl (by (with_reducible repeat (first | refine blk_drewN ?_ _ | refine blk_drew ?_ | refine blk_alloc ?_ _)); refine blk_put (cs := #[.int .i64 0, .int .i64 0, .int .i64 0, .int .i64 0, .bool x344004_1]) ?_ 4 _ rfl; (with_reducible repeat (first | refine blk_drewN ?_ _ | refine blk_drew ?_ | refine blk_alloc ?_ _)); refine blk_put (cs := #[.int .i64 0, .int .i64 0, .int .i64 0, .int .i64 x344003_1, .bool x344004_1]) ?_ 3 _ rfl; (with_reducible repeat (first | refine blk_drewN ?_ _ | refine blk_drew ?_ | refine blk_alloc ?_ _)); refine blk_put (cs := #[.int .i64 0, .int .i64 0, .int .i64 x344002_1, .int .i64 x344003_1, .bool x344004_1]) ?_ 2 _ rfl; (with_reducible repeat (first | refine blk_drewN ?_ _ | refine blk_drew ?_ | refine blk_alloc ?_ _)); refine blk_put (cs := #[.int .i64 0, .int .i64 x344001_1, .int .i64 x344002_1, .int .i64 x344003_1, .bool x344004_1]) ?_ 1 _ rfl; (with_reducible repeat (first | refine blk_drewN ?_ _ | refine blk_drew ?_ | refine blk_alloc ?_ _)); refine blk_put (cs := #[.int .i64 x344000_1, .int .i64 x344001_1, .int .i64 x344002_1, .int .i64 x344003_1, .bool x344004_1]) ?_ 0 _ rfl; (with_reducible repeat (first | refine blk_drewN ?_ _ | refine blk_drew ?_ | refine blk_alloc ?_ _)); exact BK343.out) Try.underlying71 rfl (by kernel_rfl)) rfl ?_
          exact ⟨_, by first | rfl | (simp [errW_none, errW_some] <;> rfl) | (simp [*, errW_none, errW_some] <;> rfl), by first | exact Kd.R_nil _ _ _ _ _ | exact Kd.N_nil _ _ _ _ _ | exact Kd.V_nil _ _ _ _ _ | exact Kd.Q_nil _ _ _ _ _ | exact Kd.S_nil _ _ _ _ _, bel⟩
         ·replace c30 := Bool.eq_false_iff.mpr c30
          subst c30
          rw [if_neg (show ¬ (false = true) by decide)] at H
          by_cases c34 : 0 ≤ x10_1
          ·rw [if_pos c34] at H
           have c34b0 : decide (0 ≤ x10_1) = true := decide_eq_true c34
           clear c34
           by_cases c35 : x10_1 < (l1.length : Int)
           ·rw [if_pos c35] at H
            have c35b0 : decide (x10_1 < (l1.length : Int)) = true := decide_eq_true c35
            clear c35
            replace H := Option.bind_eq_some_iff.mp H
            obtain ⟨⟨t350, t351, t352, t353, t354⟩, A360, H⟩ := H
            try dsimp only at H
            have A36 := Aside0.mk A360
            clear A360
            replace H := Option.bind_eq_some_iff.mp H
            obtain ⟨t356, A370, H⟩ := H
            try dsimp only at H
            have A37 := Aside0.mk A370
            clear A370
            by_cases c38 : x9_1.length < 17592186044416
            ·rw [if_pos c38] at H
             have LMc38 := Aside0.mk c38
             clear c38
             obtain ⟨y357, hy357⟩ : ∃ y_ : List Int, y_ = (x9_1 ++ [t356]) := ⟨_, rfl⟩
             replace H : (formeref38_Course.l0 kj24 l1 y357 (wrap64 (x10_1 + 1)) a0_0 a0_1 l0_2 t350 t351 t352 t353 t354) = some (r1, r2, r3, r4, r5, r6, r7) := by first | (rw [hy357]; with_reducible exact H) | (have H2_ := (Option.bind_some _ _).symm.trans H; rw [hy357]; with_reducible exact H2_) | (have H2_ := (Option.bind_some _ _).symm.trans H; with_reducible exact H2_) | with_reducible exact H | (rw [hy357]; exact H) | exact H
             have Ny357 := Aside0.mk hy357
             clear hy357
             have H' := Aside0.mk H
             clear H
             try go_wp2
             replace HO_9 := Aside0.mk (Kd.R_drew HO_9.out)
             replace BK342 := Aside0.mk (blk_drew BK342.out)
             replace BK343 := Aside0.mk (blk_drew BK343.out)
             replace BK345 := Aside0.mk (blk_drew BK345.out)
             replace HB := Aside0.mk (below_drew1 HB.out)
             have p349 : 0 ≤ (x10_1 : Int) := of_decide_eq_true (by first | (with_reducible assumption) | assumption)
             have q349 : x10_1 < (l1.length : Int) := of_decide_eq_true (by first | (with_reducible assumption) | assumption)
             obtain ⟨ad349, e349, hx349_0, hx349_1, hx349_2, hx349_3⟩ := at_T78 HR1.out x10_1 p349 q349
             have hw349_3 := hx349_3
             have hw349_2 := hx349_2
             have hw349_1 := hx349_1
             have hw349_0 := hx349_0
             obtain rfl : ad346 = ad349 := (by injection e349)
             replace hx349_0 := hxl HB hx349_0
             replace hx349_1 := hxl HB hx349_1
             replace hx349_2 := hxl HB hx349_2
             replace hx349_3 := hxl HB hx349_3
             replace p349 := eq_true p349
             replace q349 := eq_true q349
             refine start_ (n := 8) (S := fun w' => w'.cell? ⟨gb342, 0, none⟩ = some (.int .i64 a0_0) ∧ w'.cell? ⟨gb342, 1, none⟩ = some (.int .i64 a0_1) ∧ w'.cell? ⟨gb342, 2, none⟩ = some (.slice A0_2 l0_2.length c0_2) ∧ w'.cell? ⟨gb345, 0, none⟩ = some (.int .i64 x346000_1) ∧ w'.cell? ⟨gb345, 1, none⟩ = some (.int .i64 x346001_1) ∧ w'.cell? ⟨gb345, 2, none⟩ = some (.int .i64 x346002_1) ∧ w'.cell? ⟨gb345, 3, none⟩ = some (.int .i64 x346003_1) ∧ w'.cell? ⟨gb345, 4, none⟩ = some (.bool x346004_1) ∧ w'.cell? (ad346.add ((x10_1).toNat * 4)) = some (.int .i64 ((rd_T78 l1 x10_1).f0)) ∧ w'.cell? ⟨(ad346.add ((x10_1).toNat * 4)).block, (ad346.add ((x10_1).toNat * 4)).off + 1, none⟩ = some (.int .i64 ((rd_T78 l1 x10_1).f1)) ∧ w'.cell? ⟨(ad346.add ((x10_1).toNat * 4)).block, (ad346.add ((x10_1).toNat * 4)).off + 2, none⟩ = some (.int .i64 ((rd_T78 l1 x10_1).f2)) ∧ w'.cell? ⟨(ad346.add ((x10_1).toNat * 4)).block, (ad346.add ((x10_1).toNat * 4)).off + 3, none⟩ = some (.int .i64 ((rd_T78 l1 x10_1).f3))) (ds := [7]) #[ff, ff, ff, ff, ff, ff, ff, ff] (by kernel_rfl) rfl rfl ⟨(blk_cell BK342.out 0).trans rfl, (blk_cell BK342.out 1).trans rfl, (blk_cell BK342.out 2).trans rfl, (blk_cell BK345.out 0).trans rfl, (blk_cell BK345.out 1).trans rfl, (blk_cell BK345.out 2).trans rfl, (blk_cell BK345.out 3).trans rfl, (blk_cell BK345.out 4).trans rfl, ((HB.out.cell (World.block_lt_of_cell? w _ hw349_0)).trans hw349_0), ((HB.out.cell (World.block_lt_of_cell? w _ hw349_1)).trans hw349_1), ((HB.out.cell (World.block_lt_of_cell? w _ hw349_2)).trans hw349_2), ((HB.out.cell (World.block_lt_of_cell? w _ hw349_3)).trans hw349_3)⟩ (fun hHeld => ?_); refine with_tabW formeref38_Course.tab14 formeref38_Course.bits14 (fun HT_ HW_ => ?_)
             generalize wc.drew = w39 at HO_9 BK342 BK343 BK345 HB hx349_0 hx349_1 hx349_2 hx349_3 hHeld ⊢
             refine pure_ (i := 2) (N := some 50) (v := ?_) (a' := ?_) #[ff, ff, tt, ff, ff, ff, ff, ff] rfl rfl (any_of HT_.out (by kernel_rfl)) (fun _ _ _ h => h) (Or.inl ⟨by rfl, ?_⟩) ?_ ?_
             rotate_left; intro w'; go_simp; with_reducible rfl; rotate_left; exact apt
             refine pure_ (i := 3) (N := some 51) (v := ?_) (a' := ?_) #[ff, ff, tt, tt, ff, ff, ff, ff] rfl rfl (any_of HT_.out (by kernel_rfl)) (fun _ _ _ h => h) (Or.inl ⟨by rfl, ?_⟩) ?_ ?_
             rotate_left; intro w'; go_simp; with_reducible rfl; rotate_left; exact apt
             refine pure_ (i := 4) (N := some 52) (v := ?_) (a' := ?_) #[ff, ff, tt, tt, tt, ff, ff, ff] rfl rfl (any_of HT_.out (by kernel_rfl)) (fun _ _ _ h => h) (Or.inl ⟨by rfl, ?_⟩) ?_ ?_
             rotate_left; intro w'; go_simp; with_reducible rfl; rotate_left; exact apt
             refine take_ (i := 0) (N := some 48) (v := ?_) (a' := ?_) #[tt, ff, tt, tt, tt, ff, ff, ff] rfl rfl (take_ofW HT_.out HW_.out (by kernel_rfl)) (fun _ _ _ h => h) (Or.inl ⟨by rfl, ?_⟩) hHeld ?_ ?_
             rotate_left; rintro w' ⟨s0, s1, s2, s3, s4, s5, s6, s7, s8, s9, s10, s11⟩; go_simp; with_reducible rfl; rotate_left; exact apt
             refine take_ (i := 1) (N := some 49) (v := ?_) (a' := ?_) #[tt, tt, tt, tt, tt, ff, ff, ff] rfl rfl (take_ofW HT_.out HW_.out (by kernel_rfl)) (fun _ _ _ h => h) (Or.inl ⟨by rfl, ?_⟩) hHeld ?_ ?_
             rotate_left; rintro w' ⟨s0, s1, s2, s3, s4, s5, s6, s7, s8, s9, s10, s11⟩; go_simp; with_reducible rfl; rotate_left; exact apt
             refine take_ (i := 5) (N := some 53) (v := ?_) (a' := ?_) #[tt, tt, tt, tt, tt, tt, ff, ff] rfl rfl (take_ofW HT_.out HW_.out (by kernel_rfl)) (fun _ _ _ h => h) (Or.inl ⟨by rfl, ?_⟩) hHeld ?_ ?_
             rotate_left; rintro w' ⟨s0, s1, s2, s3, s4, s5, s6, s7, s8, s9, s10, s11⟩; go_simp; with_reducible rfl; rotate_left; exact apt
             refine one_ (i := 6) (N := some 54) #[tt, tt, tt, tt, tt, tt, tt, ff] rfl rfl (one_of HT_.out (by kernel_rfl)) (by decide) (fun K hK => ?_)
             refine goes_ Try.func112 (by kernel_rfl) rfl #[.agg #[.int .i64 a0_0, .int .i64 a0_1, .slice A0_2 l0_2.length c0_2], .agg #[.int .i64 x346000_1, .int .i64 x346001_1, .int .i64 x346002_1, .int .i64 x346003_1, .bool x346004_1], .agg #[.int .i64 ((rd_T78 l1 x10_1).f0), .int .i64 ((rd_T78 l1 x10_1).f1), .int .i64 ((rd_T78 l1 x10_1).f2), .int .i64 ((rd_T78 l1 x10_1).f3)]] (by rfl) rfl rfl gla ?_
             with_reducible refine (formeref38_judge.calls kj24 a0_0 a0_1 _ _ l0_2 x346000_1 x346001_1 x346002_1 x346003_1 x346004_1 ((rd_T78 l1 x10_1).f0) ((rd_T78 l1 x10_1).f1) ((rd_T78 l1 x10_1).f2) ((rd_T78 l1 x10_1).f3) t350 t351 t352 t353 t354 _ ?side1 ?side2 A36.out).mono ?_
             (case side1 => repeat (first | exact (Kd.C_below HR0_2.out HB.out) | (with_reducible refine Kd.C_alloc ?_ _) | (with_reducible refine Kd.C_drewN ?_ _) | (with_reducible refine Kd.C_drew ?_)))
             (case side2 => exact HC0_2.out)
             rintro e w40 ⟨rfl, hb⟩
             refine ⟨_, rfl, ?_⟩
             replace HO_9 := hoa HO_9 hb
             replace BK342 := bka BK342 hb
             replace BK343 := bka BK343 hb
             replace BK345 := bka BK345 hb
             replace HB := hba hb
             (try clear hb)
             (try clear hb2)
             (try clear hk)
             (try clear hi)
             refine hK.out _ _ ⟨(blk_cell BK342.out 0).trans rfl, (blk_cell BK342.out 1).trans rfl, (blk_cell BK342.out 2).trans rfl, (blk_cell BK345.out 0).trans rfl, (blk_cell BK345.out 1).trans rfl, (blk_cell BK345.out 2).trans rfl, (blk_cell BK345.out 3).trans rfl, (blk_cell BK345.out 4).trans rfl, ((HB.out.cell (World.block_lt_of_cell? w _ hw349_0)).trans hw349_0), ((HB.out.cell (World.block_lt_of_cell? w _ hw349_1)).trans hw349_1), ((HB.out.cell (World.block_lt_of_cell? w _ hw349_2)).trans hw349_2), ((HB.out.cell (World.block_lt_of_cell? w _ hw349_3)).trans hw349_3)⟩ (fun hHeld => ?_)
             clear hK K
             refine norm_ (a' := ?_) ?_ ?_
             rotate_left
             ·show Act.put _ (some 54) _ = _
              simp only [Act.put, List.setIfInBounds_toArray, List.set_cons_zero, List.set_cons_succ, i64_w, i32_w]
              rfl
             refine last_ (i := 7) (N := none) #[tt, tt, tt, tt, tt, tt, tt, tt] rfl rfl (one_of HT_.out (by kernel_rfl)) (by decide) (fun K hK => ?_)
             have hs41 : w40.cell? ⟨gb345, 0, none⟩ = some (.int .i64 x346000_1) := (blk_cell BK345.out 0).trans rfl
             have hfs41 := blk_frozen BK345.out 0
             have hns41_0 := NB342_345.out
             have hns41_1 := NB343_345.out
             have hms41_0 := NB345_342.out
             have hms41_1 := NB345_343.out
             have hs42 : w40.cell? ⟨gb345, 1, none⟩ = some (.int .i64 x346001_1) := (blk_cell BK345.out 1).trans rfl
             have hfs42 := blk_frozen BK345.out 1
             have hns42_0 := NB342_345.out
             have hns42_1 := NB343_345.out
             have hms42_0 := NB345_342.out
             have hms42_1 := NB345_343.out
             have hs43 : w40.cell? ⟨gb345, 2, none⟩ = some (.int .i64 x346002_1) := (blk_cell BK345.out 2).trans rfl
             have hfs43 := blk_frozen BK345.out 2
             have hns43_0 := NB342_345.out
             have hns43_1 := NB343_345.out
             have hms43_0 := NB345_342.out
             have hms43_1 := NB345_343.out
             have hs44 : w40.cell? ⟨gb345, 3, none⟩ = some (.int .i64 x346003_1) := (blk_cell BK345.out 3).trans rfl
             have hfs44 := blk_frozen BK345.out 3
             have hns44_0 := NB342_345.out
             have hns44_1 := NB343_345.out
             have hms44_0 := NB345_342.out
             have hms44_1 := NB345_343.out
             have hs45 : w40.cell? ⟨gb345, 4, none⟩ = some (.bool x346004_1) := (blk_cell BK345.out 4).trans rfl
             have hfs45 := blk_frozen BK345.out 4
             have hns45_0 := NB342_345.out
             have hns45_1 := NB343_345.out
             have hms45_0 := NB345_342.out
             have hms45_1 := NB345_343.out
             refine skip_ (w1 := ?_) (by rfl) rfl ?_ ?_
             rotate_left
             ·go_simp
              rfl
             refine hK.out _ _ ?_
             clear hK K
             refine done_ (done_of HT_.out (by kernel_rfl)) ?_
             try go_wp2
             have n0_ : Aside0 (Kd.R (Kd.int .i64) 3 (((((w40.setCell ⟨gb345, 0, none⟩ (.int .i64 t350)).setCell ⟨gb345, 1, none⟩ (.int .i64 t351)).setCell ⟨gb345, 2, none⟩ (.int .i64 t352)).setCell ⟨gb345, 3, none⟩ (.int .i64 t353)).setCell ⟨gb345, 4, none⟩ (.bool t354)) w.heap.size (fun _ => True) u9 x9_1) := ⟨by (with_reducible repeat (first | apply Kd.R_alloc | apply Kd.R_drewN | apply Kd.R_drew)); exact Kd.R_mono (Kd.R_far (p := ⟨gb345, 4, none⟩) (Kd.R_far (p := ⟨gb345, 3, none⟩) (Kd.R_far (p := ⟨gb345, 2, none⟩) (Kd.R_far (p := ⟨gb345, 1, none⟩) (Kd.R_far (p := ⟨gb345, 0, none⟩) (Kd.R_types HO_9.out BK345.out (by decide)) (fun _ hk => hk.2) (.int .i64 t350)) (fun _ hk => hk.2) (.int .i64 t351)) (fun _ hk => hk.2) (.int .i64 t352)) (fun _ hk => hk.2) (.int .i64 t353)) (fun _ hk => hk.2) (.bool t354)) (fun _ hk => trivial)⟩
             have n1_ : Aside0 ((((((w40.setCell ⟨gb345, 0, none⟩ (.int .i64 t350)).setCell ⟨gb345, 1, none⟩ (.int .i64 t351)).setCell ⟨gb345, 2, none⟩ (.int .i64 t352)).setCell ⟨gb345, 3, none⟩ (.int .i64 t353)).setCell ⟨gb345, 4, none⟩ (.bool t354)).heap[gb342]? = some (.cells #[.int .i64 a0_0, .int .i64 a0_1, .slice A0_2 l0_2.length c0_2] 69 (0, 0))) := ⟨bkf BK342⟩
             have n2_ : Aside0 ((((((w40.setCell ⟨gb345, 0, none⟩ (.int .i64 t350)).setCell ⟨gb345, 1, none⟩ (.int .i64 t351)).setCell ⟨gb345, 2, none⟩ (.int .i64 t352)).setCell ⟨gb345, 3, none⟩ (.int .i64 t353)).setCell ⟨gb345, 4, none⟩ (.bool t354)).heap[gb343]? = some (.cells #[.int .i64 x344000_1, .int .i64 x344001_1, .int .i64 x344002_1, .int .i64 x344003_1, .bool x344004_1] 71 (0, 0))) := ⟨bkf BK343⟩
             have n3_ : Aside0 ((((((w40.setCell ⟨gb345, 0, none⟩ (.int .i64 t350)).setCell ⟨gb345, 1, none⟩ (.int .i64 t351)).setCell ⟨gb345, 2, none⟩ (.int .i64 t352)).setCell ⟨gb345, 3, none⟩ (.int .i64 t353)).setCell ⟨gb345, 4, none⟩ (.bool t354)).heap[gb345]? = some (.cells #[.int .i64 t350, .int .i64 t351, .int .i64 t352, .int .i64 t353, .bool t354] 71 (0, 0))) := ⟨by (with_reducible repeat (first | refine blk_drewN ?_ _ | refine blk_drew ?_ | refine blk_alloc ?_ _)); refine blk_put (cs := #[.int .i64 t350, .int .i64 t351, .int .i64 t352, .int .i64 t353, .bool x346004_1]) ?_ 4 _ rfl; (with_reducible repeat (first | refine blk_drewN ?_ _ | refine blk_drew ?_ | refine blk_alloc ?_ _)); refine blk_put (cs := #[.int .i64 t350, .int .i64 t351, .int .i64 t352, .int .i64 x346003_1, .bool x346004_1]) ?_ 3 _ rfl; (with_reducible repeat (first | refine blk_drewN ?_ _ | refine blk_drew ?_ | refine blk_alloc ?_ _)); refine blk_put (cs := #[.int .i64 t350, .int .i64 t351, .int .i64 x346002_1, .int .i64 x346003_1, .bool x346004_1]) ?_ 2 _ rfl; (with_reducible repeat (first | refine blk_drewN ?_ _ | refine blk_drew ?_ | refine blk_alloc ?_ _)); refine blk_put (cs := #[.int .i64 t350, .int .i64 x346001_1, .int .i64 x346002_1, .int .i64 x346003_1, .bool x346004_1]) ?_ 1 _ rfl; (with_reducible repeat (first | refine blk_drewN ?_ _ | refine blk_drew ?_ | refine blk_alloc ?_ _)); refine blk_put (cs := #[.int .i64 x346000_1, .int .i64 x346001_1, .int .i64 x346002_1, .int .i64 x346003_1, .bool x346004_1]) ?_ 0 _ rfl; (with_reducible repeat (first | refine blk_drewN ?_ _ | refine blk_drew ?_ | refine blk_alloc ?_ _)); exact BK345.out⟩
             have n4_ : Aside0 (Below w.heap.size w (((((w40.setCell ⟨gb345, 0, none⟩ (.int .i64 t350)).setCell ⟨gb345, 1, none⟩ (.int .i64 t351)).setCell ⟨gb345, 2, none⟩ (.int .i64 t352)).setCell ⟨gb345, 3, none⟩ (.int .i64 t353)).setCell ⟨gb345, 4, none⟩ (.bool t354))) := ⟨bel⟩
             (try clear HO_9)
             (try clear BK342)
             (try clear BK343)
             (try clear BK345)
             (try clear HB)
             generalize (((((w40.setCell ⟨gb345, 0, none⟩ (.int .i64 t350)).setCell ⟨gb345, 1, none⟩ (.int .i64 t351)).setCell ⟨gb345, 2, none⟩ (.int .i64 t352)).setCell ⟨gb345, 3, none⟩ (.int .i64 t353)).setCell ⟨gb345, 4, none⟩ (.bool t354)) = w46 at n0_ n1_ n2_ n3_ n4_ ⊢
             have HO_9 := n0_
             have BK342 := n1_
             have BK343 := n2_
             have BK345 := n3_
             have HB := n4_
             clear n0_ n1_ n2_ n3_ n4_
             replace HO_9 := Aside0.mk (Kd.R_drew HO_9.out)
             replace BK342 := Aside0.mk (blk_drew BK342.out)
             replace BK343 := Aside0.mk (blk_drew BK343.out)
             replace BK345 := Aside0.mk (blk_drew BK345.out)
             replace HB := Aside0.mk (below_drew1 HB.out)
             have p355 : 0 ≤ (x10_1 : Int) := of_decide_eq_true (by first | (with_reducible assumption) | assumption)
             have q355 : x10_1 < (l1.length : Int) := of_decide_eq_true (by first | (with_reducible assumption) | assumption)
             obtain ⟨ad355, e355, hx355_0, hx355_1, hx355_2, hx355_3⟩ := at_T78 HR1.out x10_1 p355 q355
             have hw355_3 := hx355_3
             have hw355_2 := hx355_2
             have hw355_1 := hx355_1
             have hw355_0 := hx355_0
             obtain rfl : ad346 = ad355 := (by injection e355)
             replace hx355_0 := hxl HB hx355_0
             replace hx355_1 := hxl HB hx355_1
             replace hx355_2 := hxl HB hx355_2
             replace hx355_3 := hxl HB hx355_3
             replace p355 := eq_true p355
             replace q355 := eq_true q355
             refine start_ (n := 11) (S := fun w' => w'.cell? ⟨gb342, 0, none⟩ = some (.int .i64 a0_0) ∧ w'.cell? ⟨gb342, 1, none⟩ = some (.int .i64 a0_1) ∧ w'.cell? ⟨gb342, 2, none⟩ = some (.slice A0_2 l0_2.length c0_2) ∧ w'.cell? (ad346.add ((x10_1).toNat * 4)) = some (.int .i64 ((rd_T78 l1 x10_1).f0)) ∧ w'.cell? ⟨(ad346.add ((x10_1).toNat * 4)).block, (ad346.add ((x10_1).toNat * 4)).off + 1, none⟩ = some (.int .i64 ((rd_T78 l1 x10_1).f1)) ∧ w'.cell? ⟨(ad346.add ((x10_1).toNat * 4)).block, (ad346.add ((x10_1).toNat * 4)).off + 2, none⟩ = some (.int .i64 ((rd_T78 l1 x10_1).f2)) ∧ w'.cell? ⟨(ad346.add ((x10_1).toNat * 4)).block, (ad346.add ((x10_1).toNat * 4)).off + 3, none⟩ = some (.int .i64 ((rd_T78 l1 x10_1).f3))) (ds := []) #[ff, ff, ff, ff, ff, ff, ff, ff, ff, ff, ff] (by kernel_rfl) rfl rfl ⟨(blk_cell BK342.out 0).trans rfl, (blk_cell BK342.out 1).trans rfl, (blk_cell BK342.out 2).trans rfl, ((HB.out.cell (World.block_lt_of_cell? w _ hw355_0)).trans hw355_0), ((HB.out.cell (World.block_lt_of_cell? w _ hw355_1)).trans hw355_1), ((HB.out.cell (World.block_lt_of_cell? w _ hw355_2)).trans hw355_2), ((HB.out.cell (World.block_lt_of_cell? w _ hw355_3)).trans hw355_3)⟩ (fun hHeld => ?_); refine with_tabW formeref38_Course.tab15 formeref38_Course.bits15 (fun HT_ HW_ => ?_)
             generalize w46.drew = w47 at HO_9 BK342 BK343 BK345 HB hx355_0 hx355_1 hx355_2 hx355_3 hHeld ⊢
             refine pure_ (i := 0) (N := some 55) (v := ?_) (a' := ?_) #[tt, ff, ff, ff, ff, ff, ff, ff, ff, ff, ff] rfl rfl (any_of HT_.out (by kernel_rfl)) (fun _ _ _ h => h) (Or.inl ⟨by rfl, ?_⟩) ?_ ?_
             rotate_left; intro w'; go_simp; with_reducible rfl; rotate_left; exact apt
             refine pure_ (i := 2) (N := some 57) (v := ?_) (a' := ?_) #[tt, ff, tt, ff, ff, ff, ff, ff, ff, ff, ff] rfl rfl (any_of HT_.out (by kernel_rfl)) (fun _ _ _ h => h) (Or.inl ⟨by rfl, ?_⟩) ?_ ?_
             rotate_left; intro w'; go_simp; with_reducible rfl; rotate_left; exact apt
             refine pure_ (i := 3) (N := some 58) (v := ?_) (a' := ?_) #[tt, ff, tt, tt, ff, ff, ff, ff, ff, ff, ff] rfl rfl (any_of HT_.out (by kernel_rfl)) (fun _ _ _ h => h) (Or.inl ⟨by rfl, ?_⟩) ?_ ?_
             rotate_left; intro w'; go_simp; with_reducible rfl; rotate_left; exact apt
             refine pure_ (i := 4) (N := some 59) (v := ?_) (a' := ?_) #[tt, ff, tt, tt, tt, ff, ff, ff, ff, ff, ff] rfl rfl (any_of HT_.out (by kernel_rfl)) (fun _ _ _ h => h) (Or.inl ⟨by rfl, ?_⟩) ?_ ?_
             rotate_left; intro w'; go_simp; with_reducible rfl; rotate_left; exact apt
             refine pure_ (i := 5) (N := some 60) (v := ?_) (a' := ?_) #[tt, ff, tt, tt, tt, tt, ff, ff, ff, ff, ff] rfl rfl (any_of HT_.out (by kernel_rfl)) (fun _ _ _ h => h) (Or.inl ⟨by rfl, ?_⟩) ?_ ?_
             rotate_left; intro w'; go_simp; with_reducible rfl; rotate_left; exact apt
             refine take_ (i := 1) (N := some 56) (v := ?_) (a' := ?_) #[tt, tt, tt, tt, tt, tt, ff, ff, ff, ff, ff] rfl rfl (take_ofW HT_.out HW_.out (by kernel_rfl)) (fun _ _ _ h => h) (Or.inl ⟨by rfl, ?_⟩) hHeld ?_ ?_
             rotate_left; rintro w' ⟨s0, s1, s2, s3, s4, s5, s6⟩; go_simp; with_reducible rfl; rotate_left; exact apt
             refine take_ (i := 6) (N := some 61) (v := ?_) (a' := ?_) #[tt, tt, tt, tt, tt, tt, tt, ff, ff, ff, ff] rfl rfl (take_ofW HT_.out HW_.out (by kernel_rfl)) (fun _ _ _ h => h) (Or.inl ⟨by rfl, ?_⟩) hHeld ?_ ?_
             rotate_left; rintro w' ⟨s0, s1, s2, s3, s4, s5, s6⟩; go_simp; with_reducible rfl; rotate_left; exact apt
             refine one_ (i := 7) (N := some 62) #[tt, tt, tt, tt, tt, tt, tt, tt, ff, ff, ff] rfl rfl (one_of HT_.out (by kernel_rfl)) (by decide) (fun K hK => ?_)
             refine goes_ Try.func101 (by kernel_rfl) rfl #[.agg #[.int .i64 a0_0, .int .i64 a0_1, .slice A0_2 l0_2.length c0_2], .int .i64 ((rd_T78 l1 x10_1).f1)] (by rfl) rfl rfl gla ?_
             with_reducible refine (formeref38_promised.calls kj24 a0_0 a0_1 _ _ l0_2 ((rd_T78 l1 x10_1).f1) t356 _ ?side1 ?side2 A37.out).mono ?_
             (case side1 => repeat (first | exact (Kd.C_below HR0_2.out HB.out) | (with_reducible refine Kd.C_alloc ?_ _) | (with_reducible refine Kd.C_drewN ?_ _) | (with_reducible refine Kd.C_drew ?_)))
             (case side2 => exact HC0_2.out)
             rintro e w48 ⟨rfl, hb⟩
             refine ⟨_, rfl, ?_⟩
             replace HO_9 := hoa HO_9 hb
             replace BK342 := bka BK342 hb
             replace BK343 := bka BK343 hb
             replace BK345 := bka BK345 hb
             replace HB := hba hb
             (try clear hb)
             (try clear hb2)
             (try clear hk)
             (try clear hi)
             refine hK.out _ _ ⟨(blk_cell BK342.out 0).trans rfl, (blk_cell BK342.out 1).trans rfl, (blk_cell BK342.out 2).trans rfl, ((HB.out.cell (World.block_lt_of_cell? w _ hw355_0)).trans hw355_0), ((HB.out.cell (World.block_lt_of_cell? w _ hw355_1)).trans hw355_1), ((HB.out.cell (World.block_lt_of_cell? w _ hw355_2)).trans hw355_2), ((HB.out.cell (World.block_lt_of_cell? w _ hw355_3)).trans hw355_3)⟩ (fun hHeld => ?_)
             clear hK K
             refine norm_ (a' := ?_) ?_ ?_
             rotate_left
             ·show Act.put _ (some 62) _ = _
              simp only [Act.put, List.setIfInBounds_toArray, List.set_cons_zero, List.set_cons_succ, i64_w, i32_w]
              rfl
             refine one_ (i := 8) (N := some 63) #[tt, tt, tt, tt, tt, tt, tt, tt, tt, ff, ff] rfl rfl (one_of HT_.out (by kernel_rfl)) (by decide) (fun K hK => ?_)
             refine value_ (w1 := ?_) (v := ?_) (by rfl) rfl ?_ ?_
             rotate_left 2
             ·go_simp
              constructor
              ·rfl
              ·rfl
             refine hK.out _ _ ⟨(blk_cell (blk_alloc BK342.out _) 0).trans rfl, (blk_cell (blk_alloc BK342.out _) 1).trans rfl, (blk_cell (blk_alloc BK342.out _) 2).trans rfl, (World.cell?_alloc_lt _ _ _ (World.block_lt_of_cell? _ _ (((HB.out.cell (World.block_lt_of_cell? w _ hw355_0)).trans hw355_0)))).trans (((HB.out.cell (World.block_lt_of_cell? w _ hw355_0)).trans hw355_0)), (World.cell?_alloc_lt _ _ _ (World.block_lt_of_cell? _ _ (((HB.out.cell (World.block_lt_of_cell? w _ hw355_1)).trans hw355_1)))).trans (((HB.out.cell (World.block_lt_of_cell? w _ hw355_1)).trans hw355_1)), (World.cell?_alloc_lt _ _ _ (World.block_lt_of_cell? _ _ (((HB.out.cell (World.block_lt_of_cell? w _ hw355_2)).trans hw355_2)))).trans (((HB.out.cell (World.block_lt_of_cell? w _ hw355_2)).trans hw355_2)), (World.cell?_alloc_lt _ _ _ (World.block_lt_of_cell? _ _ (((HB.out.cell (World.block_lt_of_cell? w _ hw355_3)).trans hw355_3)))).trans (((HB.out.cell (World.block_lt_of_cell? w _ hw355_3)).trans hw355_3))⟩ (fun hHeld => ?_)
             clear hK K
             refine norm_ (a' := ?_) ?_ ?_
             rotate_left
             ·show Act.put _ (some 63) _ = _
              simp only [Act.put, List.setIfInBounds_toArray, List.set_cons_zero, List.set_cons_succ, i64_w, i32_w]
              rfl
             refine one_ (i := 9) (N := some 64) #[tt, tt, tt, tt, tt, tt, tt, tt, tt, tt, ff] rfl rfl (one_of HT_.out (by kernel_rfl)) (by decide) (fun K hK => ?_)
             refine Kd.R_append_step (Kd.int .i64) (w0 := w) w.heap.size (by rfl) (.tmp 55) (.tmp 63) 24 3 (.int .i64 0) 8 rfl Try.underlying24 info3 rfl (by decide) (by omega) u9 x9_1 t356 [.int .i64 t356] (fun _ => True) (fun _ => False) rfl rfl ?aP (fun _ hk => hk.elim) ?aF ?aO ?aB ?aS ?aL ?_
             (case aP => exact rfl)
             (case aB => exact bel)
             (case aF => exact (fun _ _ => trivial))
             (case aO => exact (krl HO_9))
             (case aS => exact (below_size bel))
             (case aL => have := LMc38.out; omega)
             intro v358 w49 ho hb hg hat
             rw [← Ny357.out] at ho
             have HO359 := Aside0.mk (ho)
             replace BK342 := Aside0.mk (blk_grown (bkl BK342) hg (Kd.R_ne HO_9.out BK342.out (by decide)))
             replace BK343 := Aside0.mk (blk_grown (bkl BK343) hg (Kd.R_ne HO_9.out BK343.out (by decide)))
             replace BK345 := Aside0.mk (blk_grown (bkl BK345) hg (Kd.R_ne HO_9.out BK345.out (by decide)))
             replace HB := Aside0.mk (hb)
             clear HO_9
             clear ho hb hg hat
             refine hK.out _ _ ⟨(blk_cell BK342.out 0).trans rfl, (blk_cell BK342.out 1).trans rfl, (blk_cell BK342.out 2).trans rfl, ((HB.out.cell (World.block_lt_of_cell? w _ hw355_0)).trans hw355_0), ((HB.out.cell (World.block_lt_of_cell? w _ hw355_1)).trans hw355_1), ((HB.out.cell (World.block_lt_of_cell? w _ hw355_2)).trans hw355_2), ((HB.out.cell (World.block_lt_of_cell? w _ hw355_3)).trans hw355_3)⟩ (fun hHeld => ?_)
             clear hK K
             refine norm_ (a' := ?_) ?_ ?_
             rotate_left
             ·show Act.put _ (some 64) _ = _
              simp only [Act.put, List.setIfInBounds_toArray, List.set_cons_zero, List.set_cons_succ, i64_w, i32_w]
              rfl
             refine pure_ (i := 10) (N := some 9) (v := ?_) (a' := ?_) #[tt, tt, tt, tt, tt, tt, tt, tt, tt, tt, tt] rfl rfl (any_of HT_.out (by kernel_rfl)) (fun _ _ _ h => h) (Or.inl ⟨by rfl, ?_⟩) ?_ ?_
             rotate_left; intro w'; go_simp; with_reducible rfl; rotate_left; exact apt
             refine done_ (done_of HT_.out (by kernel_rfl)) ?_
             try go_wp2
             go_roundg kj24
             case measure => have := HK1.out; have := HJ24.out; omega
             case rel => exact ⟨(y357), (wrap64 (x10_1 + 1)), (x344000_1), (x344001_1), (x344002_1), (x344003_1), (x344004_1), (t350), (t351), (t352), (t353), (t354), (by first | rfl | (simp; done) | (simp [*]; done)), H', ⟨by have := HK1.out; have := HJ24.out; omega⟩, ⟨by (with_reducible repeat (first | apply Kd.R_alloc | apply Kd.R_drewN | apply Kd.R_drew)); exact HO359.out⟩, ⟨by (with_reducible repeat (first | refine blk_drewN ?_ _ | refine blk_drew ?_ | refine blk_alloc ?_ _)); exact BK342.out⟩, ⟨by (with_reducible repeat (first | refine blk_drewN ?_ _ | refine blk_drew ?_ | refine blk_alloc ?_ _)); exact BK343.out⟩, ⟨by (with_reducible repeat (first | refine blk_drewN ?_ _ | refine blk_drew ?_ | refine blk_alloc ?_ _)); exact BK345.out⟩, ⟨bel⟩⟩
            ·rw [if_neg c38] at H
             exact absurd H (by simp)
           ·rw [if_neg c35] at H
            exact absurd H (by simp)
          ·rw [if_neg c34] at H
           exact absurd H (by simp)
      ·rw [if_neg c23] at H
       exact absurd H (by simp)
     ·rw [if_neg c22] at H
      have c22b0 : decide (x10_1 < (l1.length : Int)) = false := decide_eq_false c22
      clear c22
      simp only [Option.some.injEq, Prod.mk.injEq] at H
      obtain ⟨rfl, rfl, rfl, rfl, rfl, rfl, rfl⟩ := H
      have hnb50 := NB345_342.out
      have hnc50 := NB342_345.out
      have hnb51 := NB345_343.out
      have hnc51 := NB343_345.out
      obtain ⟨hcz52_0, hcz52_1, hcz52_2, hcz52_3, hcz52_4, hfz52_0, hfz52_1, hfz52_2, hfz52_3, hfz52_4⟩ := cz5 BK345
      have hnb53 := NB343_342.out
      have hnc53 := NB342_343.out
      obtain ⟨hcz54_0, hcz54_1, hcz54_2, hcz54_3, hcz54_4, hfz54_0, hfz54_1, hfz54_2, hfz54_3, hfz54_4⟩ := cz5 BK343
      go_wp2
      refine bodyPost_ret (results_ctt rfl _ _ gb343 71 #[.int .i64 x346000_1, .int .i64 x346001_1, .int .i64 x346002_1, .int .i64 x346003_1, .bool x346004_1] (0, 0) _ rfl (by (with_reducible repeat (first | refine blk_drewN ?_ _ | refine blk_drew ?_ | refine blk_alloc ?_ _)); refine blk_put (cs := #[.int .i64 x346000_1, .int .i64 x346001_1, .int .i64 x346002_1, .int .i64 x346003_1, .bool x344004_1]) ?_ 4 _ rfl; (with_reducible repeat (first | refine blk_drewN ?_ _ | refine blk_drew ?_ | refine blk_alloc ?_ _)); refine blk_put (cs := #[.int .i64 x346000_1, .int .i64 x346001_1, .int .i64 x346002_1, .int .i64 x344003_1, .bool x344004_1]) ?_ 3 _ rfl; (with_reducible repeat (first | refine blk_drewN ?_ _ | refine blk_drew ?_ | refine blk_alloc ?_ _)); refine blk_put (cs := #[.int .i64 x346000_1, .int .i64 x346001_1, .int .i64 x344002_1, .int .i64 x344003_1, .bool x344004_1]) ?_ 2 _ rfl; (with_reducible repeat (first | refine blk_drewN ?_ _ | refine blk_drew ?_ | refine blk_alloc ?_ _)); refine blk_put (cs := #[.int .i64 x346000_1, .int .i64 x344001_1, .int .i64 x344002_1, .int .i64 x344003_1, .bool x344004_1]) ?_ 1 _ rfl; (with_reducible repeat (first | refine blk_drewN ?_ _ | refine blk_drew ?_ | refine blk_alloc ?_ _)); refine blk_put (cs := #[.int .i64 x344000_1, .int .i64 x344001_1, .int .i64 x344002_1, .int .i64 x344003_1, .bool x344004_1]) ?_ 0 _ rfl; (with_reducible repeat (first | refine blk_drewN ?_ _ | refine blk_drew ?_ | refine blk_alloc ?_ _)); exact BK343.out) Try.underlying71 rfl (by kernel_rfl)) rfl ?_
      exact ⟨_, by first | rfl | (simp [errW_none, errW_some] <;> rfl) | (simp [*, errW_none, errW_some] <;> rfl), by (with_reducible repeat (first | apply Kd.R_alloc | apply Kd.R_drewN | apply Kd.R_drew)); exact Kd.R_mono (Kd.R_far (p := ⟨gb343, 4, none⟩) (Kd.R_far (p := ⟨gb343, 3, none⟩) (Kd.R_far (p := ⟨gb343, 2, none⟩) (Kd.R_far (p := ⟨gb343, 1, none⟩) (Kd.R_far (p := ⟨gb343, 0, none⟩) (Kd.R_types HO_9.out BK343.out (by decide)) (fun _ hk => hk.2) (.int .i64 x346000_1)) (fun _ hk => hk.2) (.int .i64 x346001_1)) (fun _ hk => hk.2) (.int .i64 x346002_1)) (fun _ hk => hk.2) (.int .i64 x346003_1)) (fun _ hk => hk.2) (.bool x346004_1)) (fun _ hk => trivial), bel⟩
 ·replace c4 := Bool.eq_false_iff.mpr c4
  subst c4
  rw [if_neg (show ¬ (false = true) by decide)] at H
  simp only [Option.some.injEq, Prod.mk.injEq] at H
  obtain ⟨rfl, rfl, rfl, rfl, rfl, rfl, rfl⟩ := H
  go_enter Try.func66, Try.ntmps66
  go_wp2_with (first | ((with_reducible refine gate_dst (N := 2) rfl ?_); refine box_event ?hg (N := 2) ?hd (cs := #[.int .i64 a0_0, .int .i64 a0_1, .slice A0_2 l0_2.length c0_2]) (t := 69) ?hr ?_; (case hd => rfl); (case hg => rfl); (case hr => first | (go_simp; done) | (go_simp; rfl)); intro gb342 hg w55 hbox hb; have BK342 := Aside0.mk (hbox); have GW342 := gwa w hg; have GE342 := gwa w hg; replace HB := hba hb; clear hb hbox hg) | ((with_reducible refine gate_dst (N := 4) rfl ?_); refine box_event ?hg (N := 4) ?hd (cs := #[.int .i64 0, .int .i64 0, .int .i64 0, .int .i64 0, .bool false]) (t := 71) ?hr ?_; (case hd => rfl); (case hg => rfl); (case hr => first | (go_simp; done) | (go_simp; rfl)); intro gb343 hg w56 hbox hb; have BK343 := Aside0.mk (hbox); have GW343 := gwa w hg; have GE343 := gwa w hg; have NB342_343 := nal BK342 hg; have NB343_342 := nag BK342 hg; replace BK342 := bka BK342 hb; replace HB := hba hb; clear hb hbox hg; have hnb57 := NB342_343.out; have hnc57 := NB343_342.out; obtain ⟨hcz58_0, hcz58_1, hcz58_2, hfz58_0, hfz58_1, hfz58_2⟩ := cz3 BK342) | ((with_reducible refine gate_callee (f := 62) rfl ?_); refine goesL_ (some 13) rfl rfl Try.func62 (by kernel_rfl) rfl #[.agg #[.int .i64 a0_0, .int .i64 a0_1, .slice A0_2 l0_2.length c0_2]] rfl gla ?_; (with_reducible refine (formeref38_Valid.calls k a0_0 a0_1 _ _ l0_2 false _ ?side1 ?side2 A3.out).mono ?_); (case side1 => repeat (first | exact (Kd.C_below HR0_2.out HB.out) | (with_reducible refine Kd.C_alloc ?_ _) | (with_reducible refine Kd.C_drewN ?_ _) | (with_reducible refine Kd.C_drew ?_))); (case side2 => exact HC0_2.out); rintro e w59 ⟨rfl, hb⟩; refine ⟨_, rfl, ?_⟩; replace BK342 := bka BK342 hb; replace BK343 := bka BK343 hb; replace HB := hba hb; (try clear hb); obtain ⟨hcz60_0, hcz60_1, hcz60_2, hcz60_3, hcz60_4, hfz60_0, hfz60_1, hfz60_2, hfz60_3, hfz60_4⟩ := cz5 BK343))
  refine bodyPost_ret (results_ctt rfl _ _ gb343 71 #[.int .i64 0, .int .i64 0, .int .i64 0, .int .i64 0, .bool false] (0, 0) _ rfl (by (with_reducible repeat (first | refine blk_drewN ?_ _ | refine blk_drew ?_ | refine blk_alloc ?_ _)); refine blk_put (cs := #[.int .i64 0, .int .i64 0, .int .i64 0, .int .i64 0, .bool false]) ?_ 4 _ rfl; (with_reducible repeat (first | refine blk_drewN ?_ _ | refine blk_drew ?_ | refine blk_alloc ?_ _)); refine blk_put (cs := #[.int .i64 0, .int .i64 0, .int .i64 0, .int .i64 0, .bool false]) ?_ 3 _ rfl; (with_reducible repeat (first | refine blk_drewN ?_ _ | refine blk_drew ?_ | refine blk_alloc ?_ _)); refine blk_put (cs := #[.int .i64 0, .int .i64 0, .int .i64 0, .int .i64 0, .bool false]) ?_ 2 _ rfl; (with_reducible repeat (first | refine blk_drewN ?_ _ | refine blk_drew ?_ | refine blk_alloc ?_ _)); refine blk_put (cs := #[.int .i64 0, .int .i64 0, .int .i64 0, .int .i64 0, .bool false]) ?_ 1 _ rfl; (with_reducible repeat (first | refine blk_drewN ?_ _ | refine blk_drew ?_ | refine blk_alloc ?_ _)); refine blk_put (cs := #[.int .i64 0, .int .i64 0, .int .i64 0, .int .i64 0, .bool false]) ?_ 0 _ rfl; (with_reducible repeat (first | refine blk_drewN ?_ _ | refine blk_drew ?_ | refine blk_alloc ?_ _)); exact BK343.out) Try.underlying71 rfl (by kernel_rfl)) rfl ?_
  exact ⟨_, by first | rfl | (simp [errW_none, errW_some] <;> rfl) | (simp [*, errW_none, errW_some] <;> rfl), by first | exact Kd.R_nil _ _ _ _ _ | exact Kd.N_nil _ _ _ _ _ | exact Kd.V_nil _ _ _ _ _ | exact Kd.Q_nil _ _ _ _ _ | exact Kd.S_nil _ _ _ _ _, bel⟩
end Go.Proofs.Ytjpghfjaloglhaa.PContract

