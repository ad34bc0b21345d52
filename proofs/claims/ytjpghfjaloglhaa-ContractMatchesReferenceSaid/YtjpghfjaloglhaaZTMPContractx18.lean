import Derived.Test.YtjpghfjaloglhaaZTMZip
import Derived.Test.YtjpghfjaloglhaaZTMPContractx0
import Derived.Test.YtjpghfjaloglhaaZTMPContractx2
import Derived.Test.YtjpghfjaloglhaaZTMPContractx7
import Derived.Test.YtjpghfjaloglhaaZTMPContractx8
import Derived.Test.YtjpghfjaloglhaaZTMPContractx9
import Derived.Test.YtjpghfjaloglhaaZTMPContractx13
import Derived.Test.YtjpghfjaloglhaaZTMPContractx16
import Derived.Test.YtjpghfjaloglhaaZTMPContractx17
import Derived.Test.YtjpghfjaloglhaaZTMEContractCValid
import Derived.Test.YtjpghfjaloglhaaZTMEContractCourse
import Derived.Test.YtjpghfjaloglhaaZTMEContractHead38
import Derived.Test.YtjpghfjaloglhaaZTMEContractJudge
namespace Go.Proofs.Ytjpghfjaloglhaa.PContract
open Go.RowKit Go.Proofs.YtjpghfjaloglhaaW.PrintWords Go.Proofs.YtjpghfjaloglhaaW.PrintLast Go.Proofs.YtjpghfjaloglhaaW.PrintMore Go.Proofs.Ytjpghfjaloglhaa.Zip
attribute [local go_sem] max2_int min2_int max_two min_two max_three min_three max_four min_four   -- for this text's walks alone
set_option linter.unusedVariables false
set_option linter.unusedSimpArgs false
attribute [local go_sem high] eqA71
mutual
def formelaw38_ContractMatchesReference.j0 : Nat → List (S78) → Int → Bool → Bool → Int → Int → List (S61) → Int → Int → Int → Int → Bool → Option (Bool)
 | 0, _, _, _, _, _, _, _, _, _, _, _, _ => none
 | k + 1, x2, x3, x9, x39, x361000, x361001, x361002, x362000, x362001, x362002, x362003, x362004 => if x39 = true then (some x9) else ((contract_Promised.f x361000 x361001 x361002 x3).bind fun bt364 => ((formeref38_Promised.f k x361000 x361001 x361002 x3).bind fun bt366 => (if x9 = true then ((contract_Valid.f x361000 x361001 x361002).bind fun t368 => ((formeref38_Valid.f k x361000 x361001 x361002).bind fun t369 => (if (t368 == t369) = true then (if bt364.1 = bt366.1 then (formelaw38_ContractMatchesReference.j1 k x2 (bt364.2 == bt366.2) x361000 x361001 x361002 x362000 x362001 x362002 x362003 x362004) else (formelaw38_ContractMatchesReference.j1 k x2 false x361000 x361001 x361002 x362000 x362001 x362002 x362003 x362004)) else (formelaw38_ContractMatchesReference.j1 k x2 false x361000 x361001 x361002 x362000 x362001 x362002 x362003 x362004)))) else (formelaw38_ContractMatchesReference.j1 k x2 false x361000 x361001 x361002 x362000 x362001 x362002 x362003 x362004))))
def formelaw38_ContractMatchesReference.j1 : Nat → List (S78) → Bool → Int → Int → List (S61) → Int → Int → Int → Int → Bool → Option (Bool)
 | 0, _, _, _, _, _, _, _, _, _, _ => none
 | k + 1, x2, x9, x361000, x361001, x361002, x362000, x362001, x362002, x362003, x362004 => if (x2.length : Int) > 0 then (if 0 < (x2.length : Int) then ((contract_Judge.f x361000 x361001 x361002 x362000 x362001 x362002 x362003 x362004 ((rd_T78 x2 0).f0) ((rd_T78 x2 0).f1) ((rd_T78 x2 0).f2) ((rd_T78 x2 0).f3)).bind fun bt371 => ((formeref38_Judge.f k x361000 x361001 x361002 x362000 x362001 x362002 x362003 x362004 ((rd_T78 x2 0).f0) ((rd_T78 x2 0).f1) ((rd_T78 x2 0).f2) ((rd_T78 x2 0).f3)).bind fun bt381 => (if x9 = true then (if (bt371.1 == bt381.1 && (bt371.2.1 == bt381.2.1 && (bt371.2.2.1 == bt381.2.2.1 && (bt371.2.2.2.1 == bt381.2.2.2.1 && (bt371.2.2.2.2.1 == bt381.2.2.2.2.1))))) = true then (if bt371.2.2.2.2.2.1 = bt381.2.2.2.2.2.1 then (if (bt371.2.2.2.2.2.2.1 == bt381.2.2.2.2.2.2.1) = true then ((contract_Course.f x361000 x361001 x361002 x2).bind fun bt390 => ((formeref38_Course.f k x361000 x361001 x361002 x2).bind fun bt400 => (if bt371.2.2.2.2.2.2.2 = bt381.2.2.2.2.2.2.2 then (if (bt390.1 == bt400.1 && (bt390.2.1 == bt400.2.1 && (bt390.2.2.1 == bt400.2.2.1 && (bt390.2.2.2.1 == bt400.2.2.2.1 && (bt390.2.2.2.2.1 == bt400.2.2.2.2.1))))) = true then ((formeref02_SameInts.f k bt390.2.2.2.2.2.1 bt400.2.2.2.2.2.1).bind fun t410 => (if t410 = true then (some (bt390.2.2.2.2.2.2 == bt400.2.2.2.2.2.2)) else (some false))) else (some false)) else (some false)))) else ((contract_Course.f x361000 x361001 x361002 x2).bind fun bt411 => ((formeref38_Course.f k x361000 x361001 x361002 x2).bind fun bt421 => (some false)))) else ((contract_Course.f x361000 x361001 x361002 x2).bind fun bt431 => ((formeref38_Course.f k x361000 x361001 x361002 x2).bind fun bt441 => (some false)))) else ((contract_Course.f x361000 x361001 x361002 x2).bind fun bt451 => ((formeref38_Course.f k x361000 x361001 x361002 x2).bind fun bt461 => (some false)))) else ((contract_Course.f x361000 x361001 x361002 x2).bind fun bt471 => ((formeref38_Course.f k x361000 x361001 x361002 x2).bind fun bt481 => (some false)))))) else (none)) else ((contract_Course.f x361000 x361001 x361002 x2).bind fun bt491 => ((formeref38_Course.f k x361000 x361001 x361002 x2).bind fun bt501 => (if x9 = true then (if (bt491.1 == bt501.1 && (bt491.2.1 == bt501.2.1 && (bt491.2.2.1 == bt501.2.2.1 && (bt491.2.2.2.1 == bt501.2.2.2.1 && (bt491.2.2.2.2.1 == bt501.2.2.2.2.1))))) = true then ((formeref02_SameInts.f k bt491.2.2.2.2.2.1 bt501.2.2.2.2.2.1).bind fun t511 => (if t511 = true then (some (bt491.2.2.2.2.2.2 == bt501.2.2.2.2.2.2)) else (some false))) else (some false)) else (some false))))
end
def formelaw38_ContractMatchesReference.f (k : Nat) (a0_0 : Int) (a0_1 : Int) (l0_2 : List (S61)) (a1_0 : Int) (a1_1 : Int) (a1_2 : Int) (a1_3 : Int) (a1_4 : Bool) (l2 : List (S78)) (a3 : Int) : Option (Bool) := (formelaw38_head.f).bind fun t362 => ((formeref38_Few.f k a0_0 a0_1 l0_2).bind fun t363 => (if t363 = true then (if (l2.length : Int) > 40 then (formelaw38_ContractMatchesReference.j0 k l2 a3 t362 (decide ((l2.length : Int) ≤ 500)) a0_0 a0_1 l0_2 a1_0 a1_1 a1_2 a1_3 a1_4) else (formelaw38_ContractMatchesReference.j0 k l2 a3 t362 false a0_0 a0_1 l0_2 a1_0 a1_1 a1_2 a1_3 a1_4)) else (formelaw38_ContractMatchesReference.j0 k l2 a3 t362 true a0_0 a0_1 l0_2 a1_0 a1_1 a1_2 a1_3 a1_4)))
theorem formelaw38_ContractMatchesReference.mono_l : ∀ k, (∀ y0 y1 y2 y3 y4 y5 y6 y7 y8 y9 y10 y11, LeO (formelaw38_ContractMatchesReference.j0 k y0 y1 y2 y3 y4 y5 y6 y7 y8 y9 y10 y11) (formelaw38_ContractMatchesReference.j0 (k + 1) y0 y1 y2 y3 y4 y5 y6 y7 y8 y9 y10 y11)) ∧ (∀ y0 y1 y2 y3 y4 y5 y6 y7 y8 y9, LeO (formelaw38_ContractMatchesReference.j1 k y0 y1 y2 y3 y4 y5 y6 y7 y8 y9) (formelaw38_ContractMatchesReference.j1 (k + 1) y0 y1 y2 y3 y4 y5 y6 y7 y8 y9))
 | 0 => ⟨fun _ _ _ _ _ _ _ _ _ _ _ _ r h => by simp [formelaw38_ContractMatchesReference.j0] at h, fun _ _ _ _ _ _ _ _ _ _ r h => by simp [formelaw38_ContractMatchesReference.j1] at h⟩
 | k + 1 => by
  obtain ⟨ih0, ih1⟩ := formelaw38_ContractMatchesReference.mono_l k
  refine ⟨?_, ?_⟩
  ·intro y0 y1 y2 y3 y4 y5 y6 y7 y8 y9 y10 y11
   unfold formelaw38_ContractMatchesReference.j0
   repeat' first
   | (with_reducible exact ih0 _ _ _ _ _ _ _ _ _ _ _ _)
   | (with_reducible exact ih1 _ _ _ _ _ _ _ _ _ _)
   | (with_reducible exact formeref02_SameInts.mono _ _ _)
   | (with_reducible exact formeref38_Course.mono _ _ _ _ _)
   | (with_reducible exact formeref38_Few.mono _ _ _ _)
   | (with_reducible exact formeref38_Judge.mono _ _ _ _ _ _ _ _ _ _ _ _ _)
   | (with_reducible exact formeref38_Promised.mono _ _ _ _ _)
   | (with_reducible exact formeref38_Valid.mono _ _ _ _)
   | (with_reducible exact LeO.refl _)
   | (with_reducible exact LeO.none _)
   | (with_reducible refine LeO.ite ?_ ?_)
   | (with_reducible refine LeO.bind ?_ (fun _ => ?_))
   | exact ih0 _ _ _ _ _ _ _ _ _ _ _ _
   | exact ih1 _ _ _ _ _ _ _ _ _ _
   | exact formeref02_SameInts.mono _ _ _
   | exact formeref38_Course.mono _ _ _ _ _
   | exact formeref38_Few.mono _ _ _ _
   | exact formeref38_Judge.mono _ _ _ _ _ _ _ _ _ _ _ _ _
   | exact formeref38_Promised.mono _ _ _ _ _
   | exact formeref38_Valid.mono _ _ _ _
   | exact LeO.none _
   | refine LeO.ite ?_ ?_
   | refine LeO.bind ?_ (fun _ => ?_)
  ·intro y0 y1 y2 y3 y4 y5 y6 y7 y8 y9
   unfold formelaw38_ContractMatchesReference.j1
   repeat' first
   | (with_reducible exact ih0 _ _ _ _ _ _ _ _ _ _ _ _)
   | (with_reducible exact ih1 _ _ _ _ _ _ _ _ _ _)
   | (with_reducible exact formeref02_SameInts.mono _ _ _)
   | (with_reducible exact formeref38_Course.mono _ _ _ _ _)
   | (with_reducible exact formeref38_Few.mono _ _ _ _)
   | (with_reducible exact formeref38_Judge.mono _ _ _ _ _ _ _ _ _ _ _ _ _)
   | (with_reducible exact formeref38_Promised.mono _ _ _ _ _)
   | (with_reducible exact formeref38_Valid.mono _ _ _ _)
   | (with_reducible exact LeO.refl _)
   | (with_reducible exact LeO.none _)
   | (with_reducible refine LeO.ite ?_ ?_)
   | (with_reducible refine LeO.bind ?_ (fun _ => ?_))
   | exact ih0 _ _ _ _ _ _ _ _ _ _ _ _
   | exact ih1 _ _ _ _ _ _ _ _ _ _
   | exact formeref02_SameInts.mono _ _ _
   | exact formeref38_Course.mono _ _ _ _ _
   | exact formeref38_Few.mono _ _ _ _
   | exact formeref38_Judge.mono _ _ _ _ _ _ _ _ _ _ _ _ _
   | exact formeref38_Promised.mono _ _ _ _ _
   | exact formeref38_Valid.mono _ _ _ _
   | exact LeO.none _
   | refine LeO.ite ?_ ?_
   | refine LeO.bind ?_ (fun _ => ?_)
theorem formelaw38_ContractMatchesReference.mono : ∀ a0 a1 a2 a3 a4 a5 a6 a7 a8 a9 k, LeO (formelaw38_ContractMatchesReference.f k a0 a1 a2 a3 a4 a5 a6 a7 a8 a9) (formelaw38_ContractMatchesReference.f (k + 1) a0 a1 a2 a3 a4 a5 a6 a7 a8 a9) := by
 intro a0 a1 a2 a3 a4 a5 a6 a7 a8 a9 k
 obtain ⟨ih0, ih1⟩ := formelaw38_ContractMatchesReference.mono_l k
 unfold formelaw38_ContractMatchesReference.f
 repeat' first
   | (with_reducible exact ih0 _ _ _ _ _ _ _ _ _ _ _ _)
   | (with_reducible exact ih1 _ _ _ _ _ _ _ _ _ _)
   | (with_reducible exact formeref02_SameInts.mono _ _ _)
   | (with_reducible exact formeref38_Course.mono _ _ _ _ _)
   | (with_reducible exact formeref38_Few.mono _ _ _ _)
   | (with_reducible exact formeref38_Judge.mono _ _ _ _ _ _ _ _ _ _ _ _ _)
   | (with_reducible exact formeref38_Promised.mono _ _ _ _ _)
   | (with_reducible exact formeref38_Valid.mono _ _ _ _)
   | (with_reducible exact LeO.refl _)
   | (with_reducible exact LeO.none _)
   | (with_reducible refine LeO.ite ?_ ?_)
   | (with_reducible refine LeO.bind ?_ (fun _ => ?_))
   | exact ih0 _ _ _ _ _ _ _ _ _ _ _ _
   | exact ih1 _ _ _ _ _ _ _ _ _ _
   | exact formeref02_SameInts.mono _ _ _
   | exact formeref38_Course.mono _ _ _ _ _
   | exact formeref38_Few.mono _ _ _ _
   | exact formeref38_Judge.mono _ _ _ _ _ _ _ _ _ _ _ _ _
   | exact formeref38_Promised.mono _ _ _ _ _
   | exact formeref38_Valid.mono _ _ _ _
   | exact LeO.none _
   | refine LeO.ite ?_ ?_
   | refine LeO.bind ?_ (fun _ => ?_)
def formelaw38_ContractMatchesReference.T6 : Bool × List (List Nat × List Nat) := (true, [([], []), ([0], [0]), ([1], [1]), ([2, 1, 1], [1, 2]), ([1], [1]), ([4, 3, 1], [1, 4]), ([3, 5, 1], [1, 3, 5]), ([1, 6], [1, 6]), ([7, 5], [7]), ([8], [8]), ([8], [8]), ([9, 10, 8], [8, 9, 10]), ([8, 11], [8, 11]), ([12, 8], [12]), ([13], [13]), ([13], [13]), ([14, 15, 13], [13, 14, 15]), ([13, 16], [13, 16]), ([17, 13, 0, 1, 2, 3, 4, 5, 6, 7, 8, 9, 10, 11, 12, 13, 14, 15, 16, 17], [0, 17])])
def formelaw38_ContractMatchesReference.B6 : List Nat := [0, 1, 3, 7, 3, 31, 63, 127, 255, 511, 511, 2047, 4095, 8191, 16383, 16383, 65535, 131071, 262143]
theorem formelaw38_ContractMatchesReference.tab6 : rtab .any (opsOf Try.f16 6) = formelaw38_ContractMatchesReference.T6 := by kernel_rfl
theorem formelaw38_ContractMatchesReference.bits6 : waitsOk formelaw38_ContractMatchesReference.T6.2 formelaw38_ContractMatchesReference.B6 = true := by kernel_rfl
def formelaw38_ContractMatchesReference.T8 : Bool × List (List Nat × List Nat) := (true, [([], []), ([], []), ([], []), ([2], [2]), ([3], [3]), ([0, 1, 4], [0, 1, 4]), ([5], [5]), ([6], [6]), ([6], [6]), ([6], [6]), ([6], [6]), ([], []), ([11, 7, 5, 0, 1, 2, 3, 4, 5, 6, 7, 11], [7, 11]), ([8, 12, 0, 1, 2, 3, 4, 5, 6, 7, 8, 11, 12], [8]), ([9, 13, 0, 1, 2, 3, 4, 5, 6, 7, 8, 9, 11, 12, 13], [9]), ([10, 14, 0, 1, 2, 3, 4, 5, 6, 7, 8, 9, 10, 11, 12, 13, 14], [10])])
def formelaw38_ContractMatchesReference.B8 : List Nat := [0, 0, 0, 4, 12, 31, 63, 127, 127, 127, 127, 0, 2303, 6655, 15359, 32767]
theorem formelaw38_ContractMatchesReference.tab8 : rtab .any (opsOf Try.f16 8) = formelaw38_ContractMatchesReference.T8 := by kernel_rfl
theorem formelaw38_ContractMatchesReference.bits8 : waitsOk formelaw38_ContractMatchesReference.T8.2 formelaw38_ContractMatchesReference.B8 = true := by kernel_rfl
def formelaw38_ContractMatchesReference.T9 : Bool × List (List Nat × List Nat) := (true, [([], []), ([], []), ([], []), ([2], [2]), ([3], [3]), ([0, 1, 4], [0, 1, 4]), ([5], [5]), ([6], [6]), ([6], [6]), ([6], [6]), ([6], [6]), ([], []), ([11, 7, 5, 0, 1, 2, 3, 4, 5, 6, 7, 11], [7, 11]), ([8, 12, 0, 1, 2, 3, 4, 5, 6, 7, 8, 11, 12], [8]), ([9, 13, 0, 1, 2, 3, 4, 5, 6, 7, 8, 9, 11, 12, 13], [9]), ([10, 14, 0, 1, 2, 3, 4, 5, 6, 7, 8, 9, 10, 11, 12, 13, 14], [10])])
def formelaw38_ContractMatchesReference.B9 : List Nat := [0, 0, 0, 4, 12, 31, 63, 127, 127, 127, 127, 0, 2303, 6655, 15359, 32767]
theorem formelaw38_ContractMatchesReference.tab9 : rtab .any (opsOf Try.f16 9) = formelaw38_ContractMatchesReference.T9 := by kernel_rfl
theorem formelaw38_ContractMatchesReference.bits9 : waitsOk formelaw38_ContractMatchesReference.T9.2 formelaw38_ContractMatchesReference.B9 = true := by kernel_rfl
theorem formelaw38_ContractMatchesReference.j1_false {r : Bool} : ∀ {k x2 a b l c d e f g}, formelaw38_ContractMatchesReference.j1 k x2 false a b l c d e f g = some r → r = false := by
 intro k x2 a b l c d e f g h
 cases k with
 | zero => simp [formelaw38_ContractMatchesReference.j1] at h
 | succ k =>
  rw [formelaw38_ContractMatchesReference.j1] at h
  by_cases c1 : (x2.length : Int) > 0
  ·rw [if_pos c1, if_pos (by omega)] at h
   simp only [Bool.false_eq_true, if_false] at h
   simp only [Option.bind_eq_some_iff, Option.some.injEq] at h
   obtain ⟨_, _, _, _, _, _, _, _, h⟩ := h
   exact h.symm
  ·rw [if_neg c1] at h
   simp only [Bool.false_eq_true, if_false] at h
   simp only [Option.bind_eq_some_iff, Option.some.injEq] at h
   obtain ⟨_, _, _, _, h⟩ := h
   exact h.symm
set_option maxHeartbeats 8000000 in
set_option maxRecDepth 100000 in
theorem formelaw38_ContractMatchesReference.calls (k : Nat) (a0_0 : Int) (a0_1 : Int) (A0_2 : Option Addr) (c0_2 : Nat) (l0_2 : List (S61)) (a1_0 : Int) (a1_1 : Int) (a1_2 : Int) (a1_3 : Int) (a1_4 : Bool) (A2 : Option Addr) (c2 : Nat) (l2 : List (S78)) (a3 : Int) (r : Bool) (w : World) (hr0_2 : Kd.C k61 w A0_2 l0_2.length l0_2) (hc0_2 : l0_2.length ≤ c0_2) (hr2 : Kd.C k78 w A2 l2.length l2) (hc2 : l2.length ≤ c2) (h : formelaw38_ContractMatchesReference.f k a0_0 a0_1 l0_2 a1_0 a1_1 a1_2 a1_3 a1_4 l2 a3 = some r) (hTr : r = true := by first | rfl | exact Aside0.out (by assumption)) :
  Calls Try.prog 16 #[.agg #[.int .i64 a0_0, .int .i64 a0_1, .slice A0_2 l0_2.length c0_2], .agg #[.int .i64 a1_0, .int .i64 a1_1, .int .i64 a1_2, .int .i64 a1_3, .bool a1_4], .slice A2 l2.length c2, .int .i64 a3] w fun e w' => e = .returned (.bool r) ∧ Below w.heap.size w w' := by
 have HTr := Aside0.mk hTr
 clear hTr
 have hu69 := Try.underlying69
 have hu71 := Try.underlying71
 have hu78 := Try.underlying78
 have HR0_2 := Aside0.mk hr0_2
 have HC0_2 := Aside0.mk hc0_2
 clear hr0_2 hc0_2
 have HR2 := Aside0.mk hr2
 have HC2 := Aside0.mk hc2
 clear hr2 hc2
 have HB := Aside0.mk (Below.refl w.heap.size w)
 have H := h
 unfold formelaw38_ContractMatchesReference.f at H
 clear h
 replace H := Option.bind_eq_some_iff.mp H
 obtain ⟨t362, A50, H⟩ := H
 try dsimp only at H
 have A5 := Aside0.mk A50
 clear A50
 have HC6 := Aside0.mk H
 clear H
 go_enter Try.func16, Try.ntmps16
 go_upto_region 2 with (first | ((with_reducible refine gate_dst (N := 4) rfl ?_); (try (refine gate_guard (by rfl) ?_; dsimp only)); refine box_event ?hg (N := 4) ?hd (cs := #[.int .i64 a0_0, .int .i64 a0_1, .slice A0_2 l0_2.length c0_2]) (t := 69) ?hr ?_; (case hd => rfl); (case hg => rfl); (case hr => first | (go_simp; done) | (go_simp; rfl)); intro gb360 hg w7 hbox hb; have BK360 := Aside0.mk (hbox); have GW360 := gwa w hg; have GE360 := gwa w hg; replace HB := hba hb; clear hb hbox hg) | ((with_reducible refine gate_dst (N := 5) rfl ?_); (try (refine gate_guard (by rfl) ?_; dsimp only)); refine box_event ?hg (N := 5) ?hd (cs := #[.int .i64 a1_0, .int .i64 a1_1, .int .i64 a1_2, .int .i64 a1_3, .bool a1_4]) (t := 71) ?hr ?_; (case hd => rfl); (case hg => rfl); (case hr => first | (go_simp; done) | (go_simp; rfl)); intro gb361 hg w8 hbox hb; have BK361 := Aside0.mk (hbox); have GW361 := gwa w hg; have GE361 := gwa w hg; have NB360_361 := nal BK360 hg; have NB361_360 := nag BK360 hg; replace BK360 := bka BK360 hb; replace HB := hba hb; clear hb hbox hg) | ((with_reducible refine gate_callee (f := 57) rfl ?_); refine goesL_ (some 26) rfl rfl Try.func57 (by kernel_rfl) rfl #[] rfl gla ?_; (with_reducible refine (formelaw38_head.calls  t362 _ A5.out).mono ?_); rintro e w9 ⟨rfl, hb⟩; refine ⟨_, rfl, ?_⟩; replace BK360 := bka BK360 hb; replace BK361 := bka BK361 hb; replace HB := hba hb; (try clear hb)))
 (try simp only [Act.put, List.setIfInBounds_toArray, List.set_cons_zero, List.set_cons_succ])
 go_cut [39] (fun v39 wc => ∃ (kq : Nat) (x39_5 : Bool), v39 = .bool x39_5 ∧ Aside0 (formelaw38_ContractMatchesReference.j0 kq l2 a3 t362 x39_5 a0_0 a0_1 l0_2 a1_0 a1_1 a1_2 a1_3 a1_4 = some r) ∧ Aside0 (kq ≤ k) ∧ Aside0 (wc.heap[gb360]? = some (.cells #[.int .i64 a0_0, .int .i64 a0_1, (.slice A0_2 l0_2.length c0_2)] 69 (0, 0))) ∧ Aside0 (wc.heap[gb361]? = some (.cells #[.int .i64 a1_0, .int .i64 a1_1, .int .i64 a1_2, .int .i64 a1_3, .bool a1_4] 71 (0, 0))) ∧ Aside0 (Below w.heap.size w wc))
 case first =>
  have H := HC6.out
  clear HC6
  replace H := Option.bind_eq_some_iff.mp H
  obtain ⟨t363, A100, H⟩ := H
  try dsimp only at H
  have A10 := Aside0.mk A100
  clear A100
  by_cases c11 : t363 = true
  ·subst c11
   rw [if_pos rfl] at H
   by_cases c12 : (l2.length : Int) > 40
   ·rw [if_pos c12] at H
    have c12b0 : decide (40 < (l2.length : Int)) = true := decide_eq_true c12
    have c12b1 : decide (40 < l2.length) = true := decide_eq_true (by omega)
    clear c12
    (first | rw [c12b0] | (simp only [i64_w, i32_w]; rw [c12b0]) | skip)
    have H' := Aside0.mk H
    clear H
    have hnb13 := NB360_361.out
    have hnc13 := NB361_360.out
    obtain ⟨hcz14_0, hcz14_1, hcz14_2, hfz14_0, hfz14_1, hfz14_2⟩ := cz3 BK360
    go_wp2_with (first | ((with_reducible refine gate_callee (f := 58) rfl ?_); refine goesL_ (some 28) rfl rfl Try.func58 (by kernel_rfl) rfl #[.agg #[.int .i64 a0_0, .int .i64 a0_1, .slice A0_2 l0_2.length c0_2]] rfl gla ?_; (with_reducible refine (formeref38_Few.calls k a0_0 a0_1 _ _ l0_2 true _ ?side1 ?side2 A10.out).mono ?_); (case side1 => repeat (first | exact (Kd.C_below HR0_2.out HB.out) | (with_reducible refine Kd.C_alloc ?_ _) | (with_reducible refine Kd.C_drewN ?_ _) | (with_reducible refine Kd.C_drew ?_))); (case side2 => exact HC0_2.out); rintro e w15 ⟨rfl, hb⟩; refine ⟨_, rfl, ?_⟩; replace BK360 := bka BK360 hb; replace BK361 := bka BK361 hb; replace HB := hba hb; (try clear hb)))
    go_meet
    case rel => exact ⟨_, (decide ((l2.length : Int) ≤ 500)), (by first | rfl | (simp; done) | (simp [*]; done)), H', ⟨by first | omega | exact Nat.le_refl _⟩, ⟨by (with_reducible repeat (first | refine blk_drewN ?_ _ | refine blk_drew ?_ | refine blk_alloc ?_ _)); exact BK360.out⟩, ⟨by (with_reducible repeat (first | refine blk_drewN ?_ _ | refine blk_drew ?_ | refine blk_alloc ?_ _)); exact BK361.out⟩, ⟨bel⟩⟩
   ·rw [if_neg c12] at H
    have c12b0 : decide (40 < (l2.length : Int)) = false := decide_eq_false c12
    have c12b1 : decide (40 < l2.length) = false := decide_eq_false (by omega)
    clear c12
    (first | rw [c12b0] | (simp only [i64_w, i32_w]; rw [c12b0]) | skip)
    have H' := Aside0.mk H
    clear H
    have hnb16 := NB360_361.out
    have hnc16 := NB361_360.out
    obtain ⟨hcz17_0, hcz17_1, hcz17_2, hfz17_0, hfz17_1, hfz17_2⟩ := cz3 BK360
    go_wp2_with (first | ((with_reducible refine gate_callee (f := 58) rfl ?_); refine goesL_ (some 28) rfl rfl Try.func58 (by kernel_rfl) rfl #[.agg #[.int .i64 a0_0, .int .i64 a0_1, .slice A0_2 l0_2.length c0_2]] rfl gla ?_; (with_reducible refine (formeref38_Few.calls k a0_0 a0_1 _ _ l0_2 true _ ?side1 ?side2 A10.out).mono ?_); (case side1 => repeat (first | exact (Kd.C_below HR0_2.out HB.out) | (with_reducible refine Kd.C_alloc ?_ _) | (with_reducible refine Kd.C_drewN ?_ _) | (with_reducible refine Kd.C_drew ?_))); (case side2 => exact HC0_2.out); rintro e w18 ⟨rfl, hb⟩; refine ⟨_, rfl, ?_⟩; replace BK360 := bka BK360 hb; replace BK361 := bka BK361 hb; replace HB := hba hb; (try clear hb)))
    go_meet
    case rel => exact ⟨_, (false), (by first | rfl | (simp; done) | (simp [*]; done)), H', ⟨by first | omega | exact Nat.le_refl _⟩, ⟨by (with_reducible repeat (first | refine blk_drewN ?_ _ | refine blk_drew ?_ | refine blk_alloc ?_ _)); exact BK360.out⟩, ⟨by (with_reducible repeat (first | refine blk_drewN ?_ _ | refine blk_drew ?_ | refine blk_alloc ?_ _)); exact BK361.out⟩, ⟨bel⟩⟩
  ·replace c11 := Bool.eq_false_iff.mpr c11
   subst c11
   rw [if_neg (show ¬ (false = true) by decide)] at H
   have H' := Aside0.mk H
   clear H
   have hnb19 := NB360_361.out
   have hnc19 := NB361_360.out
   obtain ⟨hcz20_0, hcz20_1, hcz20_2, hfz20_0, hfz20_1, hfz20_2⟩ := cz3 BK360
   go_wp2_with (first | ((with_reducible refine gate_callee (f := 58) rfl ?_); refine goesL_ (some 28) rfl rfl Try.func58 (by kernel_rfl) rfl #[.agg #[.int .i64 a0_0, .int .i64 a0_1, .slice A0_2 l0_2.length c0_2]] rfl gla ?_; (with_reducible refine (formeref38_Few.calls k a0_0 a0_1 _ _ l0_2 false _ ?side1 ?side2 A10.out).mono ?_); (case side1 => repeat (first | exact (Kd.C_below HR0_2.out HB.out) | (with_reducible refine Kd.C_alloc ?_ _) | (with_reducible refine Kd.C_drewN ?_ _) | (with_reducible refine Kd.C_drew ?_))); (case side2 => exact HC0_2.out); rintro e w21 ⟨rfl, hb⟩; refine ⟨_, rfl, ?_⟩; replace BK360 := bka BK360 hb; replace BK361 := bka BK361 hb; replace HB := hba hb; (try clear hb)))
   go_meet
   case rel => exact ⟨_, (true), (by first | rfl | (simp; done) | (simp [*]; done)), H', ⟨by first | omega | exact Nat.le_refl _⟩, ⟨by (with_reducible repeat (first | refine blk_drewN ?_ _ | refine blk_drew ?_ | refine blk_alloc ?_ _)); exact BK360.out⟩, ⟨by (with_reducible repeat (first | refine blk_drewN ?_ _ | refine blk_drew ?_ | refine blk_alloc ?_ _)); exact BK361.out⟩, ⟨bel⟩⟩
 case rest =>
  clear HC6
  try clear c1
  try clear c2
  try clear p2
  try clear c5
  try clear c11
  try clear c12
  try clear c12b0
  try clear c12b1
  try clear c13
  try clear c16
  try clear c19
  obtain ⟨kq, x39_5, rfl, HA, HJ5, BK360, BK361, HB⟩ := hcut
  cases kq with
  | zero => exact absurd HA.out (by simp [formelaw38_ContractMatchesReference.j0])
  | succ kj5 =>
   have H := HA.out
   clear HA
   simp only [formelaw38_ContractMatchesReference.j0] at H
   by_cases c22 : x39_5 = true
   ·subst c22
    rw [if_pos rfl] at H
    obtain rfl := Option.some.inj H
    go_wp2
    go_ret
    exact ⟨by first | rfl | (simp [errW_none, errW_some] <;> rfl) | (simp [*, errW_none, errW_some] <;> rfl), bel⟩
   ·replace c22 := Bool.eq_false_iff.mpr c22
    subst c22
    rw [if_neg (show ¬ (false = true) by decide)] at H
    replace H := Option.bind_eq_some_iff.mp H
    obtain ⟨⟨t364, t365⟩, A230, H⟩ := H
    try dsimp only at H
    have A23 := Aside0.mk A230
    clear A230
    replace H := Option.bind_eq_some_iff.mp H
    obtain ⟨⟨t366, t367⟩, A240, H⟩ := H
    try dsimp only at H
    have A24 := Aside0.mk A240
    clear A240
    have HC25 := Aside0.mk H
    clear H
    have hnb26 := NB360_361.out
    have hnc26 := NB361_360.out
    obtain ⟨hcz27_0, hcz27_1, hcz27_2, hfz27_0, hfz27_1, hfz27_2⟩ := cz3 BK360
    go_upto_region 6 with (first | ((with_reducible refine gate_callee (f := 59) rfl ?_); refine goesL_ (some 44) rfl rfl Try.func59 (by kernel_rfl) rfl #[.agg #[.int .i64 a0_0, .int .i64 a0_1, .slice A0_2 l0_2.length c0_2], .int .i64 a3] rfl gla ?_; (with_reducible refine (contract_Promised.calls a0_0 a0_1 _ _ l0_2 a3 t364 t365 _ ?side1 ?side2 A23.out).mono ?_); (case side1 => repeat (first | exact (Kd.C_below HR0_2.out HB.out) | (with_reducible refine Kd.C_alloc ?_ _) | (with_reducible refine Kd.C_drewN ?_ _) | (with_reducible refine Kd.C_drew ?_))); (case side2 => exact HC0_2.out); rintro e w28 ⟨rfl, hb⟩; refine ⟨_, rfl, ?_⟩; replace BK360 := bka BK360 hb; replace BK361 := bka BK361 hb; replace HB := hba hb; (try clear hb); obtain ⟨hcz29_0, hcz29_1, hcz29_2, hfz29_0, hfz29_1, hfz29_2⟩ := cz3 BK360) | ((with_reducible refine gate_callee (f := 60) rfl ?_); refine goesL_ (some 50) rfl rfl Try.func60 (by kernel_rfl) rfl #[.agg #[.int .i64 a0_0, .int .i64 a0_1, .slice A0_2 l0_2.length c0_2], .int .i64 a3] rfl gla ?_; (with_reducible refine (formeref38_Promised.calls kj5 a0_0 a0_1 _ _ l0_2 a3 t366 t367 _ ?side1 ?side2 A24.out).mono ?_); (case side1 => repeat (first | exact (Kd.C_below HR0_2.out HB.out) | (with_reducible refine Kd.C_alloc ?_ _) | (with_reducible refine Kd.C_drewN ?_ _) | (with_reducible refine Kd.C_drew ?_))); (case side2 => exact HC0_2.out); rintro e w30 ⟨rfl, hb⟩; refine ⟨_, rfl, ?_⟩; replace BK360 := bka BK360 hb; replace BK361 := bka BK361 hb; replace HB := hba hb; (try clear hb)))
    (try simp only [Act.put, List.setIfInBounds_toArray, List.set_cons_zero, List.set_cons_succ])
    go_cut [9] (fun v9 wc => ∃ (kq : Nat) (x9_24 : Bool), v9 = .bool x9_24 ∧ Aside0 (formelaw38_ContractMatchesReference.j1 kq l2 x9_24 a0_0 a0_1 l0_2 a1_0 a1_1 a1_2 a1_3 a1_4 = some r) ∧ Aside0 (kq ≤ kj5) ∧ Aside0 (wc.heap[gb360]? = some (.cells #[.int .i64 a0_0, .int .i64 a0_1, (.slice A0_2 l0_2.length c0_2)] 69 (0, 0))) ∧ Aside0 (wc.heap[gb361]? = some (.cells #[.int .i64 a1_0, .int .i64 a1_1, .int .i64 a1_2, .int .i64 a1_3, .bool a1_4] 71 (0, 0))) ∧ Aside0 (Below w.heap.size w wc))
    case first =>
     have H := HC25.out
     clear HC25
     by_cases c31 : t362 = true
     ·subst c31
      rw [if_pos rfl] at H
      replace H := Option.bind_eq_some_iff.mp H
      obtain ⟨t368, A320, H⟩ := H
      try dsimp only at H
      have A32 := Aside0.mk A320
      clear A320
      replace H := Option.bind_eq_some_iff.mp H
      obtain ⟨t369, A330, H⟩ := H
      try dsimp only at H
      have A33 := Aside0.mk A330
      clear A330
      by_cases c34 : (t368 == t369) = true
      ·rw [if_pos c34] at H
       have c34b0 : (t368 == t369) = true := c34
       (try (have c34b1 : decide (t368 = t369) = true := by simpa using c34))
       (try (have c34b2 : (t368 == t369) = true := by simpa using c34))
       clear c34
       (first | rw [c34b0] | (simp only [i64_w, i32_w]; rw [c34b0]) | skip)
       by_cases c35 : t364 = t366
       ·rw [if_pos c35] at H
        have c35b0 : (t364 == t366) = true := beq_iff_eq.mpr c35
        have c35b1 : (t364 != t366) = false := bne_eq_false_iff_eq.mpr c35
        clear c35
        have H' := Aside0.mk H
        clear H
        try go_wp2
        replace BK360 := Aside0.mk (blk_drew BK360.out)
        replace BK361 := Aside0.mk (blk_drew BK361.out)
        replace HB := Aside0.mk (below_drew1 HB.out)
        refine start_ (n := 19) (S := fun w' => w'.cell? ⟨gb360, 0, none⟩ = some (.int .i64 a0_0) ∧ w'.cell? ⟨gb360, 1, none⟩ = some (.int .i64 a0_1) ∧ w'.cell? ⟨gb360, 2, none⟩ = some (.slice A0_2 l0_2.length c0_2)) (ds := []) #[ff, ff, ff, ff, ff, ff, ff, ff, ff, ff, ff, ff, ff, ff, ff, ff, ff, ff, ff] (by kernel_rfl) rfl rfl ⟨(blk_cell BK360.out 0).trans rfl, (blk_cell BK360.out 1).trans rfl, (blk_cell BK360.out 2).trans rfl⟩ (fun hHeld => ?_); refine with_tabW formelaw38_ContractMatchesReference.tab6 formelaw38_ContractMatchesReference.bits6 (fun HT_ HW_ => ?_)
        generalize w30.drew = w36 at BK360 BK361 HB hHeld ⊢
        refine pure_ (i := 0) (N := some 53) (v := ?_) (a' := ?_) #[tt, ff, ff, ff, ff, ff, ff, ff, ff, ff, ff, ff, ff, ff, ff, ff, ff, ff, ff] rfl rfl (any_of HT_.out (by kernel_rfl)) (fun _ _ _ h => h) (Or.inl ⟨by rfl, ?_⟩) ?_ ?_
        rotate_left; intro w'; go_simp; with_reducible rfl; rotate_left; exact apt
        refine pure_ (i := 1) (N := some 54) (v := ?_) (a' := ?_) #[tt, tt, ff, ff, ff, ff, ff, ff, ff, ff, ff, ff, ff, ff, ff, ff, ff, ff, ff] rfl rfl (any_of HT_.out (by kernel_rfl)) (fun _ _ _ h => h) (Or.inl ⟨by rfl, ?_⟩) ?_ ?_
        rotate_left; intro w'; go_simp; with_reducible rfl; rotate_left; exact apt
        refine take_ (i := 2) (N := some 55) (v := ?_) (a' := ?_) #[tt, tt, tt, ff, ff, ff, ff, ff, ff, ff, ff, ff, ff, ff, ff, ff, ff, ff, ff] rfl rfl (take_ofW HT_.out HW_.out (by kernel_rfl)) (fun _ _ _ h => h) (Or.inl ⟨by rfl, ?_⟩) hHeld ?_ ?_
        rotate_left; rintro w' ⟨s0, s1, s2⟩; go_simp; with_reducible rfl; rotate_left; exact apt
        refine take_ (i := 4) (N := some 57) (v := ?_) (a' := ?_) #[tt, tt, tt, ff, tt, ff, ff, ff, ff, ff, ff, ff, ff, ff, ff, ff, ff, ff, ff] rfl rfl (take_ofW HT_.out HW_.out (by kernel_rfl)) (fun _ _ _ h => h) (Or.inl ⟨by rfl, ?_⟩) hHeld ?_ ?_
        rotate_left; rintro w' ⟨s0, s1, s2⟩; go_simp; with_reducible rfl; rotate_left; exact apt
        refine one_ (i := 3) (N := some 56) #[tt, tt, tt, tt, tt, ff, ff, ff, ff, ff, ff, ff, ff, ff, ff, ff, ff, ff, ff] rfl rfl (one_of HT_.out (by kernel_rfl)) (by decide) (fun K hK => ?_)
        refine goes_ Try.func61 (by kernel_rfl) rfl #[.agg #[.int .i64 a0_0, .int .i64 a0_1, .slice A0_2 l0_2.length c0_2]] (by rfl) rfl rfl gla ?_
        with_reducible refine (contract_Valid.calls a0_0 a0_1 _ _ l0_2 t368 _ ?side1 ?side2 A32.out).mono ?_
        (case side1 => repeat (first | exact (Kd.C_below HR0_2.out HB.out) | (with_reducible refine Kd.C_alloc ?_ _) | (with_reducible refine Kd.C_drewN ?_ _) | (with_reducible refine Kd.C_drew ?_)))
        (case side2 => exact HC0_2.out)
        rintro e w37 ⟨rfl, hb⟩
        refine ⟨_, rfl, ?_⟩
        replace BK360 := bka BK360 hb
        replace BK361 := bka BK361 hb
        replace HB := hba hb
        (try clear hb)
        (try clear hb2)
        (try clear hk)
        (try clear hi)
        refine hK.out _ _ ⟨(blk_cell BK360.out 0).trans rfl, (blk_cell BK360.out 1).trans rfl, (blk_cell BK360.out 2).trans rfl⟩ (fun hHeld => ?_)
        clear hK K
        refine norm_ (a' := ?_) ?_ ?_
        rotate_left
        ·show Act.put _ (some 56) _ = _
         simp only [Act.put, List.setIfInBounds_toArray, List.set_cons_zero, List.set_cons_succ, i64_w, i32_w]
         rfl
        refine one_ (i := 5) (N := some 58) #[tt, tt, tt, tt, tt, tt, ff, ff, ff, ff, ff, ff, ff, ff, ff, ff, ff, ff, ff] rfl rfl (one_of HT_.out (by kernel_rfl)) (by decide) (fun K hK => ?_)
        refine goes_ Try.func62 (by kernel_rfl) rfl #[.agg #[.int .i64 a0_0, .int .i64 a0_1, .slice A0_2 l0_2.length c0_2]] (by rfl) rfl rfl gla ?_
        with_reducible refine (formeref38_Valid.calls kj5 a0_0 a0_1 _ _ l0_2 t369 _ ?side1 ?side2 A33.out).mono ?_
        (case side1 => repeat (first | exact (Kd.C_below HR0_2.out HB.out) | (with_reducible refine Kd.C_alloc ?_ _) | (with_reducible refine Kd.C_drewN ?_ _) | (with_reducible refine Kd.C_drew ?_)))
        (case side2 => exact HC0_2.out)
        rintro e w38 ⟨rfl, hb⟩
        refine ⟨_, rfl, ?_⟩
        replace BK360 := bka BK360 hb
        replace BK361 := bka BK361 hb
        replace HB := hba hb
        (try clear hb)
        (try clear hb2)
        (try clear hk)
        (try clear hi)
        refine hK.out _ _ ⟨(blk_cell BK360.out 0).trans rfl, (blk_cell BK360.out 1).trans rfl, (blk_cell BK360.out 2).trans rfl⟩ (fun hHeld => ?_)
        clear hK K
        refine norm_ (a' := ?_) ?_ ?_
        rotate_left
        ·show Act.put _ (some 58) _ = _
         simp only [Act.put, List.setIfInBounds_toArray, List.set_cons_zero, List.set_cons_succ, i64_w, i32_w]
         rfl
        refine pure_ (i := 6) (N := some 59) (v := ?_) (a' := ?_) #[tt, tt, tt, tt, tt, tt, tt, ff, ff, ff, ff, ff, ff, ff, ff, ff, ff, ff, ff] rfl rfl (any_of HT_.out (by kernel_rfl)) (fun _ _ _ h => h) (Or.inl ⟨by rfl, ?_⟩) ?_ ?_
        rotate_left; intro w'; go_simp; with_reducible rfl; rotate_left; exact apt
        refine pure_ (i := 7) (N := some 60) (v := ?_) (a' := ?_) #[tt, tt, tt, tt, tt, tt, tt, tt, ff, ff, ff, ff, ff, ff, ff, ff, ff, ff, ff] rfl rfl (any_of HT_.out (by kernel_rfl)) (fun _ _ _ h => h) (Or.inl ⟨by rfl, ?_⟩) ?_ ?_
        rotate_left; intro w'; go_simp; with_reducible rfl; rotate_left; exact apt
        refine pure_ (i := 8) (N := some 61) (v := ?_) (a' := ?_) #[tt, tt, tt, tt, tt, tt, tt, tt, tt, ff, ff, ff, ff, ff, ff, ff, ff, ff, ff] rfl rfl (any_of HT_.out (by kernel_rfl)) (fun _ _ _ h => h) (Or.inl ⟨by rfl, ?_⟩) ?_ ?_
        rotate_left; intro w'; go_simp; with_reducible rfl; rotate_left; exact apt
        refine pure_ (i := 9) (N := some 62) (v := ?_) (a' := ?_) #[tt, tt, tt, tt, tt, tt, tt, tt, tt, tt, ff, ff, ff, ff, ff, ff, ff, ff, ff] rfl rfl (any_of HT_.out (by kernel_rfl)) (fun _ _ _ h => h) (Or.inl ⟨by rfl, ?_⟩) ?_ ?_
        rotate_left; intro w'; go_simp; with_reducible rfl; rotate_left; exact apt
        refine pure_ (i := 10) (N := some 63) (v := ?_) (a' := ?_) #[tt, tt, tt, tt, tt, tt, tt, tt, tt, tt, tt, ff, ff, ff, ff, ff, ff, ff, ff] rfl rfl (any_of HT_.out (by kernel_rfl)) (fun _ _ _ h => h) (Or.inl ⟨by rfl, ?_⟩) ?_ ?_
        rotate_left; intro w'; go_simp; with_reducible rfl; rotate_left; exact apt
        refine pure_ (i := 11) (N := some 64) (v := ?_) (a' := ?_) #[tt, tt, tt, tt, tt, tt, tt, tt, tt, tt, tt, tt, ff, ff, ff, ff, ff, ff, ff] rfl rfl (any_of HT_.out (by kernel_rfl)) (fun _ _ _ h => h) (Or.inl ⟨by rfl, ?_⟩) ?_ ?_
        rotate_left; intro w'; go_simp; with_reducible rfl; rotate_left; exact apt
        refine pure_ (i := 12) (N := some 65) (v := ?_) (a' := ?_) #[tt, tt, tt, tt, tt, tt, tt, tt, tt, tt, tt, tt, tt, ff, ff, ff, ff, ff, ff] rfl rfl (any_of HT_.out (by kernel_rfl)) (fun _ _ _ h => h) (Or.inl ⟨by rfl, ?_⟩) ?_ ?_
        rotate_left; intro w'; go_simp; with_reducible rfl; rotate_left; exact apt
        refine pure_ (i := 13) (N := some 66) (v := ?_) (a' := ?_) #[tt, tt, tt, tt, tt, tt, tt, tt, tt, tt, tt, tt, tt, tt, ff, ff, ff, ff, ff] rfl rfl (any_of HT_.out (by kernel_rfl)) (fun _ _ _ h => h) (Or.inl ⟨by rfl, ?_⟩) ?_ ?_
        rotate_left; intro w'; go_simp; with_reducible rfl; rotate_left; exact apt
        refine pure_ (i := 14) (N := some 67) (v := ?_) (a' := ?_) #[tt, tt, tt, tt, tt, tt, tt, tt, tt, tt, tt, tt, tt, tt, tt, ff, ff, ff, ff] rfl rfl (any_of HT_.out (by kernel_rfl)) (fun _ _ _ h => h) (Or.inl ⟨by rfl, ?_⟩) ?_ ?_
        rotate_left; intro w'; go_simp; with_reducible rfl; rotate_left; exact apt
        refine pure_ (i := 15) (N := some 68) (v := ?_) (a' := ?_) #[tt, tt, tt, tt, tt, tt, tt, tt, tt, tt, tt, tt, tt, tt, tt, tt, ff, ff, ff] rfl rfl (any_of HT_.out (by kernel_rfl)) (fun _ _ _ h => h) (Or.inl ⟨by rfl, ?_⟩) ?_ ?_
        rotate_left; intro w'; go_simp; with_reducible rfl; rotate_left; exact apt
        refine pure_ (i := 16) (N := some 69) (v := ?_) (a' := ?_) #[tt, tt, tt, tt, tt, tt, tt, tt, tt, tt, tt, tt, tt, tt, tt, tt, tt, ff, ff] rfl rfl (any_of HT_.out (by kernel_rfl)) (fun _ _ _ h => h) (Or.inl ⟨by rfl, ?_⟩) ?_ ?_
        rotate_left; intro w'; go_simp; with_reducible rfl; rotate_left; exact apt
        refine pure_ (i := 17) (N := some 70) (v := ?_) (a' := ?_) #[tt, tt, tt, tt, tt, tt, tt, tt, tt, tt, tt, tt, tt, tt, tt, tt, tt, tt, ff] rfl rfl (any_of HT_.out (by kernel_rfl)) (fun _ _ _ h => h) (Or.inl ⟨by rfl, ?_⟩) ?_ ?_
        rotate_left; intro w'; go_simp; with_reducible rfl; rotate_left; exact apt
        refine pure_ (i := 18) (N := some 9) (v := ?_) (a' := ?_) #[tt, tt, tt, tt, tt, tt, tt, tt, tt, tt, tt, tt, tt, tt, tt, tt, tt, tt, tt] rfl rfl (any_of HT_.out (by kernel_rfl)) (fun _ _ _ h => h) (Or.inl ⟨by rfl, ?_⟩) ?_ ?_
        rotate_left; intro w'; go_simp; with_reducible rfl; rotate_left; exact apt
        refine done_ (done_of HT_.out (by kernel_rfl)) ?_
        try go_wp2
        go_meet
        case rel => exact ⟨_, ((t365 == t367)), (by first | rfl | (simp; done) | (simp [*]; done)), H', ⟨by have := HJ5.out; first | omega | exact Nat.le_refl _⟩, ⟨by (with_reducible repeat (first | refine blk_drewN ?_ _ | refine blk_drew ?_ | refine blk_alloc ?_ _)); exact BK360.out⟩, ⟨by (with_reducible repeat (first | refine blk_drewN ?_ _ | refine blk_drew ?_ | refine blk_alloc ?_ _)); exact BK361.out⟩, ⟨bel⟩⟩
       ·rw [if_neg c35] at H
        have c35b0 : (t364 == t366) = false := beq_eq_false_iff_ne.mpr c35
        have c35b1 : (t364 != t366) = true := bne_iff_ne.mpr c35
        exact absurd ((formelaw38_ContractMatchesReference.j1_false H).symm.trans HTr.out) (by decide)
      ·rw [if_neg c34] at H
       have c34b0 : (t368 == t369) = false := by simpa using c34
       (try (have c34b1 : decide (t368 = t369) = false := by simpa using c34))
       (try (have c34b2 : (t368 == t369) = false := by simpa using c34))
       (try (have c34b3 : ¬ (t368 = t369) := by simpa using c34))
       clear c34
       (first | rw [c34b0] | (simp only [i64_w, i32_w]; rw [c34b0]) | skip)
       exact absurd ((formelaw38_ContractMatchesReference.j1_false H).symm.trans HTr.out) (by decide)
     ·replace c31 := Bool.eq_false_iff.mpr c31
      subst c31
      rw [if_neg (show ¬ (false = true) by decide)] at H
      exact absurd ((formelaw38_ContractMatchesReference.j1_false H).symm.trans HTr.out) (by decide)
    case rest =>
     clear HC25
     try clear c1
     try clear c2
     try clear p2
     try clear c3
     try clear c5
     try clear c6
     try clear c11
     try clear c12
     try clear c12b0
     try clear c12b1
     try clear c13
     try clear c16
     try clear c19
     try clear c22
     try clear c26
     try clear c31
     try clear c34
     try clear c34b0
     try clear c34b1
     try clear c34b2
     try clear c35
     try clear c35b0
     try clear c35b1
     try clear p2
     obtain ⟨kq, x9_24, rfl, HA, HJ24, BK360, BK361, HB⟩ := hcut
     cases kq with
     | zero => exact absurd HA.out (by simp [formelaw38_ContractMatchesReference.j1])
     | succ kj24 =>
      have H := HA.out
      clear HA
      simp only [formelaw38_ContractMatchesReference.j1] at H
      by_cases c39 : (l2.length : Int) > 0
      ·rw [if_pos c39] at H
       have c39b0 : decide (0 < (l2.length : Int)) = true := decide_eq_true c39
       have c39b1 : decide (0 < l2.length) = true := decide_eq_true (by omega)
       clear c39
       by_cases c40 : 0 < (l2.length : Int)
       ·rw [if_pos c40] at H
        have c40b0 : decide (0 < (l2.length : Int)) = true := decide_eq_true c40
        have c40b1 : decide (0 < l2.length) = true := decide_eq_true (by omega)
        clear c40
        replace H := Option.bind_eq_some_iff.mp H
        obtain ⟨⟨t371, t372, t373, t374, t375, t376, t377, t378⟩, A410, H⟩ := H
        try dsimp only at H
        have A41 := Aside0.mk A410
        clear A410
        replace H := Option.bind_eq_some_iff.mp H
        obtain ⟨⟨t381, t382, t383, t384, t385, t386, t387, t388⟩, A420, H⟩ := H
        try dsimp only at H
        have A42 := Aside0.mk A420
        clear A420
        by_cases c43 : x9_24 = true
        ·subst c43
         rw [if_pos rfl] at H
         by_cases c44 : (t371 == t381 && (t372 == t382 && (t373 == t383 && (t374 == t384 && (t375 == t385))))) = true
         ·rw [if_pos c44] at H
          have c44b0 : (t371 == t381 && (t372 == t382 && (t373 == t383 && (t374 == t384 && (t375 == t385))))) = true := c44
          (try (have c44b1 : decide (t371 = t381 && (t372 == t382 && (t373 == t383 && (t374 == t384 && (t375 == t385))))) = true := by simpa using c44))
          (try (have c44b2 : (t371 == t381 && (t372 == t382 && (t373 == t383 && (t374 == t384 && (t375 == t385))))) = true := by simpa using c44))
          clear c44
          by_cases c45 : t376 = t386
          ·rw [if_pos c45] at H
           have c45b0 : (t376 == t386) = true := beq_iff_eq.mpr c45
           have c45b1 : (t376 != t386) = false := bne_eq_false_iff_eq.mpr c45
           clear c45
           by_cases c46 : (t377 == t387) = true
           ·rw [if_pos c46] at H
            have c46b0 : (t377 == t387) = true := c46
            (try (have c46b1 : decide (t377 = t387) = true := by simpa using c46))
            (try (have c46b2 : (t377 == t387) = true := by simpa using c46))
            clear c46
            replace H := Option.bind_eq_some_iff.mp H
            obtain ⟨⟨t390, t391, t392, t393, t394, t395, t398⟩, A470, H⟩ := H
            try dsimp only at H
            have A47 := Aside0.mk A470
            clear A470
            replace H := Option.bind_eq_some_iff.mp H
            obtain ⟨⟨t400, t401, t402, t403, t404, t405, t408⟩, A480, H⟩ := H
            try dsimp only at H
            have A48 := Aside0.mk A480
            clear A480
            by_cases c49 : t378 = t388
            ·rw [if_pos c49] at H
             have c49b0 : (t378 == t388) = true := beq_iff_eq.mpr c49
             have c49b1 : (t378 != t388) = false := bne_eq_false_iff_eq.mpr c49
             clear c49
             by_cases c50 : (t390 == t400 && (t391 == t401 && (t392 == t402 && (t393 == t403 && (t394 == t404))))) = true
             ·rw [if_pos c50] at H
              have c50b0 : (t390 == t400 && (t391 == t401 && (t392 == t402 && (t393 == t403 && (t394 == t404))))) = true := c50
              (try (have c50b1 : decide (t390 = t400 && (t391 == t401 && (t392 == t402 && (t393 == t403 && (t394 == t404))))) = true := by simpa using c50))
              (try (have c50b2 : (t390 == t400 && (t391 == t401 && (t392 == t402 && (t393 == t403 && (t394 == t404))))) = true := by simpa using c50))
              clear c50
              replace H := Option.bind_eq_some_iff.mp H
              obtain ⟨t410, A510, H⟩ := H
              try dsimp only at H
              have A51 := Aside0.mk A510
              clear A510
              by_cases c52 : t410 = true
              ·subst c52
               rw [if_pos rfl] at H
               obtain rfl := Option.some.inj H
               try go_wp2
               replace BK360 := Aside0.mk (blk_drew BK360.out)
               replace BK361 := Aside0.mk (blk_drew BK361.out)
               replace HB := Aside0.mk (below_drew1 HB.out)
               have p370 : 0 ≤ (0 : Int) := (by omega)
               have q370 : 0 < (l2.length : Int) := of_decide_eq_true (by first | (with_reducible assumption) | assumption)
               obtain ⟨ad370, e370, hx370_0, hx370_1, hx370_2, hx370_3⟩ := at_T78 HR2.out 0 p370 q370
               have hw370_3 := hx370_3
               (try rw [show ((0 : Int)).toNat = 0 from rfl] at hw370_3)
               (try rw [show 0 * 4 = 0 from rfl] at hw370_3)
               (try rw [Addr.add_zero'] at hw370_3)
               have hw370_2 := hx370_2
               (try rw [show ((0 : Int)).toNat = 0 from rfl] at hw370_2)
               (try rw [show 0 * 4 = 0 from rfl] at hw370_2)
               (try rw [Addr.add_zero'] at hw370_2)
               have hw370_1 := hx370_1
               (try rw [show ((0 : Int)).toNat = 0 from rfl] at hw370_1)
               (try rw [show 0 * 4 = 0 from rfl] at hw370_1)
               (try rw [Addr.add_zero'] at hw370_1)
               have hw370_0 := hx370_0
               (try rw [show ((0 : Int)).toNat = 0 from rfl] at hw370_0)
               (try rw [show 0 * 4 = 0 from rfl] at hw370_0)
               (try rw [Addr.add_zero'] at hw370_0)
               cases e370
               have qi370 : (0 < l2.length) = True := eq_true (by omega)
               (try rw [show ((0 : Int)).toNat = 0 from rfl] at hx370_0)
               (try rw [show 0 * 4 = 0 from rfl] at hx370_0)
               (try rw [Addr.add_zero'] at hx370_0)
               (try rw [show ((0 : Int)).toNat = 0 from rfl] at hx370_1)
               (try rw [show 0 * 4 = 0 from rfl] at hx370_1)
               (try rw [Addr.add_zero'] at hx370_1)
               (try rw [show ((0 : Int)).toNat = 0 from rfl] at hx370_2)
               (try rw [show 0 * 4 = 0 from rfl] at hx370_2)
               (try rw [Addr.add_zero'] at hx370_2)
               (try rw [show ((0 : Int)).toNat = 0 from rfl] at hx370_3)
               (try rw [show 0 * 4 = 0 from rfl] at hx370_3)
               (try rw [Addr.add_zero'] at hx370_3)
               replace hx370_0 := hxl HB hx370_0
               replace hx370_1 := hxl HB hx370_1
               replace hx370_2 := hxl HB hx370_2
               replace hx370_3 := hxl HB hx370_3
               replace p370 := eq_true p370
               replace q370 := eq_true q370
               refine start_ (n := 16) (S := fun w' => w'.cell? ⟨gb360, 0, none⟩ = some (.int .i64 a0_0) ∧ w'.cell? ⟨gb360, 1, none⟩ = some (.int .i64 a0_1) ∧ w'.cell? ⟨gb360, 2, none⟩ = some (.slice A0_2 l0_2.length c0_2) ∧ w'.cell? ⟨gb361, 0, none⟩ = some (.int .i64 a1_0) ∧ w'.cell? ⟨gb361, 1, none⟩ = some (.int .i64 a1_1) ∧ w'.cell? ⟨gb361, 2, none⟩ = some (.int .i64 a1_2) ∧ w'.cell? ⟨gb361, 3, none⟩ = some (.int .i64 a1_3) ∧ w'.cell? ⟨gb361, 4, none⟩ = some (.bool a1_4) ∧ w'.cell? ad370 = some (.int .i64 ((rd_T78 l2 0).f0)) ∧ w'.cell? ⟨ad370.block, ad370.off + 1, none⟩ = some (.int .i64 ((rd_T78 l2 0).f1)) ∧ w'.cell? ⟨ad370.block, ad370.off + 2, none⟩ = some (.int .i64 ((rd_T78 l2 0).f2)) ∧ w'.cell? ⟨ad370.block, ad370.off + 3, none⟩ = some (.int .i64 ((rd_T78 l2 0).f3))) (ds := []) #[ff, ff, ff, ff, ff, ff, ff, ff, ff, ff, ff, ff, ff, ff, ff, ff] (by kernel_rfl) rfl rfl ⟨(blk_cell BK360.out 0).trans rfl, (blk_cell BK360.out 1).trans rfl, (blk_cell BK360.out 2).trans rfl, (blk_cell BK361.out 0).trans rfl, (blk_cell BK361.out 1).trans rfl, (blk_cell BK361.out 2).trans rfl, (blk_cell BK361.out 3).trans rfl, (blk_cell BK361.out 4).trans rfl, ((HB.out.cell (World.block_lt_of_cell? w _ hw370_0)).trans hw370_0), ((HB.out.cell (World.block_lt_of_cell? w _ hw370_1)).trans hw370_1), ((HB.out.cell (World.block_lt_of_cell? w _ hw370_2)).trans hw370_2), ((HB.out.cell (World.block_lt_of_cell? w _ hw370_3)).trans hw370_3)⟩ (fun hHeld => ?_); refine with_tabW formelaw38_ContractMatchesReference.tab8 formelaw38_ContractMatchesReference.bits8 (fun HT_ HW_ => ?_)
               generalize wc.drew = w53 at BK360 BK361 HB hx370_0 hx370_1 hx370_2 hx370_3 hHeld ⊢
               refine pure_ (i := 2) (N := some 77) (v := ?_) (a' := ?_) #[ff, ff, tt, ff, ff, ff, ff, ff, ff, ff, ff, ff, ff, ff, ff, ff] rfl rfl (any_of HT_.out (by kernel_rfl)) (fun _ _ _ h => h) (Or.inl ⟨by rfl, ?_⟩) ?_ ?_
               rotate_left; intro w'; go_simp; with_reducible rfl; rotate_left; exact apt
               refine pure_ (i := 3) (N := some 78) (v := ?_) (a' := ?_) #[ff, ff, tt, tt, ff, ff, ff, ff, ff, ff, ff, ff, ff, ff, ff, ff] rfl rfl (any_of HT_.out (by kernel_rfl)) (fun _ _ _ h => h) (Or.inl ⟨by rfl, ?_⟩) ?_ ?_
               rotate_left; intro w'; go_simp; with_reducible rfl; rotate_left; exact apt
               refine take_ (i := 0) (N := some 75) (v := ?_) (a' := ?_) #[tt, ff, tt, tt, ff, ff, ff, ff, ff, ff, ff, ff, ff, ff, ff, ff] rfl rfl (take_ofW HT_.out HW_.out (by kernel_rfl)) (fun _ _ _ h => h) (Or.inl ⟨by rfl, ?_⟩) hHeld ?_ ?_
               rotate_left; rintro w' ⟨s0, s1, s2, s3, s4, s5, s6, s7, s8, s9, s10, s11⟩; go_simp; with_reducible rfl; rotate_left; exact apt
               refine take_ (i := 1) (N := some 76) (v := ?_) (a' := ?_) #[tt, tt, tt, tt, ff, ff, ff, ff, ff, ff, ff, ff, ff, ff, ff, ff] rfl rfl (take_ofW HT_.out HW_.out (by kernel_rfl)) (fun _ _ _ h => h) (Or.inl ⟨by rfl, ?_⟩) hHeld ?_ ?_
               rotate_left; rintro w' ⟨s0, s1, s2, s3, s4, s5, s6, s7, s8, s9, s10, s11⟩; go_simp; with_reducible rfl; rotate_left; exact apt
               refine take_ (i := 4) (N := some 79) (v := ?_) (a' := ?_) #[tt, tt, tt, tt, tt, ff, ff, ff, ff, ff, ff, ff, ff, ff, ff, ff] rfl rfl (take_ofW HT_.out HW_.out (by kernel_rfl)) (fun _ _ _ h => h) (Or.inl ⟨by rfl, ?_⟩) hHeld ?_ ?_
               rotate_left; rintro w' ⟨s0, s1, s2, s3, s4, s5, s6, s7, s8, s9, s10, s11⟩; go_simp; with_reducible rfl; rotate_left; exact apt
               refine join_ (σ := Nat) 4 #[tt, tt, tt, tt, tt, tt, tt, tt, tt, tt, tt, tt, ff, ff, ff, ff] (fun s_ => [(80, .tuple #[.agg #[.int .i64 t371, .int .i64 t372, .int .i64 t373, .int .i64 t374, .bool t375], .int .i64 t376, .bool t377, .int .i64 t378]), (14, .pointer (some ⟨s_, 0, none⟩)), (74, .tuple #[.agg #[.int .i64 t371, .int .i64 t372, .int .i64 t373, .int .i64 t374, .bool t375], .int .i64 t376, .bool t377, .int .i64 t378]), (81, .agg #[.int .i64 t371, .int .i64 t372, .int .i64 t373, .int .i64 t374, .bool t375]), (82, .int .i64 t376), (83, .bool t377), (84, .int .i64 t378)]) (fun s_ w' => (w'.cell? ⟨gb360, 0, none⟩ = some (.int .i64 a0_0) ∧ w'.cell? ⟨gb360, 1, none⟩ = some (.int .i64 a0_1) ∧ w'.cell? ⟨gb360, 2, none⟩ = some (.slice A0_2 l0_2.length c0_2) ∧ w'.cell? ⟨gb361, 0, none⟩ = some (.int .i64 a1_0) ∧ w'.cell? ⟨gb361, 1, none⟩ = some (.int .i64 a1_1) ∧ w'.cell? ⟨gb361, 2, none⟩ = some (.int .i64 a1_2) ∧ w'.cell? ⟨gb361, 3, none⟩ = some (.int .i64 a1_3) ∧ w'.cell? ⟨gb361, 4, none⟩ = some (.bool a1_4) ∧ w'.cell? ad370 = some (.int .i64 ((rd_T78 l2 0).f0)) ∧ w'.cell? ⟨ad370.block, ad370.off + 1, none⟩ = some (.int .i64 ((rd_T78 l2 0).f1)) ∧ w'.cell? ⟨ad370.block, ad370.off + 2, none⟩ = some (.int .i64 ((rd_T78 l2 0).f2)) ∧ w'.cell? ⟨ad370.block, ad370.off + 3, none⟩ = some (.int .i64 ((rd_T78 l2 0).f3))) ∧ (w'.heap[gb360]? = some (.cells #[.int .i64 a0_0, .int .i64 a0_1, .slice A0_2 l0_2.length c0_2] 69 (0, 0))) ∧ (w'.heap[gb361]? = some (.cells #[.int .i64 a1_0, .int .i64 a1_1, .int .i64 a1_2, .int .i64 a1_3, .bool a1_4] 71 (0, 0))) ∧ (w'.heap[s_]? = some (.cells #[.int .i64 0, .int .i64 0, .int .i64 0, .int .i64 0, .bool false] 71 (0, 0))) ∧ (w.heap.size ≤ s_) ∧ (w.heap.size ≤ s_) ∧ (gb360 ≠ s_) ∧ (s_ ≠ gb360) ∧ (gb361 ≠ s_) ∧ (s_ ≠ gb361) ∧ (Below w.heap.size w w')) ?_ ?_
               rotate_left
               ·intro hCont
                refine two_ (i := 5) (j := 11) (Ni := some 80) (Nj := some 14) #[tt, tt, tt, tt, tt, tt, ff, ff, ff, ff, ff, ff, ff, ff, ff, ff] #[tt, tt, tt, tt, tt, ff, ff, ff, ff, ff, ff, tt, ff, ff, ff, ff] rfl rfl rfl rfl (two_of HT_.out (by kernel_rfl)) (by decide) (by decide) (fun K hK => ?_) (fun K hK => ?_)
                ·skip
                 refine goes_ Try.func63 (by kernel_rfl) rfl #[.agg #[.int .i64 a0_0, .int .i64 a0_1, .slice A0_2 l0_2.length c0_2], .agg #[.int .i64 a1_0, .int .i64 a1_1, .int .i64 a1_2, .int .i64 a1_3, .bool a1_4], .agg #[.int .i64 ((rd_T78 l2 0).f0), .int .i64 ((rd_T78 l2 0).f1), .int .i64 ((rd_T78 l2 0).f2), .int .i64 ((rd_T78 l2 0).f3)]] (by rfl) rfl rfl gla ?_
                 with_reducible refine (contract_Judge.calls a0_0 a0_1 _ _ l0_2 a1_0 a1_1 a1_2 a1_3 a1_4 ((rd_T78 l2 0).f0) ((rd_T78 l2 0).f1) ((rd_T78 l2 0).f2) ((rd_T78 l2 0).f3) t371 t372 t373 t374 t375 t376 t377 t378 _ ?side1 ?side2 A41.out).mono ?_
                 (case side1 => repeat (first | exact (Kd.C_below HR0_2.out HB.out) | (with_reducible refine Kd.C_alloc ?_ _) | (with_reducible refine Kd.C_drewN ?_ _) | (with_reducible refine Kd.C_drew ?_)))
                 (case side2 => exact HC0_2.out)
                 rintro e w54 ⟨rfl, hb⟩
                 refine ⟨_, rfl, ?_⟩
                 replace BK360 := bka BK360 hb
                 replace BK361 := bka BK361 hb
                 replace HB := hba hb
                 (try clear hb)
                 (try clear hb2)
                 (try clear hk)
                 (try clear hi)
                 refine hK.out _ _ ⟨(blk_cell BK360.out 0).trans rfl, (blk_cell BK360.out 1).trans rfl, (blk_cell BK360.out 2).trans rfl, (blk_cell BK361.out 0).trans rfl, (blk_cell BK361.out 1).trans rfl, (blk_cell BK361.out 2).trans rfl, (blk_cell BK361.out 3).trans rfl, (blk_cell BK361.out 4).trans rfl, ((HB.out.cell (World.block_lt_of_cell? w _ hw370_0)).trans hw370_0), ((HB.out.cell (World.block_lt_of_cell? w _ hw370_1)).trans hw370_1), ((HB.out.cell (World.block_lt_of_cell? w _ hw370_2)).trans hw370_2), ((HB.out.cell (World.block_lt_of_cell? w _ hw370_3)).trans hw370_3)⟩ (fun hHeld => ?_)
                 clear hK K
                 refine norm_ (a' := ?_) ?_ ?_
                 rotate_left
                 ·show Act.put _ (some 80) _ = _
                  simp only [Act.put, List.setIfInBounds_toArray, List.set_cons_zero, List.set_cons_succ, i64_w, i32_w]
                  rfl
                 refine pure_ (i := 6) (N := some 74) (v := ?_) (a' := ?_) #[tt, tt, tt, tt, tt, tt, tt, ff, ff, ff, ff, ff, ff, ff, ff, ff] rfl rfl (any_of HT_.out (by kernel_rfl)) (fun _ _ _ h => h) (Or.inl ⟨by rfl, ?_⟩) ?_ ?_
                 rotate_left; intro w'; go_simp; with_reducible rfl; rotate_left; exact apt
                 refine pure_ (i := 7) (N := some 81) (v := ?_) (a' := ?_) #[tt, tt, tt, tt, tt, tt, tt, tt, ff, ff, ff, ff, ff, ff, ff, ff] rfl rfl (any_of HT_.out (by kernel_rfl)) (fun _ _ _ h => h) (Or.inl ⟨by rfl, ?_⟩) ?_ ?_
                 rotate_left; intro w'; go_simp; with_reducible rfl; rotate_left; exact apt
                 refine pure_ (i := 8) (N := some 82) (v := ?_) (a' := ?_) #[tt, tt, tt, tt, tt, tt, tt, tt, tt, ff, ff, ff, ff, ff, ff, ff] rfl rfl (any_of HT_.out (by kernel_rfl)) (fun _ _ _ h => h) (Or.inl ⟨by rfl, ?_⟩) ?_ ?_
                 rotate_left; intro w'; go_simp; with_reducible rfl; rotate_left; exact apt
                 refine pure_ (i := 9) (N := some 83) (v := ?_) (a' := ?_) #[tt, tt, tt, tt, tt, tt, tt, tt, tt, tt, ff, ff, ff, ff, ff, ff] rfl rfl (any_of HT_.out (by kernel_rfl)) (fun _ _ _ h => h) (Or.inl ⟨by rfl, ?_⟩) ?_ ?_
                 rotate_left; intro w'; go_simp; with_reducible rfl; rotate_left; exact apt
                 refine pure_ (i := 10) (N := some 84) (v := ?_) (a' := ?_) #[tt, tt, tt, tt, tt, tt, tt, tt, tt, tt, tt, ff, ff, ff, ff, ff] rfl rfl (any_of HT_.out (by kernel_rfl)) (fun _ _ _ h => h) (Or.inl ⟨by rfl, ?_⟩) ?_ ?_
                 rotate_left; intro w'; go_simp; with_reducible rfl; rotate_left; exact apt
                 refine one_ (i := 11) (N := some 14) #[tt, tt, tt, tt, tt, tt, tt, tt, tt, tt, tt, tt, ff, ff, ff, ff] rfl rfl (one_of HT_.out (by kernel_rfl)) (by decide) (fun K hK => ?_)
                 refine box_step ?hg (N := 14) ?hd (cs := #[.int .i64 0, .int .i64 0, .int .i64 0, .int .i64 0, .bool false]) (t := 71) ?hr ?_; (case hd => rfl); (case hg => rfl); (case hr => first | (go_simp; done) | (go_simp; rfl))
                 intro gb379 hg w55 hbox hb
                 have BK379 := Aside0.mk (hbox)
                 have GW379 := gwa w hg
                 have GE379 := gwa w hg
                 have NB360_379 := nal BK360 hg
                 have NB379_360 := nag BK360 hg
                 have NB361_379 := nal BK361 hg
                 have NB379_361 := nag BK361 hg
                 replace BK360 := bka BK360 hb
                 replace BK361 := bka BK361 hb
                 replace HB := hba hb
                 clear hb hbox hg
                 refine hK.out _ _ ⟨(blk_cell BK360.out 0).trans rfl, (blk_cell BK360.out 1).trans rfl, (blk_cell BK360.out 2).trans rfl, (blk_cell BK361.out 0).trans rfl, (blk_cell BK361.out 1).trans rfl, (blk_cell BK361.out 2).trans rfl, (blk_cell BK361.out 3).trans rfl, (blk_cell BK361.out 4).trans rfl, ((HB.out.cell (World.block_lt_of_cell? w _ hw370_0)).trans hw370_0), ((HB.out.cell (World.block_lt_of_cell? w _ hw370_1)).trans hw370_1), ((HB.out.cell (World.block_lt_of_cell? w _ hw370_2)).trans hw370_2), ((HB.out.cell (World.block_lt_of_cell? w _ hw370_3)).trans hw370_3)⟩ (fun hHeld => ?_)
                 clear hK K
                 refine norm_ (a' := ?_) ?_ ?_
                 rotate_left
                 ·show Act.put _ (some 14) _ = _
                  simp only [Act.put, List.setIfInBounds_toArray, List.set_cons_zero, List.set_cons_succ, i64_w, i32_w]
                  rfl
                 exact norm_ (by simp only [putAll, Act.put, List.setIfInBounds_toArray, List.set_cons_zero, List.set_cons_succ]) (hCont (gb379) _ ⟨hHeld, (by (with_reducible repeat (first | refine blk_drewN ?_ _ | refine blk_drew ?_ | refine blk_alloc ?_ _)); exact BK360.out), (by (with_reducible repeat (first | refine blk_drewN ?_ _ | refine blk_drew ?_ | refine blk_alloc ?_ _)); exact BK361.out), (by (with_reducible repeat (first | refine blk_drewN ?_ _ | refine blk_drew ?_ | refine blk_alloc ?_ _)); exact BK379.out), GW379.out, GE379.out, NB360_379.out, NB379_360.out, NB361_379.out, NB379_361.out, bel⟩)
                ·skip
                 refine box_step ?hg (N := 14) ?hd (cs := #[.int .i64 0, .int .i64 0, .int .i64 0, .int .i64 0, .bool false]) (t := 71) ?hr ?_; (case hd => rfl); (case hg => rfl); (case hr => first | (go_simp; done) | (go_simp; rfl))
                 intro gb379 hg w54 hbox hb
                 have BK379 := Aside0.mk (hbox)
                 have GW379 := gwa w hg
                 have GE379 := gwa w hg
                 have NB360_379 := nal BK360 hg
                 have NB379_360 := nag BK360 hg
                 have NB361_379 := nal BK361 hg
                 have NB379_361 := nag BK361 hg
                 replace BK360 := bka BK360 hb
                 replace BK361 := bka BK361 hb
                 replace HB := hba hb
                 clear hb hbox hg
                 refine hK.out _ _ ⟨(blk_cell BK360.out 0).trans rfl, (blk_cell BK360.out 1).trans rfl, (blk_cell BK360.out 2).trans rfl, (blk_cell BK361.out 0).trans rfl, (blk_cell BK361.out 1).trans rfl, (blk_cell BK361.out 2).trans rfl, (blk_cell BK361.out 3).trans rfl, (blk_cell BK361.out 4).trans rfl, ((HB.out.cell (World.block_lt_of_cell? w _ hw370_0)).trans hw370_0), ((HB.out.cell (World.block_lt_of_cell? w _ hw370_1)).trans hw370_1), ((HB.out.cell (World.block_lt_of_cell? w _ hw370_2)).trans hw370_2), ((HB.out.cell (World.block_lt_of_cell? w _ hw370_3)).trans hw370_3)⟩ (fun hHeld => ?_)
                 clear hK K
                 refine norm_ (a' := ?_) ?_ ?_
                 rotate_left
                 ·show Act.put _ (some 14) _ = _
                  simp only [Act.put, List.setIfInBounds_toArray, List.set_cons_zero, List.set_cons_succ, i64_w, i32_w]
                  rfl
                 refine one_ (i := 5) (N := some 80) #[tt, tt, tt, tt, tt, tt, ff, ff, ff, ff, ff, tt, ff, ff, ff, ff] rfl rfl (one_of HT_.out (by kernel_rfl)) (by decide) (fun K hK => ?_)
                 refine goes_ Try.func63 (by kernel_rfl) rfl #[.agg #[.int .i64 a0_0, .int .i64 a0_1, .slice A0_2 l0_2.length c0_2], .agg #[.int .i64 a1_0, .int .i64 a1_1, .int .i64 a1_2, .int .i64 a1_3, .bool a1_4], .agg #[.int .i64 ((rd_T78 l2 0).f0), .int .i64 ((rd_T78 l2 0).f1), .int .i64 ((rd_T78 l2 0).f2), .int .i64 ((rd_T78 l2 0).f3)]] (by rfl) rfl rfl gla ?_
                 with_reducible refine (contract_Judge.calls a0_0 a0_1 _ _ l0_2 a1_0 a1_1 a1_2 a1_3 a1_4 ((rd_T78 l2 0).f0) ((rd_T78 l2 0).f1) ((rd_T78 l2 0).f2) ((rd_T78 l2 0).f3) t371 t372 t373 t374 t375 t376 t377 t378 _ ?side1 ?side2 A41.out).mono ?_
                 (case side1 => repeat (first | exact (Kd.C_below HR0_2.out HB.out) | (with_reducible refine Kd.C_alloc ?_ _) | (with_reducible refine Kd.C_drewN ?_ _) | (with_reducible refine Kd.C_drew ?_)))
                 (case side2 => exact HC0_2.out)
                 rintro e w55 ⟨rfl, hb⟩
                 refine ⟨_, rfl, ?_⟩
                 replace BK360 := bka BK360 hb
                 replace BK361 := bka BK361 hb
                 replace BK379 := bka BK379 hb
                 replace HB := hba hb
                 (try clear hb)
                 (try clear hb2)
                 (try clear hk)
                 (try clear hi)
                 refine hK.out _ _ ⟨(blk_cell BK360.out 0).trans rfl, (blk_cell BK360.out 1).trans rfl, (blk_cell BK360.out 2).trans rfl, (blk_cell BK361.out 0).trans rfl, (blk_cell BK361.out 1).trans rfl, (blk_cell BK361.out 2).trans rfl, (blk_cell BK361.out 3).trans rfl, (blk_cell BK361.out 4).trans rfl, ((HB.out.cell (World.block_lt_of_cell? w _ hw370_0)).trans hw370_0), ((HB.out.cell (World.block_lt_of_cell? w _ hw370_1)).trans hw370_1), ((HB.out.cell (World.block_lt_of_cell? w _ hw370_2)).trans hw370_2), ((HB.out.cell (World.block_lt_of_cell? w _ hw370_3)).trans hw370_3)⟩ (fun hHeld => ?_)
                 clear hK K
                 refine norm_ (a' := ?_) ?_ ?_
                 rotate_left
                 ·show Act.put _ (some 80) _ = _
                  simp only [Act.put, List.setIfInBounds_toArray, List.set_cons_zero, List.set_cons_succ, i64_w, i32_w]
                  rfl
                 refine pure_ (i := 6) (N := some 74) (v := ?_) (a' := ?_) #[tt, tt, tt, tt, tt, tt, tt, ff, ff, ff, ff, tt, ff, ff, ff, ff] rfl rfl (any_of HT_.out (by kernel_rfl)) (fun _ _ _ h => h) (Or.inl ⟨by rfl, ?_⟩) ?_ ?_
                 rotate_left; intro w'; go_simp; with_reducible rfl; rotate_left; exact apt
                 refine pure_ (i := 7) (N := some 81) (v := ?_) (a' := ?_) #[tt, tt, tt, tt, tt, tt, tt, tt, ff, ff, ff, tt, ff, ff, ff, ff] rfl rfl (any_of HT_.out (by kernel_rfl)) (fun _ _ _ h => h) (Or.inl ⟨by rfl, ?_⟩) ?_ ?_
                 rotate_left; intro w'; go_simp; with_reducible rfl; rotate_left; exact apt
                 refine pure_ (i := 8) (N := some 82) (v := ?_) (a' := ?_) #[tt, tt, tt, tt, tt, tt, tt, tt, tt, ff, ff, tt, ff, ff, ff, ff] rfl rfl (any_of HT_.out (by kernel_rfl)) (fun _ _ _ h => h) (Or.inl ⟨by rfl, ?_⟩) ?_ ?_
                 rotate_left; intro w'; go_simp; with_reducible rfl; rotate_left; exact apt
                 refine pure_ (i := 9) (N := some 83) (v := ?_) (a' := ?_) #[tt, tt, tt, tt, tt, tt, tt, tt, tt, tt, ff, tt, ff, ff, ff, ff] rfl rfl (any_of HT_.out (by kernel_rfl)) (fun _ _ _ h => h) (Or.inl ⟨by rfl, ?_⟩) ?_ ?_
                 rotate_left; intro w'; go_simp; with_reducible rfl; rotate_left; exact apt
                 refine pure_ (i := 10) (N := some 84) (v := ?_) (a' := ?_) #[tt, tt, tt, tt, tt, tt, tt, tt, tt, tt, tt, tt, ff, ff, ff, ff] rfl rfl (any_of HT_.out (by kernel_rfl)) (fun _ _ _ h => h) (Or.inl ⟨by rfl, ?_⟩) ?_ ?_
                 rotate_left; intro w'; go_simp; with_reducible rfl; rotate_left; exact apt
                 exact norm_ (by simp only [putAll, Act.put, List.setIfInBounds_toArray, List.set_cons_zero, List.set_cons_succ]) (hCont (gb379) _ ⟨hHeld, (by (with_reducible repeat (first | refine blk_drewN ?_ _ | refine blk_drew ?_ | refine blk_alloc ?_ _)); exact BK360.out), (by (with_reducible repeat (first | refine blk_drewN ?_ _ | refine blk_drew ?_ | refine blk_alloc ?_ _)); exact BK361.out), (by (with_reducible repeat (first | refine blk_drewN ?_ _ | refine blk_drew ?_ | refine blk_alloc ?_ _)); exact BK379.out), GW379.out, GE379.out, NB360_379.out, NB379_360.out, NB361_379.out, NB379_361.out, bel⟩)
               rintro gb379 w56 ⟨hS_, h0_, h1_, h2_, h3_, h4_, h5_, h6_, h7_, h8_, h9_⟩
               have n0_ : Aside0 (w56.heap[gb360]? = some (.cells #[.int .i64 a0_0, .int .i64 a0_1, .slice A0_2 l0_2.length c0_2] 69 (0, 0))) := ⟨h0_⟩
               have n1_ : Aside0 (w56.heap[gb361]? = some (.cells #[.int .i64 a1_0, .int .i64 a1_1, .int .i64 a1_2, .int .i64 a1_3, .bool a1_4] 71 (0, 0))) := ⟨h1_⟩
               have n2_ : Aside0 (w56.heap[gb379]? = some (.cells #[.int .i64 0, .int .i64 0, .int .i64 0, .int .i64 0, .bool false] 71 (0, 0))) := ⟨h2_⟩
               have n3_ : Aside0 (w.heap.size ≤ gb379) := ⟨h3_⟩
               have n4_ : Aside0 (w.heap.size ≤ gb379) := ⟨h4_⟩
               have n5_ : Aside0 (gb360 ≠ gb379) := ⟨h5_⟩
               have n6_ : Aside0 (gb379 ≠ gb360) := ⟨h6_⟩
               have n7_ : Aside0 (gb361 ≠ gb379) := ⟨h7_⟩
               have n8_ : Aside0 (gb379 ≠ gb361) := ⟨h8_⟩
               have n9_ : Aside0 (Below w.heap.size w w56) := ⟨h9_⟩
               clear BK360
               clear BK361
               clear HB
               clear h0_ h1_ h2_ h3_ h4_ h5_ h6_ h7_ h8_ h9_
               have BK360 := n0_
               have BK361 := n1_
               have BK379 := n2_
               have GW379 := n3_
               have GE379 := n4_
               have NB360_379 := n5_
               have NB379_360 := n6_
               have NB361_379 := n7_
               have NB379_361 := n8_
               have HB := n9_
               clear n0_ n1_ n2_ n3_ n4_ n5_ n6_ n7_ n8_ n9_
               have hHeld : w56.cell? ⟨gb360, 0, none⟩ = some (.int .i64 a0_0) ∧ w56.cell? ⟨gb360, 1, none⟩ = some (.int .i64 a0_1) ∧ w56.cell? ⟨gb360, 2, none⟩ = some (.slice A0_2 l0_2.length c0_2) ∧ w56.cell? ⟨gb361, 0, none⟩ = some (.int .i64 a1_0) ∧ w56.cell? ⟨gb361, 1, none⟩ = some (.int .i64 a1_1) ∧ w56.cell? ⟨gb361, 2, none⟩ = some (.int .i64 a1_2) ∧ w56.cell? ⟨gb361, 3, none⟩ = some (.int .i64 a1_3) ∧ w56.cell? ⟨gb361, 4, none⟩ = some (.bool a1_4) ∧ w56.cell? ad370 = some (.int .i64 ((rd_T78 l2 0).f0)) ∧ w56.cell? ⟨ad370.block, ad370.off + 1, none⟩ = some (.int .i64 ((rd_T78 l2 0).f1)) ∧ w56.cell? ⟨ad370.block, ad370.off + 2, none⟩ = some (.int .i64 ((rd_T78 l2 0).f2)) ∧ w56.cell? ⟨ad370.block, ad370.off + 3, none⟩ = some (.int .i64 ((rd_T78 l2 0).f3)) := hS_
               refine norm_ (a' := ?_) ?_ ?_
               rotate_left
               ·simp only [putAll, Act.put, List.setIfInBounds_toArray, List.set_cons_zero, List.set_cons_succ]
                rfl
               refine one_ (i := 12) (N := none) #[tt, tt, tt, tt, tt, tt, tt, tt, tt, tt, tt, tt, tt, ff, ff, ff] rfl rfl (one_of HT_.out (by kernel_rfl)) (by decide) (fun K hK => ?_)
               have hs57 : w56.cell? ⟨gb379, 0, none⟩ = some (.int .i64 0) := (blk_cell BK379.out 0).trans rfl
               have hfs57 := blk_frozen BK379.out 0
               have hns57_0 := NB360_379.out
               have hns57_1 := NB361_379.out
               have hms57_0 := NB379_360.out
               have hms57_1 := NB379_361.out
               have hs58 : w56.cell? ⟨gb379, 1, none⟩ = some (.int .i64 0) := (blk_cell BK379.out 1).trans rfl
               have hfs58 := blk_frozen BK379.out 1
               have hns58_0 := NB360_379.out
               have hns58_1 := NB361_379.out
               have hms58_0 := NB379_360.out
               have hms58_1 := NB379_361.out
               have hs59 : w56.cell? ⟨gb379, 2, none⟩ = some (.int .i64 0) := (blk_cell BK379.out 2).trans rfl
               have hfs59 := blk_frozen BK379.out 2
               have hns59_0 := NB360_379.out
               have hns59_1 := NB361_379.out
               have hms59_0 := NB379_360.out
               have hms59_1 := NB379_361.out
               have hs60 : w56.cell? ⟨gb379, 3, none⟩ = some (.int .i64 0) := (blk_cell BK379.out 3).trans rfl
               have hfs60 := blk_frozen BK379.out 3
               have hns60_0 := NB360_379.out
               have hns60_1 := NB361_379.out
               have hms60_0 := NB379_360.out
               have hms60_1 := NB379_361.out
               have hs61 : w56.cell? ⟨gb379, 4, none⟩ = some (.bool false) := (blk_cell BK379.out 4).trans rfl
               have hfs61 := blk_frozen BK379.out 4
               have hns61_0 := NB360_379.out
               have hns61_1 := NB361_379.out
               have hms61_0 := NB379_360.out
               have hms61_1 := NB379_361.out
               refine skip_ (w1 := ?_) (by rfl) rfl ?_ ?_
               rotate_left
               ·go_simp
                rfl
               refine hK.out _ _ ⟨(cf5 NB360_379.out (hHeld.1)), (cf5 NB360_379.out (hHeld.2.1)), (cf5 NB360_379.out (hHeld.2.2.1)), (cf5 NB361_379.out (hHeld.2.2.2.1)), (cf5 NB361_379.out (hHeld.2.2.2.2.1)), (cf5 NB361_379.out (hHeld.2.2.2.2.2.1)), (cf5 NB361_379.out (hHeld.2.2.2.2.2.2.1)), (cf5 NB361_379.out (hHeld.2.2.2.2.2.2.2.1)), (cf5 (fne hw370_0 GW379) (hHeld.2.2.2.2.2.2.2.2.1)), (cf5 (fne hw370_1 GW379) (hHeld.2.2.2.2.2.2.2.2.2.1)), (cf5 (fne hw370_2 GW379) (hHeld.2.2.2.2.2.2.2.2.2.2.1)), (cf5 (fne hw370_3 GW379) (hHeld.2.2.2.2.2.2.2.2.2.2.2))⟩ (fun hHeld => ?_)
               clear hK K
               refine pure_ (i := 13) (N := some 15) (v := ?_) (a' := ?_) #[tt, tt, tt, tt, tt, tt, tt, tt, tt, tt, tt, tt, tt, tt, ff, ff] rfl rfl (any_of HT_.out (by kernel_rfl)) (fun _ _ _ h => h) (Or.inl ⟨by rfl, ?_⟩) ?_ ?_
               rotate_left; intro w'; go_simp; with_reducible rfl; rotate_left; exact apt
               refine pure_ (i := 14) (N := some 16) (v := ?_) (a' := ?_) #[tt, tt, tt, tt, tt, tt, tt, tt, tt, tt, tt, tt, tt, tt, tt, ff] rfl rfl (any_of HT_.out (by kernel_rfl)) (fun _ _ _ h => h) (Or.inl ⟨by rfl, ?_⟩) ?_ ?_
               rotate_left; intro w'; go_simp; with_reducible rfl; rotate_left; exact apt
               refine pure_ (i := 15) (N := some 17) (v := ?_) (a' := ?_) #[tt, tt, tt, tt, tt, tt, tt, tt, tt, tt, tt, tt, tt, tt, tt, tt] rfl rfl (any_of HT_.out (by kernel_rfl)) (fun _ _ _ h => h) (Or.inl ⟨by rfl, ?_⟩) ?_ ?_
               rotate_left; intro w'; go_simp; with_reducible rfl; rotate_left; exact apt
               refine done_ (done_of HT_.out (by kernel_rfl)) ?_
               try go_wp2
               have n0_ : Aside0 ((((((w56.setCell ⟨gb379, 0, none⟩ (.int .i64 t371)).setCell ⟨gb379, 1, none⟩ (.int .i64 t372)).setCell ⟨gb379, 2, none⟩ (.int .i64 t373)).setCell ⟨gb379, 3, none⟩ (.int .i64 t374)).setCell ⟨gb379, 4, none⟩ (.bool t375)).heap[gb360]? = some (.cells #[.int .i64 a0_0, .int .i64 a0_1, .slice A0_2 l0_2.length c0_2] 69 (0, 0))) := ⟨bkf BK360⟩
               have n1_ : Aside0 ((((((w56.setCell ⟨gb379, 0, none⟩ (.int .i64 t371)).setCell ⟨gb379, 1, none⟩ (.int .i64 t372)).setCell ⟨gb379, 2, none⟩ (.int .i64 t373)).setCell ⟨gb379, 3, none⟩ (.int .i64 t374)).setCell ⟨gb379, 4, none⟩ (.bool t375)).heap[gb361]? = some (.cells #[.int .i64 a1_0, .int .i64 a1_1, .int .i64 a1_2, .int .i64 a1_3, .bool a1_4] 71 (0, 0))) := ⟨bkf BK361⟩
               have n2_ : Aside0 ((((((w56.setCell ⟨gb379, 0, none⟩ (.int .i64 t371)).setCell ⟨gb379, 1, none⟩ (.int .i64 t372)).setCell ⟨gb379, 2, none⟩ (.int .i64 t373)).setCell ⟨gb379, 3, none⟩ (.int .i64 t374)).setCell ⟨gb379, 4, none⟩ (.bool t375)).heap[gb379]? = some (.cells #[.int .i64 t371, .int .i64 t372, .int .i64 t373, .int .i64 t374, .bool t375] 71 (0, 0))) := ⟨by (with_reducible repeat (first | refine blk_drewN ?_ _ | refine blk_drew ?_ | refine blk_alloc ?_ _)); refine blk_put (cs := #[.int .i64 t371, .int .i64 t372, .int .i64 t373, .int .i64 t374, .bool false]) ?_ 4 _ rfl; (with_reducible repeat (first | refine blk_drewN ?_ _ | refine blk_drew ?_ | refine blk_alloc ?_ _)); refine blk_put (cs := #[.int .i64 t371, .int .i64 t372, .int .i64 t373, .int .i64 0, .bool false]) ?_ 3 _ rfl; (with_reducible repeat (first | refine blk_drewN ?_ _ | refine blk_drew ?_ | refine blk_alloc ?_ _)); refine blk_put (cs := #[.int .i64 t371, .int .i64 t372, .int .i64 0, .int .i64 0, .bool false]) ?_ 2 _ rfl; (with_reducible repeat (first | refine blk_drewN ?_ _ | refine blk_drew ?_ | refine blk_alloc ?_ _)); refine blk_put (cs := #[.int .i64 t371, .int .i64 0, .int .i64 0, .int .i64 0, .bool false]) ?_ 1 _ rfl; (with_reducible repeat (first | refine blk_drewN ?_ _ | refine blk_drew ?_ | refine blk_alloc ?_ _)); refine blk_put (cs := #[.int .i64 0, .int .i64 0, .int .i64 0, .int .i64 0, .bool false]) ?_ 0 _ rfl; (with_reducible repeat (first | refine blk_drewN ?_ _ | refine blk_drew ?_ | refine blk_alloc ?_ _)); exact BK379.out⟩
               have n3_ : Aside0 (Below w.heap.size w (((((w56.setCell ⟨gb379, 0, none⟩ (.int .i64 t371)).setCell ⟨gb379, 1, none⟩ (.int .i64 t372)).setCell ⟨gb379, 2, none⟩ (.int .i64 t373)).setCell ⟨gb379, 3, none⟩ (.int .i64 t374)).setCell ⟨gb379, 4, none⟩ (.bool t375))) := ⟨bel⟩
               (try clear BK360)
               (try clear BK361)
               (try clear BK379)
               (try clear HB)
               generalize (((((w56.setCell ⟨gb379, 0, none⟩ (.int .i64 t371)).setCell ⟨gb379, 1, none⟩ (.int .i64 t372)).setCell ⟨gb379, 2, none⟩ (.int .i64 t373)).setCell ⟨gb379, 3, none⟩ (.int .i64 t374)).setCell ⟨gb379, 4, none⟩ (.bool t375)) = w62 at n0_ n1_ n2_ n3_ ⊢
               have BK360 := n0_
               have BK361 := n1_
               have BK379 := n2_
               have HB := n3_
               clear n0_ n1_ n2_ n3_
               replace BK360 := Aside0.mk (blk_drew BK360.out)
               replace BK361 := Aside0.mk (blk_drew BK361.out)
               replace BK379 := Aside0.mk (blk_drew BK379.out)
               replace HB := Aside0.mk (below_drew1 HB.out)
               have p380 : 0 ≤ (0 : Int) := (by omega)
               have q380 : 0 < (l2.length : Int) := of_decide_eq_true (by first | (with_reducible assumption) | assumption)
               obtain ⟨ad380, e380, hx380_0, hx380_1, hx380_2, hx380_3⟩ := at_T78 HR2.out 0 p380 q380
               have hw380_3 := hx380_3
               (try rw [show ((0 : Int)).toNat = 0 from rfl] at hw380_3)
               (try rw [show 0 * 4 = 0 from rfl] at hw380_3)
               (try rw [Addr.add_zero'] at hw380_3)
               have hw380_2 := hx380_2
               (try rw [show ((0 : Int)).toNat = 0 from rfl] at hw380_2)
               (try rw [show 0 * 4 = 0 from rfl] at hw380_2)
               (try rw [Addr.add_zero'] at hw380_2)
               have hw380_1 := hx380_1
               (try rw [show ((0 : Int)).toNat = 0 from rfl] at hw380_1)
               (try rw [show 0 * 4 = 0 from rfl] at hw380_1)
               (try rw [Addr.add_zero'] at hw380_1)
               have hw380_0 := hx380_0
               (try rw [show ((0 : Int)).toNat = 0 from rfl] at hw380_0)
               (try rw [show 0 * 4 = 0 from rfl] at hw380_0)
               (try rw [Addr.add_zero'] at hw380_0)
               obtain rfl : ad370 = ad380 := (by injection e380)
               have qi380 : (0 < l2.length) = True := eq_true (by omega)
               (try rw [show ((0 : Int)).toNat = 0 from rfl] at hx380_0)
               (try rw [show 0 * 4 = 0 from rfl] at hx380_0)
               (try rw [Addr.add_zero'] at hx380_0)
               (try rw [show ((0 : Int)).toNat = 0 from rfl] at hx380_1)
               (try rw [show 0 * 4 = 0 from rfl] at hx380_1)
               (try rw [Addr.add_zero'] at hx380_1)
               (try rw [show ((0 : Int)).toNat = 0 from rfl] at hx380_2)
               (try rw [show 0 * 4 = 0 from rfl] at hx380_2)
               (try rw [Addr.add_zero'] at hx380_2)
               (try rw [show ((0 : Int)).toNat = 0 from rfl] at hx380_3)
               (try rw [show 0 * 4 = 0 from rfl] at hx380_3)
               (try rw [Addr.add_zero'] at hx380_3)
               replace hx380_0 := hxl HB hx380_0
               replace hx380_1 := hxl HB hx380_1
               replace hx380_2 := hxl HB hx380_2
               replace hx380_3 := hxl HB hx380_3
               replace p380 := eq_true p380
               replace q380 := eq_true q380
               refine start_ (n := 16) (S := fun w' => w'.cell? ⟨gb360, 0, none⟩ = some (.int .i64 a0_0) ∧ w'.cell? ⟨gb360, 1, none⟩ = some (.int .i64 a0_1) ∧ w'.cell? ⟨gb360, 2, none⟩ = some (.slice A0_2 l0_2.length c0_2) ∧ w'.cell? ⟨gb361, 0, none⟩ = some (.int .i64 a1_0) ∧ w'.cell? ⟨gb361, 1, none⟩ = some (.int .i64 a1_1) ∧ w'.cell? ⟨gb361, 2, none⟩ = some (.int .i64 a1_2) ∧ w'.cell? ⟨gb361, 3, none⟩ = some (.int .i64 a1_3) ∧ w'.cell? ⟨gb361, 4, none⟩ = some (.bool a1_4) ∧ w'.cell? ad370 = some (.int .i64 ((rd_T78 l2 0).f0)) ∧ w'.cell? ⟨ad370.block, ad370.off + 1, none⟩ = some (.int .i64 ((rd_T78 l2 0).f1)) ∧ w'.cell? ⟨ad370.block, ad370.off + 2, none⟩ = some (.int .i64 ((rd_T78 l2 0).f2)) ∧ w'.cell? ⟨ad370.block, ad370.off + 3, none⟩ = some (.int .i64 ((rd_T78 l2 0).f3))) (ds := []) #[ff, ff, ff, ff, ff, ff, ff, ff, ff, ff, ff, ff, ff, ff, ff, ff] (by kernel_rfl) rfl rfl ⟨(blk_cell BK360.out 0).trans rfl, (blk_cell BK360.out 1).trans rfl, (blk_cell BK360.out 2).trans rfl, (blk_cell BK361.out 0).trans rfl, (blk_cell BK361.out 1).trans rfl, (blk_cell BK361.out 2).trans rfl, (blk_cell BK361.out 3).trans rfl, (blk_cell BK361.out 4).trans rfl, ((HB.out.cell (World.block_lt_of_cell? w _ hw380_0)).trans hw380_0), ((HB.out.cell (World.block_lt_of_cell? w _ hw380_1)).trans hw380_1), ((HB.out.cell (World.block_lt_of_cell? w _ hw380_2)).trans hw380_2), ((HB.out.cell (World.block_lt_of_cell? w _ hw380_3)).trans hw380_3)⟩ (fun hHeld => ?_); refine with_tabW formelaw38_ContractMatchesReference.tab9 formelaw38_ContractMatchesReference.bits9 (fun HT_ HW_ => ?_)
               generalize w62.drew = w63 at BK360 BK361 BK379 HB hx380_0 hx380_1 hx380_2 hx380_3 hHeld ⊢
               refine pure_ (i := 2) (N := some 88) (v := ?_) (a' := ?_) #[ff, ff, tt, ff, ff, ff, ff, ff, ff, ff, ff, ff, ff, ff, ff, ff] rfl rfl (any_of HT_.out (by kernel_rfl)) (fun _ _ _ h => h) (Or.inl ⟨by rfl, ?_⟩) ?_ ?_
               rotate_left; intro w'; go_simp; with_reducible rfl; rotate_left; exact apt
               refine pure_ (i := 3) (N := some 89) (v := ?_) (a' := ?_) #[ff, ff, tt, tt, ff, ff, ff, ff, ff, ff, ff, ff, ff, ff, ff, ff] rfl rfl (any_of HT_.out (by kernel_rfl)) (fun _ _ _ h => h) (Or.inl ⟨by rfl, ?_⟩) ?_ ?_
               rotate_left; intro w'; go_simp; with_reducible rfl; rotate_left; exact apt
               refine take_ (i := 0) (N := some 86) (v := ?_) (a' := ?_) #[tt, ff, tt, tt, ff, ff, ff, ff, ff, ff, ff, ff, ff, ff, ff, ff] rfl rfl (take_ofW HT_.out HW_.out (by kernel_rfl)) (fun _ _ _ h => h) (Or.inl ⟨by rfl, ?_⟩) hHeld ?_ ?_
               rotate_left; rintro w' ⟨s0, s1, s2, s3, s4, s5, s6, s7, s8, s9, s10, s11⟩; go_simp; with_reducible rfl; rotate_left; exact apt
               refine take_ (i := 1) (N := some 87) (v := ?_) (a' := ?_) #[tt, tt, tt, tt, ff, ff, ff, ff, ff, ff, ff, ff, ff, ff, ff, ff] rfl rfl (take_ofW HT_.out HW_.out (by kernel_rfl)) (fun _ _ _ h => h) (Or.inl ⟨by rfl, ?_⟩) hHeld ?_ ?_
               rotate_left; rintro w' ⟨s0, s1, s2, s3, s4, s5, s6, s7, s8, s9, s10, s11⟩; go_simp; with_reducible rfl; rotate_left; exact apt
               refine take_ (i := 4) (N := some 90) (v := ?_) (a' := ?_) #[tt, tt, tt, tt, tt, ff, ff, ff, ff, ff, ff, ff, ff, ff, ff, ff] rfl rfl (take_ofW HT_.out HW_.out (by kernel_rfl)) (fun _ _ _ h => h) (Or.inl ⟨by rfl, ?_⟩) hHeld ?_ ?_
               rotate_left; rintro w' ⟨s0, s1, s2, s3, s4, s5, s6, s7, s8, s9, s10, s11⟩; go_simp; with_reducible rfl; rotate_left; exact apt
               refine join_ (σ := Nat) 4 #[tt, tt, tt, tt, tt, tt, tt, tt, tt, tt, tt, tt, ff, ff, ff, ff] (fun s_ => [(91, .tuple #[.agg #[.int .i64 t381, .int .i64 t382, .int .i64 t383, .int .i64 t384, .bool t385], .int .i64 t386, .bool t387, .int .i64 t388]), (18, .pointer (some ⟨s_, 0, none⟩)), (85, .tuple #[.agg #[.int .i64 t381, .int .i64 t382, .int .i64 t383, .int .i64 t384, .bool t385], .int .i64 t386, .bool t387, .int .i64 t388]), (92, .agg #[.int .i64 t381, .int .i64 t382, .int .i64 t383, .int .i64 t384, .bool t385]), (93, .int .i64 t386), (94, .bool t387), (95, .int .i64 t388)]) (fun s_ w' => (w'.cell? ⟨gb360, 0, none⟩ = some (.int .i64 a0_0) ∧ w'.cell? ⟨gb360, 1, none⟩ = some (.int .i64 a0_1) ∧ w'.cell? ⟨gb360, 2, none⟩ = some (.slice A0_2 l0_2.length c0_2) ∧ w'.cell? ⟨gb361, 0, none⟩ = some (.int .i64 a1_0) ∧ w'.cell? ⟨gb361, 1, none⟩ = some (.int .i64 a1_1) ∧ w'.cell? ⟨gb361, 2, none⟩ = some (.int .i64 a1_2) ∧ w'.cell? ⟨gb361, 3, none⟩ = some (.int .i64 a1_3) ∧ w'.cell? ⟨gb361, 4, none⟩ = some (.bool a1_4) ∧ w'.cell? ad370 = some (.int .i64 ((rd_T78 l2 0).f0)) ∧ w'.cell? ⟨ad370.block, ad370.off + 1, none⟩ = some (.int .i64 ((rd_T78 l2 0).f1)) ∧ w'.cell? ⟨ad370.block, ad370.off + 2, none⟩ = some (.int .i64 ((rd_T78 l2 0).f2)) ∧ w'.cell? ⟨ad370.block, ad370.off + 3, none⟩ = some (.int .i64 ((rd_T78 l2 0).f3))) ∧ (w'.heap[gb360]? = some (.cells #[.int .i64 a0_0, .int .i64 a0_1, .slice A0_2 l0_2.length c0_2] 69 (0, 0))) ∧ (w'.heap[gb361]? = some (.cells #[.int .i64 a1_0, .int .i64 a1_1, .int .i64 a1_2, .int .i64 a1_3, .bool a1_4] 71 (0, 0))) ∧ (w'.heap[gb379]? = some (.cells #[.int .i64 t371, .int .i64 t372, .int .i64 t373, .int .i64 t374, .bool t375] 71 (0, 0))) ∧ (w'.heap[s_]? = some (.cells #[.int .i64 0, .int .i64 0, .int .i64 0, .int .i64 0, .bool false] 71 (0, 0))) ∧ (w.heap.size ≤ s_) ∧ (w.heap.size ≤ s_) ∧ (gb360 ≠ s_) ∧ (s_ ≠ gb360) ∧ (gb361 ≠ s_) ∧ (s_ ≠ gb361) ∧ (gb379 ≠ s_) ∧ (s_ ≠ gb379) ∧ (Below w.heap.size w w')) ?_ ?_
               rotate_left
               ·intro hCont
                refine two_ (i := 5) (j := 11) (Ni := some 91) (Nj := some 18) #[tt, tt, tt, tt, tt, tt, ff, ff, ff, ff, ff, ff, ff, ff, ff, ff] #[tt, tt, tt, tt, tt, ff, ff, ff, ff, ff, ff, tt, ff, ff, ff, ff] rfl rfl rfl rfl (two_of HT_.out (by kernel_rfl)) (by decide) (by decide) (fun K hK => ?_) (fun K hK => ?_)
                ·skip
                 refine goes_ Try.func64 (by kernel_rfl) rfl #[.agg #[.int .i64 a0_0, .int .i64 a0_1, .slice A0_2 l0_2.length c0_2], .agg #[.int .i64 a1_0, .int .i64 a1_1, .int .i64 a1_2, .int .i64 a1_3, .bool a1_4], .agg #[.int .i64 ((rd_T78 l2 0).f0), .int .i64 ((rd_T78 l2 0).f1), .int .i64 ((rd_T78 l2 0).f2), .int .i64 ((rd_T78 l2 0).f3)]] (by rfl) rfl rfl gla ?_
                 with_reducible refine (formeref38_Judge.calls kj24 a0_0 a0_1 _ _ l0_2 a1_0 a1_1 a1_2 a1_3 a1_4 ((rd_T78 l2 0).f0) ((rd_T78 l2 0).f1) ((rd_T78 l2 0).f2) ((rd_T78 l2 0).f3) t381 t382 t383 t384 t385 t386 t387 t388 _ ?side1 ?side2 A42.out).mono ?_
                 (case side1 => repeat (first | exact (Kd.C_below HR0_2.out HB.out) | (with_reducible refine Kd.C_alloc ?_ _) | (with_reducible refine Kd.C_drewN ?_ _) | (with_reducible refine Kd.C_drew ?_)))
                 (case side2 => exact HC0_2.out)
                 rintro e w64 ⟨rfl, hb⟩
                 refine ⟨_, rfl, ?_⟩
                 replace BK360 := bka BK360 hb
                 replace BK361 := bka BK361 hb
                 replace BK379 := bka BK379 hb
                 replace HB := hba hb
                 (try clear hb)
                 (try clear hb2)
                 (try clear hk)
                 (try clear hi)
                 refine hK.out _ _ ⟨(blk_cell BK360.out 0).trans rfl, (blk_cell BK360.out 1).trans rfl, (blk_cell BK360.out 2).trans rfl, (blk_cell BK361.out 0).trans rfl, (blk_cell BK361.out 1).trans rfl, (blk_cell BK361.out 2).trans rfl, (blk_cell BK361.out 3).trans rfl, (blk_cell BK361.out 4).trans rfl, ((HB.out.cell (World.block_lt_of_cell? w _ hw380_0)).trans hw380_0), ((HB.out.cell (World.block_lt_of_cell? w _ hw380_1)).trans hw380_1), ((HB.out.cell (World.block_lt_of_cell? w _ hw380_2)).trans hw380_2), ((HB.out.cell (World.block_lt_of_cell? w _ hw380_3)).trans hw380_3)⟩ (fun hHeld => ?_)
                 clear hK K
                 refine norm_ (a' := ?_) ?_ ?_
                 rotate_left
                 ·show Act.put _ (some 91) _ = _
                  simp only [Act.put, List.setIfInBounds_toArray, List.set_cons_zero, List.set_cons_succ, i64_w, i32_w]
                  rfl
                 refine pure_ (i := 6) (N := some 85) (v := ?_) (a' := ?_) #[tt, tt, tt, tt, tt, tt, tt, ff, ff, ff, ff, ff, ff, ff, ff, ff] rfl rfl (any_of HT_.out (by kernel_rfl)) (fun _ _ _ h => h) (Or.inl ⟨by rfl, ?_⟩) ?_ ?_
                 rotate_left; intro w'; go_simp; with_reducible rfl; rotate_left; exact apt
                 refine pure_ (i := 7) (N := some 92) (v := ?_) (a' := ?_) #[tt, tt, tt, tt, tt, tt, tt, tt, ff, ff, ff, ff, ff, ff, ff, ff] rfl rfl (any_of HT_.out (by kernel_rfl)) (fun _ _ _ h => h) (Or.inl ⟨by rfl, ?_⟩) ?_ ?_
                 rotate_left; intro w'; go_simp; with_reducible rfl; rotate_left; exact apt
                 refine pure_ (i := 8) (N := some 93) (v := ?_) (a' := ?_) #[tt, tt, tt, tt, tt, tt, tt, tt, tt, ff, ff, ff, ff, ff, ff, ff] rfl rfl (any_of HT_.out (by kernel_rfl)) (fun _ _ _ h => h) (Or.inl ⟨by rfl, ?_⟩) ?_ ?_
                 rotate_left; intro w'; go_simp; with_reducible rfl; rotate_left; exact apt
                 refine pure_ (i := 9) (N := some 94) (v := ?_) (a' := ?_) #[tt, tt, tt, tt, tt, tt, tt, tt, tt, tt, ff, ff, ff, ff, ff, ff] rfl rfl (any_of HT_.out (by kernel_rfl)) (fun _ _ _ h => h) (Or.inl ⟨by rfl, ?_⟩) ?_ ?_
                 rotate_left; intro w'; go_simp; with_reducible rfl; rotate_left; exact apt
                 refine pure_ (i := 10) (N := some 95) (v := ?_) (a' := ?_) #[tt, tt, tt, tt, tt, tt, tt, tt, tt, tt, tt, ff, ff, ff, ff, ff] rfl rfl (any_of HT_.out (by kernel_rfl)) (fun _ _ _ h => h) (Or.inl ⟨by rfl, ?_⟩) ?_ ?_
                 rotate_left; intro w'; go_simp; with_reducible rfl; rotate_left; exact apt
                 refine one_ (i := 11) (N := some 18) #[tt, tt, tt, tt, tt, tt, tt, tt, tt, tt, tt, tt, ff, ff, ff, ff] rfl rfl (one_of HT_.out (by kernel_rfl)) (by decide) (fun K hK => ?_)
                 refine box_step ?hg (N := 18) ?hd (cs := #[.int .i64 0, .int .i64 0, .int .i64 0, .int .i64 0, .bool false]) (t := 71) ?hr ?_; (case hd => rfl); (case hg => rfl); (case hr => first | (go_simp; done) | (go_simp; rfl))
                 intro gb389 hg w65 hbox hb
                 have BK389 := Aside0.mk (hbox)
                 have GW389 := gwa w hg
                 have GE389 := gwa w hg
                 have NB360_389 := nal BK360 hg
                 have NB389_360 := nag BK360 hg
                 have NB361_389 := nal BK361 hg
                 have NB389_361 := nag BK361 hg
                 have NB379_389 := nal BK379 hg
                 have NB389_379 := nag BK379 hg
                 replace BK360 := bka BK360 hb
                 replace BK361 := bka BK361 hb
                 replace BK379 := bka BK379 hb
                 replace HB := hba hb
                 clear hb hbox hg
                 refine hK.out _ _ ⟨(blk_cell BK360.out 0).trans rfl, (blk_cell BK360.out 1).trans rfl, (blk_cell BK360.out 2).trans rfl, (blk_cell BK361.out 0).trans rfl, (blk_cell BK361.out 1).trans rfl, (blk_cell BK361.out 2).trans rfl, (blk_cell BK361.out 3).trans rfl, (blk_cell BK361.out 4).trans rfl, ((HB.out.cell (World.block_lt_of_cell? w _ hw380_0)).trans hw380_0), ((HB.out.cell (World.block_lt_of_cell? w _ hw380_1)).trans hw380_1), ((HB.out.cell (World.block_lt_of_cell? w _ hw380_2)).trans hw380_2), ((HB.out.cell (World.block_lt_of_cell? w _ hw380_3)).trans hw380_3)⟩ (fun hHeld => ?_)
                 clear hK K
                 refine norm_ (a' := ?_) ?_ ?_
                 rotate_left
                 ·show Act.put _ (some 18) _ = _
                  simp only [Act.put, List.setIfInBounds_toArray, List.set_cons_zero, List.set_cons_succ, i64_w, i32_w]
                  rfl
                 exact norm_ (by simp only [putAll, Act.put, List.setIfInBounds_toArray, List.set_cons_zero, List.set_cons_succ]) (hCont (gb389) _ ⟨hHeld, (by (with_reducible repeat (first | refine blk_drewN ?_ _ | refine blk_drew ?_ | refine blk_alloc ?_ _)); exact BK360.out), (by (with_reducible repeat (first | refine blk_drewN ?_ _ | refine blk_drew ?_ | refine blk_alloc ?_ _)); exact BK361.out), (by (with_reducible repeat (first | refine blk_drewN ?_ _ | refine blk_drew ?_ | refine blk_alloc ?_ _)); exact BK379.out), (by (with_reducible repeat (first | refine blk_drewN ?_ _ | refine blk_drew ?_ | refine blk_alloc ?_ _)); exact BK389.out), GW389.out, GE389.out, NB360_389.out, NB389_360.out, NB361_389.out, NB389_361.out, NB379_389.out, NB389_379.out, bel⟩)
                ·skip
                 refine box_step ?hg (N := 18) ?hd (cs := #[.int .i64 0, .int .i64 0, .int .i64 0, .int .i64 0, .bool false]) (t := 71) ?hr ?_; (case hd => rfl); (case hg => rfl); (case hr => first | (go_simp; done) | (go_simp; rfl))
                 intro gb389 hg w64 hbox hb
                 have BK389 := Aside0.mk (hbox)
                 have GW389 := gwa w hg
                 have GE389 := gwa w hg
                 have NB360_389 := nal BK360 hg
                 have NB389_360 := nag BK360 hg
                 have NB361_389 := nal BK361 hg
                 have NB389_361 := nag BK361 hg
                 have NB379_389 := nal BK379 hg
                 have NB389_379 := nag BK379 hg
                 replace BK360 := bka BK360 hb
                 replace BK361 := bka BK361 hb
                 replace BK379 := bka BK379 hb
                 replace HB := hba hb
                 clear hb hbox hg
                 refine hK.out _ _ ⟨(blk_cell BK360.out 0).trans rfl, (blk_cell BK360.out 1).trans rfl, (blk_cell BK360.out 2).trans rfl, (blk_cell BK361.out 0).trans rfl, (blk_cell BK361.out 1).trans rfl, (blk_cell BK361.out 2).trans rfl, (blk_cell BK361.out 3).trans rfl, (blk_cell BK361.out 4).trans rfl, ((HB.out.cell (World.block_lt_of_cell? w _ hw380_0)).trans hw380_0), ((HB.out.cell (World.block_lt_of_cell? w _ hw380_1)).trans hw380_1), ((HB.out.cell (World.block_lt_of_cell? w _ hw380_2)).trans hw380_2), ((HB.out.cell (World.block_lt_of_cell? w _ hw380_3)).trans hw380_3)⟩ (fun hHeld => ?_)
                 clear hK K
                 refine norm_ (a' := ?_) ?_ ?_
                 rotate_left
                 ·show Act.put _ (some 18) _ = _
                  simp only [Act.put, List.setIfInBounds_toArray, List.set_cons_zero, List.set_cons_succ, i64_w, i32_w]
                  rfl
                 refine one_ (i := 5) (N := some 91) #[tt, tt, tt, tt, tt, tt, ff, ff, ff, ff, ff, tt, ff, ff, ff, ff] rfl rfl (one_of HT_.out (by kernel_rfl)) (by decide) (fun K hK => ?_)
                 refine goes_ Try.func64 (by kernel_rfl) rfl #[.agg #[.int .i64 a0_0, .int .i64 a0_1, .slice A0_2 l0_2.length c0_2], .agg #[.int .i64 a1_0, .int .i64 a1_1, .int .i64 a1_2, .int .i64 a1_3, .bool a1_4], .agg #[.int .i64 ((rd_T78 l2 0).f0), .int .i64 ((rd_T78 l2 0).f1), .int .i64 ((rd_T78 l2 0).f2), .int .i64 ((rd_T78 l2 0).f3)]] (by rfl) rfl rfl gla ?_
                 with_reducible refine (formeref38_Judge.calls kj24 a0_0 a0_1 _ _ l0_2 a1_0 a1_1 a1_2 a1_3 a1_4 ((rd_T78 l2 0).f0) ((rd_T78 l2 0).f1) ((rd_T78 l2 0).f2) ((rd_T78 l2 0).f3) t381 t382 t383 t384 t385 t386 t387 t388 _ ?side1 ?side2 A42.out).mono ?_
                 (case side1 => repeat (first | exact (Kd.C_below HR0_2.out HB.out) | (with_reducible refine Kd.C_alloc ?_ _) | (with_reducible refine Kd.C_drewN ?_ _) | (with_reducible refine Kd.C_drew ?_)))
                 (case side2 => exact HC0_2.out)
                 rintro e w65 ⟨rfl, hb⟩
                 refine ⟨_, rfl, ?_⟩
                 replace BK360 := bka BK360 hb
                 replace BK361 := bka BK361 hb
                 replace BK379 := bka BK379 hb
                 replace BK389 := bka BK389 hb
                 replace HB := hba hb
                 (try clear hb)
                 (try clear hb2)
                 (try clear hk)
                 (try clear hi)
                 refine hK.out _ _ ⟨(blk_cell BK360.out 0).trans rfl, (blk_cell BK360.out 1).trans rfl, (blk_cell BK360.out 2).trans rfl, (blk_cell BK361.out 0).trans rfl, (blk_cell BK361.out 1).trans rfl, (blk_cell BK361.out 2).trans rfl, (blk_cell BK361.out 3).trans rfl, (blk_cell BK361.out 4).trans rfl, ((HB.out.cell (World.block_lt_of_cell? w _ hw380_0)).trans hw380_0), ((HB.out.cell (World.block_lt_of_cell? w _ hw380_1)).trans hw380_1), ((HB.out.cell (World.block_lt_of_cell? w _ hw380_2)).trans hw380_2), ((HB.out.cell (World.block_lt_of_cell? w _ hw380_3)).trans hw380_3)⟩ (fun hHeld => ?_)
                 clear hK K
                 refine norm_ (a' := ?_) ?_ ?_
                 rotate_left
                 ·show Act.put _ (some 91) _ = _
                  simp only [Act.put, List.setIfInBounds_toArray, List.set_cons_zero, List.set_cons_succ, i64_w, i32_w]
                  rfl
                 refine pure_ (i := 6) (N := some 85) (v := ?_) (a' := ?_) #[tt, tt, tt, tt, tt, tt, tt, ff, ff, ff, ff, tt, ff, ff, ff, ff] rfl rfl (any_of HT_.out (by kernel_rfl)) (fun _ _ _ h => h) (Or.inl ⟨by rfl, ?_⟩) ?_ ?_
                 rotate_left; intro w'; go_simp; with_reducible rfl; rotate_left; exact apt
                 refine pure_ (i := 7) (N := some 92) (v := ?_) (a' := ?_) #[tt, tt, tt, tt, tt, tt, tt, tt, ff, ff, ff, tt, ff, ff, ff, ff] rfl rfl (any_of HT_.out (by kernel_rfl)) (fun _ _ _ h => h) (Or.inl ⟨by rfl, ?_⟩) ?_ ?_
                 rotate_left; intro w'; go_simp; with_reducible rfl; rotate_left; exact apt
                 refine pure_ (i := 8) (N := some 93) (v := ?_) (a' := ?_) #[tt, tt, tt, tt, tt, tt, tt, tt, tt, ff, ff, tt, ff, ff, ff, ff] rfl rfl (any_of HT_.out (by kernel_rfl)) (fun _ _ _ h => h) (Or.inl ⟨by rfl, ?_⟩) ?_ ?_
                 rotate_left; intro w'; go_simp; with_reducible rfl; rotate_left; exact apt
                 refine pure_ (i := 9) (N := some 94) (v := ?_) (a' := ?_) #[tt, tt, tt, tt, tt, tt, tt, tt, tt, tt, ff, tt, ff, ff, ff, ff] rfl rfl (any_of HT_.out (by kernel_rfl)) (fun _ _ _ h => h) (Or.inl ⟨by rfl, ?_⟩) ?_ ?_
                 rotate_left; intro w'; go_simp; with_reducible rfl; rotate_left; exact apt
                 refine pure_ (i := 10) (N := some 95) (v := ?_) (a' := ?_) #[tt, tt, tt, tt, tt, tt, tt, tt, tt, tt, tt, tt, ff, ff, ff, ff] rfl rfl (any_of HT_.out (by kernel_rfl)) (fun _ _ _ h => h) (Or.inl ⟨by rfl, ?_⟩) ?_ ?_
                 rotate_left; intro w'; go_simp; with_reducible rfl; rotate_left; exact apt
                 exact norm_ (by simp only [putAll, Act.put, List.setIfInBounds_toArray, List.set_cons_zero, List.set_cons_succ]) (hCont (gb389) _ ⟨hHeld, (by (with_reducible repeat (first | refine blk_drewN ?_ _ | refine blk_drew ?_ | refine blk_alloc ?_ _)); exact BK360.out), (by (with_reducible repeat (first | refine blk_drewN ?_ _ | refine blk_drew ?_ | refine blk_alloc ?_ _)); exact BK361.out), (by (with_reducible repeat (first | refine blk_drewN ?_ _ | refine blk_drew ?_ | refine blk_alloc ?_ _)); exact BK379.out), (by (with_reducible repeat (first | refine blk_drewN ?_ _ | refine blk_drew ?_ | refine blk_alloc ?_ _)); exact BK389.out), GW389.out, GE389.out, NB360_389.out, NB389_360.out, NB361_389.out, NB389_361.out, NB379_389.out, NB389_379.out, bel⟩)
               rintro gb389 w66 ⟨hS_, h0_, h1_, h2_, h3_, h4_, h5_, h6_, h7_, h8_, h9_, h10_, h11_, h12_⟩
               have n0_ : Aside0 (w66.heap[gb360]? = some (.cells #[.int .i64 a0_0, .int .i64 a0_1, .slice A0_2 l0_2.length c0_2] 69 (0, 0))) := ⟨h0_⟩
               have n1_ : Aside0 (w66.heap[gb361]? = some (.cells #[.int .i64 a1_0, .int .i64 a1_1, .int .i64 a1_2, .int .i64 a1_3, .bool a1_4] 71 (0, 0))) := ⟨h1_⟩
               have n2_ : Aside0 (w66.heap[gb379]? = some (.cells #[.int .i64 t371, .int .i64 t372, .int .i64 t373, .int .i64 t374, .bool t375] 71 (0, 0))) := ⟨h2_⟩
               have n3_ : Aside0 (w66.heap[gb389]? = some (.cells #[.int .i64 0, .int .i64 0, .int .i64 0, .int .i64 0, .bool false] 71 (0, 0))) := ⟨h3_⟩
               have n4_ : Aside0 (w.heap.size ≤ gb389) := ⟨h4_⟩
               have n5_ : Aside0 (w.heap.size ≤ gb389) := ⟨h5_⟩
               have n6_ : Aside0 (gb360 ≠ gb389) := ⟨h6_⟩
               have n7_ : Aside0 (gb389 ≠ gb360) := ⟨h7_⟩
               have n8_ : Aside0 (gb361 ≠ gb389) := ⟨h8_⟩
               have n9_ : Aside0 (gb389 ≠ gb361) := ⟨h9_⟩
               have n10_ : Aside0 (gb379 ≠ gb389) := ⟨h10_⟩
               have n11_ : Aside0 (gb389 ≠ gb379) := ⟨h11_⟩
               have n12_ : Aside0 (Below w.heap.size w w66) := ⟨h12_⟩
               clear BK360
               clear BK361
               clear BK379
               clear HB
               clear h0_ h1_ h2_ h3_ h4_ h5_ h6_ h7_ h8_ h9_ h10_ h11_ h12_
               have BK360 := n0_
               have BK361 := n1_
               have BK379 := n2_
               have BK389 := n3_
               have GW389 := n4_
               have GE389 := n5_
               have NB360_389 := n6_
               have NB389_360 := n7_
               have NB361_389 := n8_
               have NB389_361 := n9_
               have NB379_389 := n10_
               have NB389_379 := n11_
               have HB := n12_
               clear n0_ n1_ n2_ n3_ n4_ n5_ n6_ n7_ n8_ n9_ n10_ n11_ n12_
               have hHeld : w66.cell? ⟨gb360, 0, none⟩ = some (.int .i64 a0_0) ∧ w66.cell? ⟨gb360, 1, none⟩ = some (.int .i64 a0_1) ∧ w66.cell? ⟨gb360, 2, none⟩ = some (.slice A0_2 l0_2.length c0_2) ∧ w66.cell? ⟨gb361, 0, none⟩ = some (.int .i64 a1_0) ∧ w66.cell? ⟨gb361, 1, none⟩ = some (.int .i64 a1_1) ∧ w66.cell? ⟨gb361, 2, none⟩ = some (.int .i64 a1_2) ∧ w66.cell? ⟨gb361, 3, none⟩ = some (.int .i64 a1_3) ∧ w66.cell? ⟨gb361, 4, none⟩ = some (.bool a1_4) ∧ w66.cell? ad370 = some (.int .i64 ((rd_T78 l2 0).f0)) ∧ w66.cell? ⟨ad370.block, ad370.off + 1, none⟩ = some (.int .i64 ((rd_T78 l2 0).f1)) ∧ w66.cell? ⟨ad370.block, ad370.off + 2, none⟩ = some (.int .i64 ((rd_T78 l2 0).f2)) ∧ w66.cell? ⟨ad370.block, ad370.off + 3, none⟩ = some (.int .i64 ((rd_T78 l2 0).f3)) := hS_
               refine norm_ (a' := ?_) ?_ ?_
               rotate_left
               ·simp only [putAll, Act.put, List.setIfInBounds_toArray, List.set_cons_zero, List.set_cons_succ]
                rfl
               refine one_ (i := 12) (N := none) #[tt, tt, tt, tt, tt, tt, tt, tt, tt, tt, tt, tt, tt, ff, ff, ff] rfl rfl (one_of HT_.out (by kernel_rfl)) (by decide) (fun K hK => ?_)
               have hs67 : w66.cell? ⟨gb389, 0, none⟩ = some (.int .i64 0) := (blk_cell BK389.out 0).trans rfl
               have hfs67 := blk_frozen BK389.out 0
               have hns67_0 := NB360_389.out
               have hns67_1 := NB361_389.out
               have hns67_2 := NB379_389.out
               have hms67_0 := NB389_360.out
               have hms67_1 := NB389_361.out
               have hms67_2 := NB389_379.out
               have hs68 : w66.cell? ⟨gb389, 1, none⟩ = some (.int .i64 0) := (blk_cell BK389.out 1).trans rfl
               have hfs68 := blk_frozen BK389.out 1
               have hns68_0 := NB360_389.out
               have hns68_1 := NB361_389.out
               have hns68_2 := NB379_389.out
               have hms68_0 := NB389_360.out
               have hms68_1 := NB389_361.out
               have hms68_2 := NB389_379.out
               have hs69 : w66.cell? ⟨gb389, 2, none⟩ = some (.int .i64 0) := (blk_cell BK389.out 2).trans rfl
               have hfs69 := blk_frozen BK389.out 2
               have hns69_0 := NB360_389.out
               have hns69_1 := NB361_389.out
               have hns69_2 := NB379_389.out
               have hms69_0 := NB389_360.out
               have hms69_1 := NB389_361.out
               have hms69_2 := NB389_379.out
               have hs70 : w66.cell? ⟨gb389, 3, none⟩ = some (.int .i64 0) := (blk_cell BK389.out 3).trans rfl
               have hfs70 := blk_frozen BK389.out 3
               have hns70_0 := NB360_389.out
               have hns70_1 := NB361_389.out
               have hns70_2 := NB379_389.out
               have hms70_0 := NB389_360.out
               have hms70_1 := NB389_361.out
               have hms70_2 := NB389_379.out
               have hs71 : w66.cell? ⟨gb389, 4, none⟩ = some (.bool false) := (blk_cell BK389.out 4).trans rfl
               have hfs71 := blk_frozen BK389.out 4
               have hns71_0 := NB360_389.out
               have hns71_1 := NB361_389.out
               have hns71_2 := NB379_389.out
               have hms71_0 := NB389_360.out
               have hms71_1 := NB389_361.out
               have hms71_2 := NB389_379.out
               refine skip_ (w1 := ?_) (by rfl) rfl ?_ ?_
               rotate_left
               ·go_simp
                rfl
               refine hK.out _ _ ⟨(cf5 NB360_389.out (hHeld.1)), (cf5 NB360_389.out (hHeld.2.1)), (cf5 NB360_389.out (hHeld.2.2.1)), (cf5 NB361_389.out (hHeld.2.2.2.1)), (cf5 NB361_389.out (hHeld.2.2.2.2.1)), (cf5 NB361_389.out (hHeld.2.2.2.2.2.1)), (cf5 NB361_389.out (hHeld.2.2.2.2.2.2.1)), (cf5 NB361_389.out (hHeld.2.2.2.2.2.2.2.1)), (cf5 (fne hw380_0 GW389) (hHeld.2.2.2.2.2.2.2.2.1)), (cf5 (fne hw380_1 GW389) (hHeld.2.2.2.2.2.2.2.2.2.1)), (cf5 (fne hw380_2 GW389) (hHeld.2.2.2.2.2.2.2.2.2.2.1)), (cf5 (fne hw380_3 GW389) (hHeld.2.2.2.2.2.2.2.2.2.2.2))⟩ (fun hHeld => ?_)
               clear hK K
               refine pure_ (i := 13) (N := some 19) (v := ?_) (a' := ?_) #[tt, tt, tt, tt, tt, tt, tt, tt, tt, tt, tt, tt, tt, tt, ff, ff] rfl rfl (any_of HT_.out (by kernel_rfl)) (fun _ _ _ h => h) (Or.inl ⟨by rfl, ?_⟩) ?_ ?_
               rotate_left; intro w'; go_simp; with_reducible rfl; rotate_left; exact apt
               refine pure_ (i := 14) (N := some 20) (v := ?_) (a' := ?_) #[tt, tt, tt, tt, tt, tt, tt, tt, tt, tt, tt, tt, tt, tt, tt, ff] rfl rfl (any_of HT_.out (by kernel_rfl)) (fun _ _ _ h => h) (Or.inl ⟨by rfl, ?_⟩) ?_ ?_
               rotate_left; intro w'; go_simp; with_reducible rfl; rotate_left; exact apt
               refine pure_ (i := 15) (N := some 21) (v := ?_) (a' := ?_) #[tt, tt, tt, tt, tt, tt, tt, tt, tt, tt, tt, tt, tt, tt, tt, tt] rfl rfl (any_of HT_.out (by kernel_rfl)) (fun _ _ _ h => h) (Or.inl ⟨by rfl, ?_⟩) ?_ ?_
               rotate_left; intro w'; go_simp; with_reducible rfl; rotate_left; exact apt
               refine done_ (done_of HT_.out (by kernel_rfl)) ?_
               have hnb72 := NB379_360.out
               have hnc72 := NB360_379.out
               have hnb73 := NB379_361.out
               have hnc73 := NB361_379.out
               have hnb74 := NB379_389.out
               have hnc74 := NB389_379.out
               obtain ⟨hcz75_0, hcz75_1, hcz75_2, hcz75_3, hcz75_4, hfz75_0, hfz75_1, hfz75_2, hfz75_3, hfz75_4⟩ := cz5 BK379
               have hnb76 := NB389_360.out
               have hnc76 := NB360_389.out
               have hnb77 := NB389_361.out
               have hnc77 := NB361_389.out
               obtain ⟨hcz78_0, hcz78_1, hcz78_2, hcz78_3, hcz78_4, hfz78_0, hfz78_1, hfz78_2, hfz78_3, hfz78_4⟩ := cz5 BK389
               have hnb79 := NB360_361.out
               have hnc79 := NB361_360.out
               obtain ⟨hcz80_0, hcz80_1, hcz80_2, hfz80_0, hfz80_1, hfz80_2⟩ := cz3 BK360
               try go_wp2_with (first | ((with_reducible refine gate_callee (f := 65) rfl ?_); refine goesL_ (some 120) rfl rfl Try.func65 (by kernel_rfl) rfl #[.agg #[.int .i64 a0_0, .int .i64 a0_1, .slice A0_2 l0_2.length c0_2], .slice (some ad370) l2.length c2] rfl gla ?_; (with_reducible refine (contract_Course.calls a0_0 a0_1 _ _ l0_2 _ _ l2 t390 t391 t392 t393 t394 t395 t398 _ ?side1 ?side2 ?side3 ?side4 A47.out).mono ?_); (case side1 => exact Kd.C_below HR0_2.out bel); (case side2 => exact HC0_2.out); (case side3 => exact Kd.C_below HR2.out bel); (case side4 => exact HC2.out); rintro e w81 ⟨v396, rfl, ho0, hb⟩; refine ⟨_, rfl, ?_⟩; have HO397 := Aside0.mk (Kd.R_lower ho0 (below_size bel)); replace BK360 := Aside0.mk (blk_below (g := gb360) (o := .cells #[.int .i64 a0_0, .int .i64 a0_1, .slice A0_2 l0_2.length c0_2] 69 (0, 0)) (bkf BK360) hb); replace BK361 := Aside0.mk (blk_below (g := gb361) (o := .cells #[.int .i64 a1_0, .int .i64 a1_1, .int .i64 a1_2, .int .i64 a1_3, .bool a1_4] 71 (0, 0)) (bkf BK361) hb); replace BK379 := Aside0.mk (blk_below (g := gb379) (o := .cells #[.int .i64 t371, .int .i64 t372, .int .i64 t373, .int .i64 t374, .bool t375] 71 (0, 0)) (bkf BK379) hb); replace BK389 := Aside0.mk (blk_below (g := gb389) (o := .cells #[.int .i64 t381, .int .i64 t382, .int .i64 t383, .int .i64 t384, .bool t385] 71 (0, 0)) (by (with_reducible repeat (first | refine blk_drewN ?_ _ | refine blk_drew ?_ | refine blk_alloc ?_ _)); refine blk_put (cs := #[.int .i64 t381, .int .i64 t382, .int .i64 t383, .int .i64 t384, .bool false]) ?_ 4 _ rfl; (with_reducible repeat (first | refine blk_drewN ?_ _ | refine blk_drew ?_ | refine blk_alloc ?_ _)); refine blk_put (cs := #[.int .i64 t381, .int .i64 t382, .int .i64 t383, .int .i64 0, .bool false]) ?_ 3 _ rfl; (with_reducible repeat (first | refine blk_drewN ?_ _ | refine blk_drew ?_ | refine blk_alloc ?_ _)); refine blk_put (cs := #[.int .i64 t381, .int .i64 t382, .int .i64 0, .int .i64 0, .bool false]) ?_ 2 _ rfl; (with_reducible repeat (first | refine blk_drewN ?_ _ | refine blk_drew ?_ | refine blk_alloc ?_ _)); refine blk_put (cs := #[.int .i64 t381, .int .i64 0, .int .i64 0, .int .i64 0, .bool false]) ?_ 1 _ rfl; (with_reducible repeat (first | refine blk_drewN ?_ _ | refine blk_drew ?_ | refine blk_alloc ?_ _)); refine blk_put (cs := #[.int .i64 0, .int .i64 0, .int .i64 0, .int .i64 0, .bool false]) ?_ 0 _ rfl; (with_reducible repeat (first | refine blk_drewN ?_ _ | refine blk_drew ?_ | refine blk_alloc ?_ _)); exact BK389.out) hb); replace HB := hba hb; (try clear hb); (try clear ho0)) | ((with_reducible refine gate_dst (N := 22) rfl ?_); (try (refine gate_guard (by rfl) ?_; dsimp only)); refine box_event ?hg (N := 22) ?hd (cs := #[.int .i64 0, .int .i64 0, .int .i64 0, .int .i64 0, .bool false]) (t := 71) ?hr ?_; (case hd => rfl); (case hg => rfl); (case hr => first | (go_simp; done) | (go_simp; rfl)); intro gb399 hg w82 hbox hb; have BK399 := Aside0.mk (hbox); have GW399 := gwa w hg; have GE399 := gwa w hg; have NB360_399 := nal BK360 hg; have NB399_360 := nag BK360 hg; have NB361_399 := nal BK361 hg; have NB399_361 := nag BK361 hg; have NB379_399 := nal BK379 hg; have NB399_379 := nag BK379 hg; have NB389_399 := nal BK389 hg; have NB399_389 := nag BK389 hg; replace HO397 := hoa HO397 hb; replace BK360 := bka BK360 hb; replace BK361 := bka BK361 hb; replace BK379 := bka BK379 hb; replace BK389 := bka BK389 hb; replace HB := hba hb; clear hb hbox hg; have hnb83 := NB399_360.out; have hnc83 := NB360_399.out; have hnb84 := NB399_361.out; have hnc84 := NB361_399.out; have hnb85 := NB399_379.out; have hnc85 := NB379_399.out; have hnb86 := NB399_389.out; have hnc86 := NB389_399.out; obtain ⟨hcz87_0, hcz87_1, hcz87_2, hcz87_3, hcz87_4, hfz87_0, hfz87_1, hfz87_2, hfz87_3, hfz87_4⟩ := cz5 BK399; obtain ⟨hcz88_0, hcz88_1, hcz88_2, hfz88_0, hfz88_1, hfz88_2⟩ := cz3 BK360) | ((with_reducible refine gate_callee (f := 66) rfl ?_); refine goesL_ (some 127) rfl rfl Try.func66 (by kernel_rfl) rfl #[.agg #[.int .i64 a0_0, .int .i64 a0_1, .slice A0_2 l0_2.length c0_2], .slice (some ad370) l2.length c2] rfl gla ?_; (with_reducible refine (formeref38_Course.calls kj24 a0_0 a0_1 _ _ l0_2 _ _ l2 t400 t401 t402 t403 t404 t405 t408 _ ?side1 ?side2 ?side3 ?side4 A48.out).mono ?_); (case side1 => exact Kd.C_below HR0_2.out bel); (case side2 => exact HC0_2.out); (case side3 => exact Kd.C_below HR2.out bel); (case side4 => exact HC2.out); rintro e w89 ⟨v406, rfl, ho0, hb⟩; refine ⟨_, rfl, ?_⟩; have HO407 := Aside0.mk (Kd.R_lower (Kd.R_new' ho0 (Kd.R_lt (kr5 HO397 BK399))) (below_size bel)); replace HO397 := Aside0.mk (Kd.R_elder' (kr5 HO397 BK399) (Kd.R_base ho0) hb); replace BK360 := Aside0.mk (blk_below (g := gb360) (o := .cells #[.int .i64 a0_0, .int .i64 a0_1, .slice A0_2 l0_2.length c0_2] 69 (0, 0)) (bkf BK360) hb); replace BK361 := Aside0.mk (blk_below (g := gb361) (o := .cells #[.int .i64 a1_0, .int .i64 a1_1, .int .i64 a1_2, .int .i64 a1_3, .bool a1_4] 71 (0, 0)) (bkf BK361) hb); replace BK379 := Aside0.mk (blk_below (g := gb379) (o := .cells #[.int .i64 t371, .int .i64 t372, .int .i64 t373, .int .i64 t374, .bool t375] 71 (0, 0)) (bkf BK379) hb); replace BK389 := Aside0.mk (blk_below (g := gb389) (o := .cells #[.int .i64 t381, .int .i64 t382, .int .i64 t383, .int .i64 t384, .bool t385] 71 (0, 0)) (bkf BK389) hb); replace BK399 := Aside0.mk (blk_below (g := gb399) (o := .cells #[.int .i64 t390, .int .i64 t391, .int .i64 t392, .int .i64 t393, .bool t394] 71 (0, 0)) (by (with_reducible repeat (first | refine blk_drewN ?_ _ | refine blk_drew ?_ | refine blk_alloc ?_ _)); refine blk_put (cs := #[.int .i64 t390, .int .i64 t391, .int .i64 t392, .int .i64 t393, .bool false]) ?_ 4 _ rfl; (with_reducible repeat (first | refine blk_drewN ?_ _ | refine blk_drew ?_ | refine blk_alloc ?_ _)); refine blk_put (cs := #[.int .i64 t390, .int .i64 t391, .int .i64 t392, .int .i64 0, .bool false]) ?_ 3 _ rfl; (with_reducible repeat (first | refine blk_drewN ?_ _ | refine blk_drew ?_ | refine blk_alloc ?_ _)); refine blk_put (cs := #[.int .i64 t390, .int .i64 t391, .int .i64 0, .int .i64 0, .bool false]) ?_ 2 _ rfl; (with_reducible repeat (first | refine blk_drewN ?_ _ | refine blk_drew ?_ | refine blk_alloc ?_ _)); refine blk_put (cs := #[.int .i64 t390, .int .i64 0, .int .i64 0, .int .i64 0, .bool false]) ?_ 1 _ rfl; (with_reducible repeat (first | refine blk_drewN ?_ _ | refine blk_drew ?_ | refine blk_alloc ?_ _)); refine blk_put (cs := #[.int .i64 0, .int .i64 0, .int .i64 0, .int .i64 0, .bool false]) ?_ 0 _ rfl; (with_reducible repeat (first | refine blk_drewN ?_ _ | refine blk_drew ?_ | refine blk_alloc ?_ _)); exact BK399.out) hb); replace HB := hba hb; (try clear hb); (try clear ho0)) | ((with_reducible refine gate_dst (N := 24) rfl ?_); (try (refine gate_guard (by rfl) ?_; dsimp only)); refine box_event ?hg (N := 24) ?hd (cs := #[.int .i64 0, .int .i64 0, .int .i64 0, .int .i64 0, .bool false]) (t := 71) ?hr ?_; (case hd => rfl); (case hg => rfl); (case hr => first | (go_simp; done) | (go_simp; rfl)); intro gb409 hg w90 hbox hb; have BK409 := Aside0.mk (hbox); have GW409 := gwa w hg; have GE409 := gwa w hg; have NB360_409 := nal BK360 hg; have NB409_360 := nag BK360 hg; have NB361_409 := nal BK361 hg; have NB409_361 := nag BK361 hg; have NB379_409 := nal BK379 hg; have NB409_379 := nag BK379 hg; have NB389_409 := nal BK389 hg; have NB409_389 := nag BK389 hg; have NB399_409 := nal BK399 hg; have NB409_399 := nag BK399 hg; replace HO397 := hoa HO397 hb; replace HO407 := hoa HO407 hb; replace BK360 := bka BK360 hb; replace BK361 := bka BK361 hb; replace BK379 := bka BK379 hb; replace BK389 := bka BK389 hb; replace BK399 := bka BK399 hb; replace HB := hba hb; clear hb hbox hg; have hnb91 := NB409_360.out; have hnc91 := NB360_409.out; have hnb92 := NB409_361.out; have hnc92 := NB361_409.out; have hnb93 := NB409_379.out; have hnc93 := NB379_409.out; have hnb94 := NB409_389.out; have hnc94 := NB389_409.out; have hnb95 := NB409_399.out; have hnc95 := NB399_409.out; obtain ⟨hcz96_0, hcz96_1, hcz96_2, hcz96_3, hcz96_4, hfz96_0, hfz96_1, hfz96_2, hfz96_3, hfz96_4⟩ := cz5 BK409; obtain ⟨hcz97_0, hcz97_1, hcz97_2, hcz97_3, hcz97_4, hfz97_0, hfz97_1, hfz97_2, hfz97_3, hfz97_4⟩ := cz5 BK399; obtain ⟨Ao98, co98, eo98⟩ := Kd.R_slice HO397.out; subst eo98; obtain ⟨Ao99, co99, eo99⟩ := Kd.R_slice HO407.out; subst eo99) | (go_at_call 45; (with_reducible refine (formeref02_SameInts.calls kj24 _ _ t395 _ _ t405 true _ ?side1 ?side2 ?side3 ?side4 A51.out).mono ?_); (case side1 => refine (Kd.R_reads' (e := 3) (base := w.heap.size) (ok := fun k_ => (True ∧ some k_ ≠ (.slice Ao99 t405.length co99 : Value).ownBlock)) (n := t395.length) (c := co98) ?_).2.2; exact (kr5 HO397 BK409)); (case side2 => exact (Kd.R_reads' HO397.out).2.1); (case side3 => refine (Kd.R_reads' (e := 3) (base := w.heap.size) (ok := fun k_ => (True ∧ some k_ ≠ (.slice Ao98 t395.length co98 : Value).ownBlock)) (n := t405.length) (c := co99) ?_).2.2; exact (kr5 HO407 BK409)); (case side4 => exact (Kd.R_reads' HO407.out).2.1); rintro e w' ⟨rfl, ⟨nd, rfl⟩⟩))
               go_ret
               exact ⟨by first | rfl | (simp [errW_none, errW_some] <;> rfl) | (simp [*, errW_none, errW_some] <;> rfl), bel⟩
              ·replace c52 := Bool.eq_false_iff.mpr c52
               subst c52
               rw [if_neg (show ¬ (false = true) by decide)] at H
               exact absurd ((Option.some.inj H).trans HTr.out) (by decide)
             ·rw [if_neg c50] at H
              have c50b0 : (t390 == t400 && (t391 == t401 && (t392 == t402 && (t393 == t403 && (t394 == t404))))) = false := by simpa using c50
              (try (have c50b1 : decide (t390 = t400 && (t391 == t401 && (t392 == t402 && (t393 == t403 && (t394 == t404))))) = false := by simpa using c50))
              (try (have c50b2 : (t390 == t400 && (t391 == t401 && (t392 == t402 && (t393 == t403 && (t394 == t404))))) = false := by simpa using c50))
              (try (have c50b3 : ¬ (t390 = t400 && (t391 == t401 && (t392 == t402 && (t393 == t403 && (t394 == t404))))) := by simpa using c50))
              clear c50
              exact absurd ((Option.some.inj H).trans HTr.out) (by decide)
            ·rw [if_neg c49] at H
             have c49b0 : (t378 == t388) = false := beq_eq_false_iff_ne.mpr c49
             have c49b1 : (t378 != t388) = true := bne_iff_ne.mpr c49
             exact absurd ((Option.some.inj H).trans HTr.out) (by decide)
           ·rw [if_neg c46] at H
            have c46b0 : (t377 == t387) = false := by simpa using c46
            (try (have c46b1 : decide (t377 = t387) = false := by simpa using c46))
            (try (have c46b2 : (t377 == t387) = false := by simpa using c46))
            (try (have c46b3 : ¬ (t377 = t387) := by simpa using c46))
            clear c46
            exact absurd H (by rw [HTr.out]; simp [Option.bind_eq_some_iff])
          ·rw [if_neg c45] at H
           have c45b0 : (t376 == t386) = false := beq_eq_false_iff_ne.mpr c45
           have c45b1 : (t376 != t386) = true := bne_iff_ne.mpr c45
           exact absurd H (by rw [HTr.out]; simp [Option.bind_eq_some_iff])
         ·rw [if_neg c44] at H
          have c44b0 : (t371 == t381 && (t372 == t382 && (t373 == t383 && (t374 == t384 && (t375 == t385))))) = false := by simpa using c44
          (try (have c44b1 : decide (t371 = t381 && (t372 == t382 && (t373 == t383 && (t374 == t384 && (t375 == t385))))) = false := by simpa using c44))
          (try (have c44b2 : (t371 == t381 && (t372 == t382 && (t373 == t383 && (t374 == t384 && (t375 == t385))))) = false := by simpa using c44))
          (try (have c44b3 : ¬ (t371 = t381 && (t372 == t382 && (t373 == t383 && (t374 == t384 && (t375 == t385))))) := by simpa using c44))
          clear c44
          exact absurd H (by rw [HTr.out]; simp [Option.bind_eq_some_iff])
        ·replace c43 := Bool.eq_false_iff.mpr c43
         subst c43
         rw [if_neg (show ¬ (false = true) by decide)] at H
         exact absurd H (by rw [HTr.out]; simp [Option.bind_eq_some_iff])
       ·rw [if_neg c40] at H
        exact absurd H (by simp)
      ·rw [if_neg c39] at H
       have c39b0 : decide (0 < (l2.length : Int)) = false := decide_eq_false c39
       have c39b1 : decide (0 < l2.length) = false := decide_eq_false (by omega)
       clear c39
       replace H := Option.bind_eq_some_iff.mp H
       obtain ⟨⟨t491, t492, t493, t494, t495, t496, t499⟩, A1000, H⟩ := H
       try dsimp only at H
       have A100 := Aside0.mk A1000
       clear A1000
       replace H := Option.bind_eq_some_iff.mp H
       obtain ⟨⟨t501, t502, t503, t504, t505, t506, t509⟩, A1010, H⟩ := H
       try dsimp only at H
       have A101 := Aside0.mk A1010
       clear A1010
       by_cases c102 : x9_24 = true
       ·subst c102
        rw [if_pos rfl] at H
        by_cases c103 : (t491 == t501 && (t492 == t502 && (t493 == t503 && (t494 == t504 && (t495 == t505))))) = true
        ·rw [if_pos c103] at H
         have c103b0 : (t491 == t501 && (t492 == t502 && (t493 == t503 && (t494 == t504 && (t495 == t505))))) = true := c103
         (try (have c103b1 : decide (t491 = t501 && (t492 == t502 && (t493 == t503 && (t494 == t504 && (t495 == t505))))) = true := by simpa using c103))
         (try (have c103b2 : (t491 == t501 && (t492 == t502 && (t493 == t503 && (t494 == t504 && (t495 == t505))))) = true := by simpa using c103))
         clear c103
         replace H := Option.bind_eq_some_iff.mp H
         obtain ⟨t511, A1040, H⟩ := H
         try dsimp only at H
         have A104 := Aside0.mk A1040
         clear A1040
         by_cases c105 : t511 = true
         ·subst c105
          rw [if_pos rfl] at H
          obtain rfl := Option.some.inj H
          have hnb106 := NB360_361.out
          have hnc106 := NB361_360.out
          obtain ⟨hcz107_0, hcz107_1, hcz107_2, hfz107_0, hfz107_1, hfz107_2⟩ := cz3 BK360
          go_wp2_with (first | ((with_reducible refine gate_callee (f := 65) rfl ?_); refine goesL_ (some 120) rfl rfl Try.func65 (by kernel_rfl) rfl #[.agg #[.int .i64 a0_0, .int .i64 a0_1, .slice A0_2 l0_2.length c0_2], .slice A2 l2.length c2] rfl gla ?_; (with_reducible refine (contract_Course.calls a0_0 a0_1 _ _ l0_2 _ _ l2 t491 t492 t493 t494 t495 t496 t499 _ ?side1 ?side2 ?side3 ?side4 A100.out).mono ?_); (case side1 => repeat (first | exact (Kd.C_below HR0_2.out HB.out) | (with_reducible refine Kd.C_alloc ?_ _) | (with_reducible refine Kd.C_drewN ?_ _) | (with_reducible refine Kd.C_drew ?_))); (case side2 => exact HC0_2.out); (case side3 => repeat (first | exact (Kd.C_below HR2.out HB.out) | (with_reducible refine Kd.C_alloc ?_ _) | (with_reducible refine Kd.C_drewN ?_ _) | (with_reducible refine Kd.C_drew ?_))); (case side4 => exact HC2.out); rintro e w108 ⟨v497, rfl, ho0, hb⟩; refine ⟨_, rfl, ?_⟩; have HO498 := Aside0.mk (Kd.R_lower ho0 (below_size bel)); replace BK360 := bka BK360 hb; replace BK361 := bka BK361 hb; replace HB := hba hb; (try clear hb); (try clear ho0)) | ((with_reducible refine gate_dst (N := 22) rfl ?_); (try (refine gate_guard (by rfl) ?_; dsimp only)); refine box_event ?hg (N := 22) ?hd (cs := #[.int .i64 0, .int .i64 0, .int .i64 0, .int .i64 0, .bool false]) (t := 71) ?hr ?_; (case hd => rfl); (case hg => rfl); (case hr => first | (go_simp; done) | (go_simp; rfl)); intro gb500 hg w109 hbox hb; have BK500 := Aside0.mk (hbox); have GW500 := gwa w hg; have GE500 := gwa w hg; have NB360_500 := nal BK360 hg; have NB500_360 := nag BK360 hg; have NB361_500 := nal BK361 hg; have NB500_361 := nag BK361 hg; replace HO498 := hoa HO498 hb; replace BK360 := bka BK360 hb; replace BK361 := bka BK361 hb; replace HB := hba hb; clear hb hbox hg; have hnb110 := NB500_360.out; have hnc110 := NB360_500.out; have hnb111 := NB500_361.out; have hnc111 := NB361_500.out; obtain ⟨hcz112_0, hcz112_1, hcz112_2, hcz112_3, hcz112_4, hfz112_0, hfz112_1, hfz112_2, hfz112_3, hfz112_4⟩ := cz5 BK500; obtain ⟨hcz113_0, hcz113_1, hcz113_2, hfz113_0, hfz113_1, hfz113_2⟩ := cz3 BK360) | ((with_reducible refine gate_callee (f := 66) rfl ?_); refine goesL_ (some 127) rfl rfl Try.func66 (by kernel_rfl) rfl #[.agg #[.int .i64 a0_0, .int .i64 a0_1, .slice A0_2 l0_2.length c0_2], .slice A2 l2.length c2] rfl gla ?_; (with_reducible refine (formeref38_Course.calls kj24 a0_0 a0_1 _ _ l0_2 _ _ l2 t501 t502 t503 t504 t505 t506 t509 _ ?side1 ?side2 ?side3 ?side4 A101.out).mono ?_); (case side1 => exact Kd.C_below HR0_2.out bel); (case side2 => exact HC0_2.out); (case side3 => exact Kd.C_below HR2.out bel); (case side4 => exact HC2.out); rintro e w114 ⟨v507, rfl, ho0, hb⟩; refine ⟨_, rfl, ?_⟩; have HO508 := Aside0.mk (Kd.R_lower (Kd.R_new' ho0 (Kd.R_lt (kr5 HO498 BK500))) (below_size bel)); replace HO498 := Aside0.mk (Kd.R_elder' (kr5 HO498 BK500) (Kd.R_base ho0) hb); replace BK360 := Aside0.mk (blk_below (g := gb360) (o := .cells #[.int .i64 a0_0, .int .i64 a0_1, .slice A0_2 l0_2.length c0_2] 69 (0, 0)) (bkf BK360) hb); replace BK361 := Aside0.mk (blk_below (g := gb361) (o := .cells #[.int .i64 a1_0, .int .i64 a1_1, .int .i64 a1_2, .int .i64 a1_3, .bool a1_4] 71 (0, 0)) (bkf BK361) hb); replace BK500 := Aside0.mk (blk_below (g := gb500) (o := .cells #[.int .i64 t491, .int .i64 t492, .int .i64 t493, .int .i64 t494, .bool t495] 71 (0, 0)) (by (with_reducible repeat (first | refine blk_drewN ?_ _ | refine blk_drew ?_ | refine blk_alloc ?_ _)); refine blk_put (cs := #[.int .i64 t491, .int .i64 t492, .int .i64 t493, .int .i64 t494, .bool false]) ?_ 4 _ rfl; (with_reducible repeat (first | refine blk_drewN ?_ _ | refine blk_drew ?_ | refine blk_alloc ?_ _)); refine blk_put (cs := #[.int .i64 t491, .int .i64 t492, .int .i64 t493, .int .i64 0, .bool false]) ?_ 3 _ rfl; (with_reducible repeat (first | refine blk_drewN ?_ _ | refine blk_drew ?_ | refine blk_alloc ?_ _)); refine blk_put (cs := #[.int .i64 t491, .int .i64 t492, .int .i64 0, .int .i64 0, .bool false]) ?_ 2 _ rfl; (with_reducible repeat (first | refine blk_drewN ?_ _ | refine blk_drew ?_ | refine blk_alloc ?_ _)); refine blk_put (cs := #[.int .i64 t491, .int .i64 0, .int .i64 0, .int .i64 0, .bool false]) ?_ 1 _ rfl; (with_reducible repeat (first | refine blk_drewN ?_ _ | refine blk_drew ?_ | refine blk_alloc ?_ _)); refine blk_put (cs := #[.int .i64 0, .int .i64 0, .int .i64 0, .int .i64 0, .bool false]) ?_ 0 _ rfl; (with_reducible repeat (first | refine blk_drewN ?_ _ | refine blk_drew ?_ | refine blk_alloc ?_ _)); exact BK500.out) hb); replace HB := hba hb; (try clear hb); (try clear ho0)) | ((with_reducible refine gate_dst (N := 24) rfl ?_); (try (refine gate_guard (by rfl) ?_; dsimp only)); refine box_event ?hg (N := 24) ?hd (cs := #[.int .i64 0, .int .i64 0, .int .i64 0, .int .i64 0, .bool false]) (t := 71) ?hr ?_; (case hd => rfl); (case hg => rfl); (case hr => first | (go_simp; done) | (go_simp; rfl)); intro gb510 hg w115 hbox hb; have BK510 := Aside0.mk (hbox); have GW510 := gwa w hg; have GE510 := gwa w hg; have NB360_510 := nal BK360 hg; have NB510_360 := nag BK360 hg; have NB361_510 := nal BK361 hg; have NB510_361 := nag BK361 hg; have NB500_510 := nal BK500 hg; have NB510_500 := nag BK500 hg; replace HO498 := hoa HO498 hb; replace HO508 := hoa HO508 hb; replace BK360 := bka BK360 hb; replace BK361 := bka BK361 hb; replace BK500 := bka BK500 hb; replace HB := hba hb; clear hb hbox hg; have hnb116 := NB510_360.out; have hnc116 := NB360_510.out; have hnb117 := NB510_361.out; have hnc117 := NB361_510.out; have hnb118 := NB510_500.out; have hnc118 := NB500_510.out; obtain ⟨hcz119_0, hcz119_1, hcz119_2, hcz119_3, hcz119_4, hfz119_0, hfz119_1, hfz119_2, hfz119_3, hfz119_4⟩ := cz5 BK510; obtain ⟨hcz120_0, hcz120_1, hcz120_2, hcz120_3, hcz120_4, hfz120_0, hfz120_1, hfz120_2, hfz120_3, hfz120_4⟩ := cz5 BK500; obtain ⟨Ao121, co121, eo121⟩ := Kd.R_slice HO498.out; subst eo121; obtain ⟨Ao122, co122, eo122⟩ := Kd.R_slice HO508.out; subst eo122) | (go_at_call 45; (with_reducible refine (formeref02_SameInts.calls kj24 _ _ t496 _ _ t506 true _ ?side1 ?side2 ?side3 ?side4 A104.out).mono ?_); (case side1 => refine (Kd.R_reads' (e := 3) (base := w.heap.size) (ok := fun k_ => (True ∧ some k_ ≠ (.slice Ao122 t506.length co122 : Value).ownBlock)) (n := t496.length) (c := co121) ?_).2.2; exact (kr5 HO498 BK510)); (case side2 => exact (Kd.R_reads' HO498.out).2.1); (case side3 => refine (Kd.R_reads' (e := 3) (base := w.heap.size) (ok := fun k_ => (True ∧ some k_ ≠ (.slice Ao121 t496.length co121 : Value).ownBlock)) (n := t506.length) (c := co122) ?_).2.2; exact (kr5 HO508 BK510)); (case side4 => exact (Kd.R_reads' HO508.out).2.1); rintro e w' ⟨rfl, ⟨nd, rfl⟩⟩))
          go_ret
          exact ⟨by first | rfl | (simp [errW_none, errW_some] <;> rfl) | (simp [*, errW_none, errW_some] <;> rfl), bel⟩
         ·replace c105 := Bool.eq_false_iff.mpr c105
          subst c105
          rw [if_neg (show ¬ (false = true) by decide)] at H
          exact absurd ((Option.some.inj H).trans HTr.out) (by decide)
        ·rw [if_neg c103] at H
         have c103b0 : (t491 == t501 && (t492 == t502 && (t493 == t503 && (t494 == t504 && (t495 == t505))))) = false := by simpa using c103
         (try (have c103b1 : decide (t491 = t501 && (t492 == t502 && (t493 == t503 && (t494 == t504 && (t495 == t505))))) = false := by simpa using c103))
         (try (have c103b2 : (t491 == t501 && (t492 == t502 && (t493 == t503 && (t494 == t504 && (t495 == t505))))) = false := by simpa using c103))
         (try (have c103b3 : ¬ (t491 = t501 && (t492 == t502 && (t493 == t503 && (t494 == t504 && (t495 == t505))))) := by simpa using c103))
         clear c103
         exact absurd ((Option.some.inj H).trans HTr.out) (by decide)
       ·replace c102 := Bool.eq_false_iff.mpr c102
        subst c102
        rw [if_neg (show ¬ (false = true) by decide)] at H
        exact absurd ((Option.some.inj H).trans HTr.out) (by decide)
end Go.Proofs.Ytjpghfjaloglhaa.PContract

