import Derived.Test.YtjpghfjaloglhaaZTHZip
import Derived.Test.YtjpghfjaloglhaaZTHPContractx0
import Derived.Test.YtjpghfjaloglhaaZTHPContractx8
import Derived.Test.YtjpghfjaloglhaaZTHPContractx9
import Derived.Test.YtjpghfjaloglhaaZTHEContractHead38
import Derived.Test.YtjpghfjaloglhaaZTHEContractJudge
namespace Go.Proofs.Ytjpghfjaloglhaa.PContract
open Go.RowKit Go.Proofs.YtjpghfjaloglhaaW.PrintWords Go.Proofs.YtjpghfjaloglhaaW.PrintLast Go.Proofs.YtjpghfjaloglhaaW.PrintMore Go.Proofs.Ytjpghfjaloglhaa.Zip
attribute [local go_sem] max2_int min2_int max_two min_two max_three min_three max_four min_four   -- for this text's walks alone
set_option linter.unusedVariables false
set_option linter.unusedSimpArgs false
def formelaw38_honest.l0 : Nat → List Int → Int → List (S78) → Int → Int → Int → List (S61) → Option ((List (S78)) × Bool)
 | 0, _, _, _, _, _, _, _ => none
 | k + 1, x1, x2, x8, x9, x529000, x529001, x529002 => if x9 < (x1.length : Int) then (if 0 ≤ x9 then ((contract_Promised.f x529000 x529001 x529002 (wrap64 (rd x1 x9))).bind fun bt531 => (if bt531.2 = 0 then (if 0 ≤ (Int.tmod x9 32) then (if (Go.bits .and .u32 (shr .u32 x2 (Int.tmod x9 32)) 1) = 0 then (if x8.length < 4398046511104 then (formelaw38_honest.l0 k x1 x2 (x8 ++ [(⟨x529000, wrap64 (rd x1 x9), 1, bt531.1⟩ : S78)]) (wrap64 (x9 + 1)) x529000 x529001 x529002) else (none)) else (if x8.length < 4398046511104 then (formelaw38_honest.l0 k x1 x2 (x8 ++ [(⟨x529000, wrap64 (rd x1 x9), 3, 0⟩ : S78)]) (wrap64 (x9 + 1)) x529000 x529001 x529002) else (none))) else (none)) else (some (([] : List (S78)), false)))) else (none)) else (some (x8, true))
def formelaw38_honest.f (k : Nat) (a0_0 : Int) (a0_1 : Int) (l0_2 : List (S61)) (l1 : List Int) (a2 : Int) : Option ((List (S78)) × Bool) := formelaw38_honest.l0 k l1 a2 ([] : List (S78)) 0 a0_0 a0_1 l0_2
theorem formelaw38_honest.mono_l : ∀ k, (∀ y0 y1 y2 y3 y4 y5 y6, LeO (formelaw38_honest.l0 k y0 y1 y2 y3 y4 y5 y6) (formelaw38_honest.l0 (k + 1) y0 y1 y2 y3 y4 y5 y6))
 | 0 => fun _ _ _ _ _ _ _ r h => by simp [formelaw38_honest.l0] at h
 | k + 1 => by
  have ih0 := formelaw38_honest.mono_l k
  ·intro y0 y1 y2 y3 y4 y5 y6
   unfold formelaw38_honest.l0
   repeat' first
   | (with_reducible exact ih0 _ _ _ _ _ _ _)
   | (with_reducible exact LeO.refl _)
   | (with_reducible exact LeO.none _)
   | (with_reducible refine LeO.ite ?_ ?_)
   | (with_reducible refine LeO.bind ?_ (fun _ => ?_))
   | exact ih0 _ _ _ _ _ _ _
   | exact LeO.none _
   | refine LeO.ite ?_ ?_
   | refine LeO.bind ?_ (fun _ => ?_)
theorem formelaw38_honest.mono : ∀ a0 a1 a2 a3 a4 k, LeO (formelaw38_honest.f k a0 a1 a2 a3 a4) (formelaw38_honest.f (k + 1) a0 a1 a2 a3 a4) := by
 intro a0 a1 a2 a3 a4 k
 have ih0 := formelaw38_honest.mono_l k
 unfold formelaw38_honest.f
 repeat' first
   | (with_reducible exact ih0 _ _ _ _ _ _ _)
   | (with_reducible exact LeO.refl _)
   | (with_reducible exact LeO.none _)
   | (with_reducible refine LeO.ite ?_ ?_)
   | (with_reducible refine LeO.bind ?_ (fun _ => ?_))
   | exact ih0 _ _ _ _ _ _ _
   | exact LeO.none _
   | refine LeO.ite ?_ ?_
   | refine LeO.bind ?_ (fun _ => ?_)
def formelaw38_honest.T5 : Bool × List (List Nat × List Nat) := (true, [([], []), ([0], [0]), ([], []), ([], []), ([2, 3], [2, 3]), ([4], [4]), ([5], [5]), ([1, 6], [1, 6]), ([], []), ([8, 7, 0, 1, 2, 3, 4, 5, 6, 7, 8], [7, 8])])
def formelaw38_honest.B5 : List Nat := [0, 1, 0, 0, 12, 28, 60, 127, 0, 511]
theorem formelaw38_honest.tab5 : rtab .any (opsOf Try.f67 5) = formelaw38_honest.T5 := by kernel_rfl
theorem formelaw38_honest.bits5 : waitsOk formelaw38_honest.T5.2 formelaw38_honest.B5 = true := by kernel_rfl
set_option maxHeartbeats 8000000 in
set_option maxRecDepth 100000 in
theorem formelaw38_honest.calls (k : Nat) (a0_0 : Int) (a0_1 : Int) (A0_2 : Option Addr) (c0_2 : Nat) (l0_2 : List (S61)) (A1 : Option Addr) (c1 : Nat) (l1 : List Int) (a2 : Int) (r1 : List (S78)) (r2 : Bool) (w : World) (hr0_2 : Kd.C k61 w A0_2 l0_2.length l0_2) (hc0_2 : l0_2.length ≤ c0_2) (hr1 : Kd.C (Kd.int .u16) w A1 l1.length l1) (hc1 : l1.length ≤ c1) (h : formelaw38_honest.f k a0_0 a0_1 l0_2 l1 a2 = some (r1, r2)) :
  Calls Try.prog 67 #[.agg #[.int .i64 a0_0, .int .i64 a0_1, .slice A0_2 l0_2.length c0_2], .slice A1 l1.length c1, .int .u32 a2] w fun e w' => ∃ v0_ : Value, e = .returned (.tuple #[v0_, .bool r2]) ∧ Kd.R k78 78 w' w.heap.size (fun _ => True) v0_ r1 ∧ Below w.heap.size w w' := by
 have hu69 := Try.underlying69
 have hu78 := Try.underlying78
 have HR0_2 := Aside0.mk hr0_2
 have HC0_2 := Aside0.mk hc0_2
 clear hr0_2 hc0_2
 have HR1 := Aside0.mk hr1
 have HC1 := Aside0.mk hc1
 clear hr1 hc1
 have HB := Aside0.mk (Below.refl w.heap.size w)
 have H := h
 unfold formelaw38_honest.f at H
 clear h
 have H' := Aside0.mk H
 clear H
 go_enter Try.func67, Try.ntmps67
 go_wp2_with (first | ((with_reducible refine gate_dst (N := 3) rfl ?_); refine box_event ?hg (N := 3) ?hd (cs := #[.int .i64 a0_0, .int .i64 a0_1, .slice A0_2 l0_2.length c0_2]) (t := 69) ?hr ?_; (case hd => rfl); (case hg => rfl); (case hr => first | (go_simp; done) | (go_simp; rfl)); intro gb528 hg w4 hbox hb; have BK528 := Aside0.mk (hbox); have GW528 := gwa w hg; have GE528 := gwa w hg; replace HB := hba hb; clear hb hbox hg))
 go_loopg [8, 9] k (fun kq v8 v9 w' => ∃ (x8_1 : List (S78)) (x9_1 : Int), v9 = .int .i64 x9_1 ∧ Aside0 (formelaw38_honest.l0 kq l1 a2 x8_1 x9_1 a0_0 a0_1 l0_2 = some (r1, r2)) ∧ Aside0 (kq ≤ k) ∧ Aside0 (Kd.R k78 78 w' w.heap.size (fun _ => True) v8 x8_1) ∧ Aside0 (w'.heap[gb528]? = some (.cells #[.int .i64 a0_0, .int .i64 a0_1, (.slice A0_2 l0_2.length c0_2)] 69 (0, 0))) ∧ Aside0 (Below w.heap.size w w'))
 case atStart => exact ⟨(([] : List (S78))), (0), (by first | rfl | (simp; done) | (simp [*]; done)), H', ⟨Nat.le_refl _⟩, ⟨by first | exact Kd.R_nil _ _ _ _ _ | exact Kd.N_nil _ _ _ _ _ | exact Kd.V_nil _ _ _ _ _ | exact Kd.Q_nil _ _ _ _ _ | exact Kd.S_nil _ _ _ _ _⟩, ⟨by (with_reducible repeat (first | refine blk_drewN ?_ _ | refine blk_drew ?_ | refine blk_alloc ?_ _)); exact BK528.out⟩, ⟨bel⟩⟩
 case round =>
  clear H'
  try clear c1
  try clear p2
  obtain ⟨x8_1, x9_1, rfl, HA, HK1, HO_8, BK528, HB⟩ := hrel
  cases gk with
  | zero => exact absurd HA.out (by simp [formelaw38_honest.l0])
  | succ k1 =>
   have H := HA.out
   clear HA
   simp only [formelaw38_honest.l0] at H
   by_cases c5 : x9_1 < (l1.length : Int)
   ·rw [if_pos c5] at H
    have c5b0 : decide (x9_1 < (l1.length : Int)) = true := decide_eq_true c5
    clear c5
    by_cases c6 : 0 ≤ x9_1
    ·rw [if_pos c6] at H
     have c6b0 : decide (0 ≤ x9_1) = true := decide_eq_true c6
     clear c6
     replace H := Option.bind_eq_some_iff.mp H
     obtain ⟨⟨t531, t532⟩, A70, H⟩ := H
     try dsimp only at H
     have A7 := Aside0.mk A70
     clear A70
     by_cases c8 : t532 = 0
     ·rw [if_pos c8] at H
      have c8b0 : (t532 == 0) = true := beq_iff_eq.mpr c8
      have c8b1 : (t532 != 0) = false := bne_eq_false_iff_eq.mpr c8
      clear c8
      obtain ⟨ji9, hji9⟩ : ∃ j_ : Int, (Int.tmod x9_1 32) = j_ := ⟨_, rfl⟩
      replace H : (if 0 ≤ (ji9) then (if (Go.bits .and .u32 (shr .u32 a2 (ji9)) 1) = 0 then (if x8_1.length < 4398046511104 then (formelaw38_honest.l0 k1 l1 a2 (x8_1 ++ [(⟨a0_0, wrap64 (rd l1 x9_1), 1, t531⟩ : S78)]) (wrap64 (x9_1 + 1)) a0_0 a0_1 l0_2) else (none)) else (if x8_1.length < 4398046511104 then (formelaw38_honest.l0 k1 l1 a2 (x8_1 ++ [(⟨a0_0, wrap64 (rd l1 x9_1), 3, 0⟩ : S78)]) (wrap64 (x9_1 + 1)) a0_0 a0_1 l0_2) else (none))) else (none)) = some (r1, r2) := by first | (rw [hji9] at H; exact H) | (simp only [hji9] at H ⊢; exact H)
      (try rw [hji9] at A7)
      by_cases c10 : 0 ≤ (ji9)
      ·rw [if_pos c10] at H
       have c10b0 := eq_true c10
       have c10b1 : decide (0 ≤ (ji9)) = true := decide_eq_true c10
       clear c10
       obtain ⟨ji11, hji11⟩ : ∃ j_ : Int, (shr .u32 a2 (ji9)) = j_ := ⟨_, rfl⟩
       replace H : (if (Go.bits .and .u32 (ji11) 1) = 0 then (if x8_1.length < 4398046511104 then (formelaw38_honest.l0 k1 l1 a2 (x8_1 ++ [(⟨a0_0, wrap64 (rd l1 x9_1), 1, t531⟩ : S78)]) (wrap64 (x9_1 + 1)) a0_0 a0_1 l0_2) else (none)) else (if x8_1.length < 4398046511104 then (formelaw38_honest.l0 k1 l1 a2 (x8_1 ++ [(⟨a0_0, wrap64 (rd l1 x9_1), 3, 0⟩ : S78)]) (wrap64 (x9_1 + 1)) a0_0 a0_1 l0_2) else (none))) = some (r1, r2) := by first | (rw [hji11] at H; exact H) | (simp only [hji11] at H ⊢; exact H)
       (try rw [hji11] at A7)
       have hji11_ : (a2 / 2 ^ min (ji9).toNat 32) = ji11 := hji11
       have hji11z : (ji9) ≤ 32 → (a2 / 2 ^ (ji9).toNat) = ji11 := shr_small hji11
       by_cases c12 : (Go.bits .and .u32 (ji11) 1) = 0
       ·rw [if_pos c12] at H
        have c12b0 : ((Go.bits .and .u32 (ji11) 1) == 0) = true := beq_iff_eq.mpr c12
        have c12b1 : ((Go.bits .and .u32 (ji11) 1) != 0) = false := bne_eq_false_iff_eq.mpr c12
        clear c12
        by_cases c13 : x8_1.length < 4398046511104
        ·rw [if_pos c13] at H
         have LMc13 := Aside0.mk c13
         clear c13
         obtain ⟨y533, hy533⟩ : ∃ y_ : List (S78), y_ = (x8_1 ++ [(⟨a0_0, wrap64 (rd l1 x9_1), 1, t531⟩ : S78)]) := ⟨_, rfl⟩
         replace H : (formelaw38_honest.l0 k1 l1 a2 y533 (wrap64 (x9_1 + 1)) a0_0 a0_1 l0_2) = some (r1, r2) := by first | (rw [hy533]; with_reducible exact H) | (have H2_ := (Option.bind_some _ _).symm.trans H; rw [hy533]; with_reducible exact H2_) | (have H2_ := (Option.bind_some _ _).symm.trans H; with_reducible exact H2_) | with_reducible exact H | (rw [hy533]; exact H) | exact H
         have Ny533 := Aside0.mk hy533
         clear hy533
         have H' := Aside0.mk H
         clear H
         try go_wp2
         replace HO_8 := Aside0.mk (Kd.R_drew HO_8.out)
         replace BK528 := Aside0.mk (blk_drew BK528.out)
         replace HB := Aside0.mk (below_drew1 HB.out)
         have p529 : 0 ≤ (x9_1 : Int) := of_decide_eq_true (by first | (with_reducible assumption) | assumption)
         have q529 : x9_1 < (l1.length : Int) := of_decide_eq_true (by first | (with_reducible assumption) | assumption)
         obtain ⟨ad529, e529, hx529_0⟩ := Kd.at_int HR1.out x9_1 p529 q529
         have hw529_0 := hx529_0
         cases e529
         replace hx529_0 := hxl HB hx529_0
         replace p529 := eq_true p529
         replace q529 := eq_true q529
         refine start_ (n := 10) (S := fun w' => w'.cell? ⟨gb528, 0, none⟩ = some (.int .i64 a0_0) ∧ w'.cell? ⟨gb528, 1, none⟩ = some (.int .i64 a0_1) ∧ w'.cell? ⟨gb528, 2, none⟩ = some (.slice A0_2 l0_2.length c0_2) ∧ w'.cell? (ad529.add (x9_1).toNat) = some (.int .u16 (rd l1 x9_1))) (ds := []) #[false, false, false, false, false, false, false, false, false, false] (by kernel_rfl) rfl rfl ⟨(blk_cell BK528.out 0).trans rfl, (blk_cell BK528.out 1).trans rfl, (blk_cell BK528.out 2).trans rfl, ((HB.out.cell (World.block_lt_of_cell? w _ hw529_0)).trans hw529_0)⟩ (fun hHeld => ?_); refine with_tabW formelaw38_honest.tab5 formelaw38_honest.bits5 (fun HT_ HW_ => ?_)
         generalize wr.drew = w14 at HO_8 BK528 HB hx529_0 hHeld ⊢
         refine pure_ (i := 0) (N := some 19) (v := ?_) (a' := ?_) #[true, false, false, false, false, false, false, false, false, false] rfl rfl (any_of HT_.out (by kernel_rfl)) (fun _ _ _ h => h) (Or.inl ⟨by rfl, ?_⟩) ?_ ?_
         rotate_left
         ·intro w'
          go_simp
          with_reducible rfl
         rotate_left
         ·exact apt
         refine pure_ (i := 2) (N := some 21) (v := ?_) (a' := ?_) #[true, false, true, false, false, false, false, false, false, false] rfl rfl (any_of HT_.out (by kernel_rfl)) (fun _ _ _ h => h) (Or.inl ⟨by rfl, ?_⟩) ?_ ?_
         rotate_left
         ·intro w'
          go_simp
          with_reducible rfl
         rotate_left
         ·exact apt
         refine pure_ (i := 3) (N := some 22) (v := ?_) (a' := ?_) #[true, false, true, true, false, false, false, false, false, false] rfl rfl (any_of HT_.out (by kernel_rfl)) (fun _ _ _ h => h) (Or.inl ⟨by rfl, ?_⟩) ?_ ?_
         rotate_left
         ·intro w'
          go_simp
          with_reducible rfl
         rotate_left
         ·exact apt
         refine pure_ (i := 4) (N := some 23) (v := ?_) (a' := ?_) #[true, false, true, true, true, false, false, false, false, false] rfl rfl (any_of HT_.out (by kernel_rfl)) (fun _ _ _ h => h) (Or.inl ⟨by rfl, ?_⟩) ?_ ?_
         rotate_left
         ·intro w'
          go_simp
          with_reducible rfl
         rotate_left
         ·exact apt
         refine take_ (i := 1) (N := some 20) (v := ?_) (a' := ?_) #[true, true, true, true, true, false, false, false, false, false] rfl rfl (take_ofW HT_.out HW_.out (by kernel_rfl)) (fun _ _ _ h => h) (Or.inl ⟨by rfl, ?_⟩) hHeld ?_ ?_
         rotate_left
         ·rintro w' ⟨s0, s1, s2, s3⟩
          go_simp
          with_reducible rfl
         rotate_left
         ·exact apt
         refine take_ (i := 5) (N := some 24) (v := ?_) (a' := ?_) #[true, true, true, true, true, true, false, false, false, false] rfl rfl (take_ofW HT_.out HW_.out (by kernel_rfl)) (fun _ _ _ h => h) (Or.inl ⟨by rfl, ?_⟩) hHeld ?_ ?_
         rotate_left
         ·rintro w' ⟨s0, s1, s2, s3⟩
          go_simp
          with_reducible rfl
         rotate_left
         ·exact apt
         refine pure_ (i := 6) (N := some 25) (v := ?_) (a' := ?_) #[true, true, true, true, true, true, true, false, false, false] rfl rfl (any_of HT_.out (by kernel_rfl)) (fun _ _ _ h => h) (Or.inl ⟨by rfl, ?_⟩) ?_ ?_
         rotate_left
         ·intro w'
          go_simp
          with_reducible rfl
         rotate_left
         ·exact apt
         refine pure_ (i := 7) (N := some 26) (v := ?_) (a' := ?_) #[true, true, true, true, true, true, true, true, false, false] rfl rfl (any_of HT_.out (by kernel_rfl)) (fun _ _ _ h => h) (Or.inl ⟨by rfl, ?_⟩) ?_ ?_
         rotate_left
         ·intro w'
          go_simp
          with_reducible rfl
         rotate_left
         ·exact apt
         refine one_ (i := 8) (N := some 10) #[true, true, true, true, true, true, true, true, true, false] rfl rfl (one_of HT_.out (by kernel_rfl)) (by decide) (fun K hK => ?_)
         refine box_step ?hg (N := 10) ?hd (cs := #[.int .i64 0, .int .i64 0, .int .i64 0, .int .i64 0]) (t := 78) ?hr ?_; (case hd => rfl); (case hg => rfl); (case hr => first | (go_simp; done) | (go_simp; rfl))
         intro gb530 hg w15 hbox hb
         have BK530 := Aside0.mk (hbox)
         have GW530 := gwa w hg
         have GE530 := gwa w hg
         have NB528_530 := nal BK528 hg
         have NB530_528 := nag BK528 hg
         replace HO_8 := Aside0.mk (Kd.R_below (Kd.R_elderB (krl HO_8) gb530 (Nat.le_of_eq hg.symm)) hb)
         replace BK528 := bka BK528 hb
         replace HB := hba hb
         clear hb hbox hg
         refine hK.out _ _ ⟨(blk_cell BK528.out 0).trans rfl, (blk_cell BK528.out 1).trans rfl, (blk_cell BK528.out 2).trans rfl, ((HB.out.cell (World.block_lt_of_cell? w _ hw529_0)).trans hw529_0)⟩ (fun hHeld => ?_)
         clear hK K
         refine norm_ (a' := ?_) ?_ ?_
         rotate_left
         ·show Act.put _ (some 10) _ = _
          simp only [Act.put, List.setIfInBounds_toArray, List.set_cons_zero, List.set_cons_succ, i64_w, i32_w]
          rfl
         refine one_ (i := 9) (N := none) #[true, true, true, true, true, true, true, true, true, true] rfl rfl (one_of HT_.out (by kernel_rfl)) (by decide) (fun K hK => ?_)
         have hs16 : w15.cell? ⟨gb530, 0, none⟩ = some (.int .i64 0) := (blk_cell BK530.out 0).trans rfl
         have hfs16 := blk_frozen BK530.out 0
         have hns16_0 := NB528_530.out
         have hms16_0 := NB530_528.out
         have hs17 : w15.cell? ⟨gb530, 1, none⟩ = some (.int .i64 0) := (blk_cell BK530.out 1).trans rfl
         have hfs17 := blk_frozen BK530.out 1
         have hns17_0 := NB528_530.out
         have hms17_0 := NB530_528.out
         have hs18 : w15.cell? ⟨gb530, 2, none⟩ = some (.int .i64 0) := (blk_cell BK530.out 2).trans rfl
         have hfs18 := blk_frozen BK530.out 2
         have hns18_0 := NB528_530.out
         have hms18_0 := NB530_528.out
         have hs19 : w15.cell? ⟨gb530, 3, none⟩ = some (.int .i64 0) := (blk_cell BK530.out 3).trans rfl
         have hfs19 := blk_frozen BK530.out 3
         have hns19_0 := NB528_530.out
         have hms19_0 := NB530_528.out
         refine skip_ (w1 := ?_) (by rfl) rfl ?_ ?_
         rotate_left
         ·go_simp
          rfl
         refine hK.out _ _ ⟨((cell_far (p := ⟨gb530, _, none⟩) NB528_530.out _).trans (((cell_far (p := ⟨gb530, _, none⟩) NB528_530.out _).trans (((cell_far (p := ⟨gb530, _, none⟩) NB528_530.out _).trans (((cell_far (p := ⟨gb530, _, none⟩) NB528_530.out _).trans (hHeld.1)))))))), ((cell_far (p := ⟨gb530, _, none⟩) NB528_530.out _).trans (((cell_far (p := ⟨gb530, _, none⟩) NB528_530.out _).trans (((cell_far (p := ⟨gb530, _, none⟩) NB528_530.out _).trans (((cell_far (p := ⟨gb530, _, none⟩) NB528_530.out _).trans (hHeld.2.1)))))))), ((cell_far (p := ⟨gb530, _, none⟩) NB528_530.out _).trans (((cell_far (p := ⟨gb530, _, none⟩) NB528_530.out _).trans (((cell_far (p := ⟨gb530, _, none⟩) NB528_530.out _).trans (((cell_far (p := ⟨gb530, _, none⟩) NB528_530.out _).trans (hHeld.2.2.1)))))))), ((cell_far (p := ⟨gb530, _, none⟩) (fne hw529_0 GW530) _).trans (((cell_far (p := ⟨gb530, _, none⟩) (fne hw529_0 GW530) _).trans (((cell_far (p := ⟨gb530, _, none⟩) (fne hw529_0 GW530) _).trans (((cell_far (p := ⟨gb530, _, none⟩) (fne hw529_0 GW530) _).trans (hHeld.2.2.2))))))))⟩ (fun hHeld => ?_)
         clear hK K
         refine done_ (done_of HT_.out (by kernel_rfl)) ?_
         have hnb20 := NB528_530.out
         have hnc20 := NB530_528.out
         obtain ⟨hcz21_0, hcz21_1, hcz21_2, hfz21_0, hfz21_1, hfz21_2⟩ := cz3 BK528
         obtain ⟨hcz22_0, hcz22_1, hcz22_2, hcz22_3, hfz22_0, hfz22_1, hfz22_2, hfz22_3⟩ := cz4 BK530
         try go_wp2_with (first | ((with_reducible refine gate_callee (f := 59) rfl ?_); refine goesL_ (some 31) rfl rfl Try.func59 (by kernel_rfl) rfl #[.agg #[.int .i64 a0_0, .int .i64 a0_1, .slice A0_2 l0_2.length c0_2], .int .i64 (wrap64 (rd l1 x9_1))] rfl gla ?_; (with_reducible refine (contract_Promised.calls a0_0 a0_1 _ _ l0_2 (wrap64 (rd l1 x9_1)) t531 t532 _ ?side1 ?side2 A7.out).mono ?_); (case side1 => exact Kd.C_below HR0_2.out bel); (case side2 => exact HC0_2.out); rintro e w23 ⟨rfl, hb⟩; refine ⟨_, rfl, ?_⟩; replace HO_8 := Aside0.mk (Kd.R_below (by (with_reducible repeat (first | apply Kd.R_alloc | apply Kd.R_drewN | apply Kd.R_drew)); exact (Kd.R_mono (Kd.R_far (p := ⟨gb530, 3, none⟩) (Kd.R_far (p := ⟨gb530, 2, none⟩) (Kd.R_far (p := ⟨gb530, 1, none⟩) (Kd.R_far (p := ⟨gb530, 0, none⟩) (Kd.R_mono HO_8.out (fun k_ hk => (⟨hk, hk.2⟩ : _ ∧ k_ ≠ gb530))) (fun _ hk => hk.2) (.int .i64 a0_0)) (fun _ hk => hk.2) (.int .i64 (wrap64 (rd l1 x9_1)))) (fun _ hk => hk.2) (.int .i64 3)) (fun _ hk => hk.2) (.int .i64 0)) (fun _ h_ => h_.1))) hb); replace BK528 := Aside0.mk (blk_below (g := gb528) (o := .cells #[.int .i64 a0_0, .int .i64 a0_1, .slice A0_2 l0_2.length c0_2] 69 (0, 0)) (bkf BK528) hb); replace BK530 := Aside0.mk (blk_below (g := gb530) (o := .cells #[.int .i64 a0_0, .int .i64 (wrap64 (rd l1 x9_1)), .int .i64 3, .int .i64 0] 78 (0, 0)) (by (with_reducible repeat (first | refine blk_drewN ?_ _ | refine blk_drew ?_ | refine blk_alloc ?_ _)); refine blk_put (cs := #[.int .i64 a0_0, .int .i64 (wrap64 (rd l1 x9_1)), .int .i64 3, .int .i64 0]) ?_ 3 _ rfl; (with_reducible repeat (first | refine blk_drewN ?_ _ | refine blk_drew ?_ | refine blk_alloc ?_ _)); refine blk_put (cs := #[.int .i64 a0_0, .int .i64 (wrap64 (rd l1 x9_1)), .int .i64 0, .int .i64 0]) ?_ 2 _ rfl; (with_reducible repeat (first | refine blk_drewN ?_ _ | refine blk_drew ?_ | refine blk_alloc ?_ _)); refine blk_put (cs := #[.int .i64 a0_0, .int .i64 0, .int .i64 0, .int .i64 0]) ?_ 1 _ rfl; (with_reducible repeat (first | refine blk_drewN ?_ _ | refine blk_drew ?_ | refine blk_alloc ?_ _)); refine blk_put (cs := #[.int .i64 0, .int .i64 0, .int .i64 0, .int .i64 0]) ?_ 0 _ rfl; (with_reducible repeat (first | refine blk_drewN ?_ _ | refine blk_drew ?_ | refine blk_alloc ?_ _)); exact BK530.out) hb); replace HB := hba hb; (try clear hb); (try clear hb2); (try clear hk); (try clear hi); obtain ⟨hcz24_0, hcz24_1, hcz24_2, hcz24_3, hfz24_0, hfz24_1, hfz24_2, hfz24_3⟩ := cz4 BK530) | ((with_reducible refine gate_builtin (b := .append) (xs := #[.tmp 45, .tmp 47]) rfl ?_); at_builtin; refine Kd.R_append k78 (w0 := w) w.heap.size rfl (.tmp 45) (.tmp 47) 72 78 (.agg #[(.int .i64 0), (.int .i64 0), (.int .i64 0), (.int .i64 0)]) 32 rfl Try.underlying72 info78 rfl (by decide) (by omega) u8 x8_1 (⟨a0_0, wrap64 (rd l1 x9_1), 1, t531⟩ : S78) [.int .i64 a0_0, .int .i64 (wrap64 (rd l1 x9_1)), .int .i64 1, .int .i64 t531] (fun k_ => k_ ≠ gb530) (fun _ => False) rfl (by first | (go_simp; done) | (go_simp; rfl)) ?aP (fun _ hk => hk.elim) ?aF ?aO ?aB ?aS ?aL ?_; (case aP => exact k78_mkM _ _ _ (⟨a0_0, wrap64 (rd l1 x9_1), 1, t531⟩ : S78)); (case aB => exact bel); (case aF => exact (fun k_ hk => Kd.freshB (g := gb530) (o := .cells #[.int .i64 a0_0, .int .i64 (wrap64 (rd l1 x9_1)), .int .i64 1, .int .i64 t531] 78 (0, 0)) (by (with_reducible repeat (first | refine blk_drewN ?_ _ | refine blk_drew ?_ | refine blk_alloc ?_ _)); refine blk_put (cs := #[.int .i64 a0_0, .int .i64 (wrap64 (rd l1 x9_1)), .int .i64 1, .int .i64 0]) ?_ 3 _ rfl; (with_reducible repeat (first | refine blk_drewN ?_ _ | refine blk_drew ?_ | refine blk_alloc ?_ _)); refine blk_put (cs := #[.int .i64 a0_0, .int .i64 (wrap64 (rd l1 x9_1)), .int .i64 3, .int .i64 0]) ?_ 2 _ rfl; (with_reducible repeat (first | refine blk_drewN ?_ _ | refine blk_drew ?_ | refine blk_alloc ?_ _)); exact BK530.out) k_ hk)); (case aO => exact (by (with_reducible repeat (first | apply Kd.R_alloc | apply Kd.R_drewN | apply Kd.R_drew)); exact Kd.R_mono (Kd.R_far (p := ⟨gb530, 3, none⟩) (Kd.R_far (p := ⟨gb530, 2, none⟩) (Kd.R_mono HO_8.out (fun k_ hk => (⟨hk, hk.2⟩ : _ ∧ k_ ≠ gb530))) (fun _ hk => hk.2) (.int .i64 1)) (fun _ hk => hk.2) (.int .i64 t531)) (fun _ hk => hk.1.2))); (case aS => exact (below_size bel)); (case aL => have := LMc13.out; omega); intro v534 w25 ho hb hg hat; rw [← Ny533.out] at ho; have HO535 := Aside0.mk (ho); replace BK528 := Aside0.mk (blk_grown (g := gb528) (o := .cells #[.int .i64 a0_0, .int .i64 a0_1, .slice A0_2 l0_2.length c0_2] 69 (0, 0)) (bkf BK528) hg (Kd.R_ne HO_8.out BK528.out (by decide))); replace BK530 := Aside0.mk (blk_grown (g := gb530) (o := .cells #[.int .i64 a0_0, .int .i64 (wrap64 (rd l1 x9_1)), .int .i64 1, .int .i64 t531] 78 (0, 0)) (by (with_reducible repeat (first | refine blk_drewN ?_ _ | refine blk_drew ?_ | refine blk_alloc ?_ _)); refine blk_put (cs := #[.int .i64 a0_0, .int .i64 (wrap64 (rd l1 x9_1)), .int .i64 1, .int .i64 0]) ?_ 3 _ rfl; (with_reducible repeat (first | refine blk_drewN ?_ _ | refine blk_drew ?_ | refine blk_alloc ?_ _)); refine blk_put (cs := #[.int .i64 a0_0, .int .i64 (wrap64 (rd l1 x9_1)), .int .i64 3, .int .i64 0]) ?_ 2 _ rfl; (with_reducible repeat (first | refine blk_drewN ?_ _ | refine blk_drew ?_ | refine blk_alloc ?_ _)); exact BK530.out) hg (Kd.R_away HO_8.out (fun _ hk => hk.2))); replace HB := Aside0.mk (hb); clear HO_8; clear ho hb hg hat))
         go_roundg k1
         case measure => have := HK1.out; omega
         case rel => exact ⟨(y533), (wrap64 (x9_1 + 1)), (by first | rfl | (simp; done) | (simp [*]; done)), H', ⟨by have := HK1.out; omega⟩, ⟨by (with_reducible repeat (first | apply Kd.R_alloc | apply Kd.R_drewN | apply Kd.R_drew)); exact Kd.R_mono HO535.out (fun _ hk => trivial)⟩, ⟨by (with_reducible repeat (first | refine blk_drewN ?_ _ | refine blk_drew ?_ | refine blk_alloc ?_ _)); exact BK528.out⟩, ⟨bel⟩⟩
        ·rw [if_neg c13] at H
         exact absurd H (by simp)
       ·rw [if_neg c12] at H
        have c12b0 : ((Go.bits .and .u32 (ji11) 1) == 0) = false := beq_eq_false_iff_ne.mpr c12
        have c12b1 : ((Go.bits .and .u32 (ji11) 1) != 0) = true := bne_iff_ne.mpr c12
        by_cases c26 : x8_1.length < 4398046511104
        ·rw [if_pos c26] at H
         have LMc26 := Aside0.mk c26
         clear c26
         obtain ⟨y536, hy536⟩ : ∃ y_ : List (S78), y_ = (x8_1 ++ [(⟨a0_0, wrap64 (rd l1 x9_1), 3, 0⟩ : S78)]) := ⟨_, rfl⟩
         replace H : (formelaw38_honest.l0 k1 l1 a2 y536 (wrap64 (x9_1 + 1)) a0_0 a0_1 l0_2) = some (r1, r2) := by first | (rw [hy536]; with_reducible exact H) | (have H2_ := (Option.bind_some _ _).symm.trans H; rw [hy536]; with_reducible exact H2_) | (have H2_ := (Option.bind_some _ _).symm.trans H; with_reducible exact H2_) | with_reducible exact H | (rw [hy536]; exact H) | exact H
         have Ny536 := Aside0.mk hy536
         clear hy536
         have H' := Aside0.mk H
         clear H
         try go_wp2
         replace HO_8 := Aside0.mk (Kd.R_drew HO_8.out)
         replace BK528 := Aside0.mk (blk_drew BK528.out)
         replace HB := Aside0.mk (below_drew1 HB.out)
         have p529 : 0 ≤ (x9_1 : Int) := of_decide_eq_true (by first | (with_reducible assumption) | assumption)
         have q529 : x9_1 < (l1.length : Int) := of_decide_eq_true (by first | (with_reducible assumption) | assumption)
         obtain ⟨ad529, e529, hx529_0⟩ := Kd.at_int HR1.out x9_1 p529 q529
         have hw529_0 := hx529_0
         cases e529
         replace hx529_0 := hxl HB hx529_0
         replace p529 := eq_true p529
         replace q529 := eq_true q529
         refine start_ (n := 10) (S := fun w' => w'.cell? ⟨gb528, 0, none⟩ = some (.int .i64 a0_0) ∧ w'.cell? ⟨gb528, 1, none⟩ = some (.int .i64 a0_1) ∧ w'.cell? ⟨gb528, 2, none⟩ = some (.slice A0_2 l0_2.length c0_2) ∧ w'.cell? (ad529.add (x9_1).toNat) = some (.int .u16 (rd l1 x9_1))) (ds := []) #[false, false, false, false, false, false, false, false, false, false] (by kernel_rfl) rfl rfl ⟨(blk_cell BK528.out 0).trans rfl, (blk_cell BK528.out 1).trans rfl, (blk_cell BK528.out 2).trans rfl, ((HB.out.cell (World.block_lt_of_cell? w _ hw529_0)).trans hw529_0)⟩ (fun hHeld => ?_); refine with_tabW formelaw38_honest.tab5 formelaw38_honest.bits5 (fun HT_ HW_ => ?_)
         generalize wr.drew = w27 at HO_8 BK528 HB hx529_0 hHeld ⊢
         refine pure_ (i := 0) (N := some 19) (v := ?_) (a' := ?_) #[true, false, false, false, false, false, false, false, false, false] rfl rfl (any_of HT_.out (by kernel_rfl)) (fun _ _ _ h => h) (Or.inl ⟨by rfl, ?_⟩) ?_ ?_
         rotate_left
         ·intro w'
          go_simp
          with_reducible rfl
         rotate_left
         ·exact apt
         refine pure_ (i := 2) (N := some 21) (v := ?_) (a' := ?_) #[true, false, true, false, false, false, false, false, false, false] rfl rfl (any_of HT_.out (by kernel_rfl)) (fun _ _ _ h => h) (Or.inl ⟨by rfl, ?_⟩) ?_ ?_
         rotate_left
         ·intro w'
          go_simp
          with_reducible rfl
         rotate_left
         ·exact apt
         refine pure_ (i := 3) (N := some 22) (v := ?_) (a' := ?_) #[true, false, true, true, false, false, false, false, false, false] rfl rfl (any_of HT_.out (by kernel_rfl)) (fun _ _ _ h => h) (Or.inl ⟨by rfl, ?_⟩) ?_ ?_
         rotate_left
         ·intro w'
          go_simp
          with_reducible rfl
         rotate_left
         ·exact apt
         refine pure_ (i := 4) (N := some 23) (v := ?_) (a' := ?_) #[true, false, true, true, true, false, false, false, false, false] rfl rfl (any_of HT_.out (by kernel_rfl)) (fun _ _ _ h => h) (Or.inl ⟨by rfl, ?_⟩) ?_ ?_
         rotate_left
         ·intro w'
          go_simp
          with_reducible rfl
         rotate_left
         ·exact apt
         refine take_ (i := 1) (N := some 20) (v := ?_) (a' := ?_) #[true, true, true, true, true, false, false, false, false, false] rfl rfl (take_ofW HT_.out HW_.out (by kernel_rfl)) (fun _ _ _ h => h) (Or.inl ⟨by rfl, ?_⟩) hHeld ?_ ?_
         rotate_left
         ·rintro w' ⟨s0, s1, s2, s3⟩
          go_simp
          with_reducible rfl
         rotate_left
         ·exact apt
         refine take_ (i := 5) (N := some 24) (v := ?_) (a' := ?_) #[true, true, true, true, true, true, false, false, false, false] rfl rfl (take_ofW HT_.out HW_.out (by kernel_rfl)) (fun _ _ _ h => h) (Or.inl ⟨by rfl, ?_⟩) hHeld ?_ ?_
         rotate_left
         ·rintro w' ⟨s0, s1, s2, s3⟩
          go_simp
          with_reducible rfl
         rotate_left
         ·exact apt
         refine pure_ (i := 6) (N := some 25) (v := ?_) (a' := ?_) #[true, true, true, true, true, true, true, false, false, false] rfl rfl (any_of HT_.out (by kernel_rfl)) (fun _ _ _ h => h) (Or.inl ⟨by rfl, ?_⟩) ?_ ?_
         rotate_left
         ·intro w'
          go_simp
          with_reducible rfl
         rotate_left
         ·exact apt
         refine pure_ (i := 7) (N := some 26) (v := ?_) (a' := ?_) #[true, true, true, true, true, true, true, true, false, false] rfl rfl (any_of HT_.out (by kernel_rfl)) (fun _ _ _ h => h) (Or.inl ⟨by rfl, ?_⟩) ?_ ?_
         rotate_left
         ·intro w'
          go_simp
          with_reducible rfl
         rotate_left
         ·exact apt
         refine one_ (i := 8) (N := some 10) #[true, true, true, true, true, true, true, true, true, false] rfl rfl (one_of HT_.out (by kernel_rfl)) (by decide) (fun K hK => ?_)
         refine box_step ?hg (N := 10) ?hd (cs := #[.int .i64 0, .int .i64 0, .int .i64 0, .int .i64 0]) (t := 78) ?hr ?_; (case hd => rfl); (case hg => rfl); (case hr => first | (go_simp; done) | (go_simp; rfl))
         intro gb530 hg w28 hbox hb
         have BK530 := Aside0.mk (hbox)
         have GW530 := gwa w hg
         have GE530 := gwa w hg
         have NB528_530 := nal BK528 hg
         have NB530_528 := nag BK528 hg
         replace HO_8 := Aside0.mk (Kd.R_below (Kd.R_elderB (krl HO_8) gb530 (Nat.le_of_eq hg.symm)) hb)
         replace BK528 := bka BK528 hb
         replace HB := hba hb
         clear hb hbox hg
         refine hK.out _ _ ⟨(blk_cell BK528.out 0).trans rfl, (blk_cell BK528.out 1).trans rfl, (blk_cell BK528.out 2).trans rfl, ((HB.out.cell (World.block_lt_of_cell? w _ hw529_0)).trans hw529_0)⟩ (fun hHeld => ?_)
         clear hK K
         refine norm_ (a' := ?_) ?_ ?_
         rotate_left
         ·show Act.put _ (some 10) _ = _
          simp only [Act.put, List.setIfInBounds_toArray, List.set_cons_zero, List.set_cons_succ, i64_w, i32_w]
          rfl
         refine one_ (i := 9) (N := none) #[true, true, true, true, true, true, true, true, true, true] rfl rfl (one_of HT_.out (by kernel_rfl)) (by decide) (fun K hK => ?_)
         have hs29 : w28.cell? ⟨gb530, 0, none⟩ = some (.int .i64 0) := (blk_cell BK530.out 0).trans rfl
         have hfs29 := blk_frozen BK530.out 0
         have hns29_0 := NB528_530.out
         have hms29_0 := NB530_528.out
         have hs30 : w28.cell? ⟨gb530, 1, none⟩ = some (.int .i64 0) := (blk_cell BK530.out 1).trans rfl
         have hfs30 := blk_frozen BK530.out 1
         have hns30_0 := NB528_530.out
         have hms30_0 := NB530_528.out
         have hs31 : w28.cell? ⟨gb530, 2, none⟩ = some (.int .i64 0) := (blk_cell BK530.out 2).trans rfl
         have hfs31 := blk_frozen BK530.out 2
         have hns31_0 := NB528_530.out
         have hms31_0 := NB530_528.out
         have hs32 : w28.cell? ⟨gb530, 3, none⟩ = some (.int .i64 0) := (blk_cell BK530.out 3).trans rfl
         have hfs32 := blk_frozen BK530.out 3
         have hns32_0 := NB528_530.out
         have hms32_0 := NB530_528.out
         refine skip_ (w1 := ?_) (by rfl) rfl ?_ ?_
         rotate_left
         ·go_simp
          rfl
         refine hK.out _ _ ⟨((cell_far (p := ⟨gb530, _, none⟩) NB528_530.out _).trans (((cell_far (p := ⟨gb530, _, none⟩) NB528_530.out _).trans (((cell_far (p := ⟨gb530, _, none⟩) NB528_530.out _).trans (((cell_far (p := ⟨gb530, _, none⟩) NB528_530.out _).trans (hHeld.1)))))))), ((cell_far (p := ⟨gb530, _, none⟩) NB528_530.out _).trans (((cell_far (p := ⟨gb530, _, none⟩) NB528_530.out _).trans (((cell_far (p := ⟨gb530, _, none⟩) NB528_530.out _).trans (((cell_far (p := ⟨gb530, _, none⟩) NB528_530.out _).trans (hHeld.2.1)))))))), ((cell_far (p := ⟨gb530, _, none⟩) NB528_530.out _).trans (((cell_far (p := ⟨gb530, _, none⟩) NB528_530.out _).trans (((cell_far (p := ⟨gb530, _, none⟩) NB528_530.out _).trans (((cell_far (p := ⟨gb530, _, none⟩) NB528_530.out _).trans (hHeld.2.2.1)))))))), ((cell_far (p := ⟨gb530, _, none⟩) (fne hw529_0 GW530) _).trans (((cell_far (p := ⟨gb530, _, none⟩) (fne hw529_0 GW530) _).trans (((cell_far (p := ⟨gb530, _, none⟩) (fne hw529_0 GW530) _).trans (((cell_far (p := ⟨gb530, _, none⟩) (fne hw529_0 GW530) _).trans (hHeld.2.2.2))))))))⟩ (fun hHeld => ?_)
         clear hK K
         refine done_ (done_of HT_.out (by kernel_rfl)) ?_
         have hnb33 := NB528_530.out
         have hnc33 := NB530_528.out
         obtain ⟨hcz34_0, hcz34_1, hcz34_2, hfz34_0, hfz34_1, hfz34_2⟩ := cz3 BK528
         obtain ⟨hcz35_0, hcz35_1, hcz35_2, hcz35_3, hfz35_0, hfz35_1, hfz35_2, hfz35_3⟩ := cz4 BK530
         try go_wp2_with (first | ((with_reducible refine gate_callee (f := 59) rfl ?_); refine goesL_ (some 31) rfl rfl Try.func59 (by kernel_rfl) rfl #[.agg #[.int .i64 a0_0, .int .i64 a0_1, .slice A0_2 l0_2.length c0_2], .int .i64 (wrap64 (rd l1 x9_1))] rfl gla ?_; (with_reducible refine (contract_Promised.calls a0_0 a0_1 _ _ l0_2 (wrap64 (rd l1 x9_1)) t531 t532 _ ?side1 ?side2 A7.out).mono ?_); (case side1 => exact Kd.C_below HR0_2.out bel); (case side2 => exact HC0_2.out); rintro e w36 ⟨rfl, hb⟩; refine ⟨_, rfl, ?_⟩; replace HO_8 := Aside0.mk (Kd.R_below (by (with_reducible repeat (first | apply Kd.R_alloc | apply Kd.R_drewN | apply Kd.R_drew)); exact (Kd.R_mono (Kd.R_far (p := ⟨gb530, 3, none⟩) (Kd.R_far (p := ⟨gb530, 2, none⟩) (Kd.R_far (p := ⟨gb530, 1, none⟩) (Kd.R_far (p := ⟨gb530, 0, none⟩) (Kd.R_mono HO_8.out (fun k_ hk => (⟨hk, hk.2⟩ : _ ∧ k_ ≠ gb530))) (fun _ hk => hk.2) (.int .i64 a0_0)) (fun _ hk => hk.2) (.int .i64 (wrap64 (rd l1 x9_1)))) (fun _ hk => hk.2) (.int .i64 3)) (fun _ hk => hk.2) (.int .i64 0)) (fun _ h_ => h_.1))) hb); replace BK528 := Aside0.mk (blk_below (g := gb528) (o := .cells #[.int .i64 a0_0, .int .i64 a0_1, .slice A0_2 l0_2.length c0_2] 69 (0, 0)) (bkf BK528) hb); replace BK530 := Aside0.mk (blk_below (g := gb530) (o := .cells #[.int .i64 a0_0, .int .i64 (wrap64 (rd l1 x9_1)), .int .i64 3, .int .i64 0] 78 (0, 0)) (by (with_reducible repeat (first | refine blk_drewN ?_ _ | refine blk_drew ?_ | refine blk_alloc ?_ _)); refine blk_put (cs := #[.int .i64 a0_0, .int .i64 (wrap64 (rd l1 x9_1)), .int .i64 3, .int .i64 0]) ?_ 3 _ rfl; (with_reducible repeat (first | refine blk_drewN ?_ _ | refine blk_drew ?_ | refine blk_alloc ?_ _)); refine blk_put (cs := #[.int .i64 a0_0, .int .i64 (wrap64 (rd l1 x9_1)), .int .i64 0, .int .i64 0]) ?_ 2 _ rfl; (with_reducible repeat (first | refine blk_drewN ?_ _ | refine blk_drew ?_ | refine blk_alloc ?_ _)); refine blk_put (cs := #[.int .i64 a0_0, .int .i64 0, .int .i64 0, .int .i64 0]) ?_ 1 _ rfl; (with_reducible repeat (first | refine blk_drewN ?_ _ | refine blk_drew ?_ | refine blk_alloc ?_ _)); refine blk_put (cs := #[.int .i64 0, .int .i64 0, .int .i64 0, .int .i64 0]) ?_ 0 _ rfl; (with_reducible repeat (first | refine blk_drewN ?_ _ | refine blk_drew ?_ | refine blk_alloc ?_ _)); exact BK530.out) hb); replace HB := hba hb; (try clear hb); (try clear hb2); (try clear hk); (try clear hi); obtain ⟨hcz37_0, hcz37_1, hcz37_2, hcz37_3, hfz37_0, hfz37_1, hfz37_2, hfz37_3⟩ := cz4 BK530) | ((with_reducible refine gate_builtin (b := .append) (xs := #[.tmp 45, .tmp 47]) rfl ?_); at_builtin; refine Kd.R_append k78 (w0 := w) w.heap.size rfl (.tmp 45) (.tmp 47) 72 78 (.agg #[(.int .i64 0), (.int .i64 0), (.int .i64 0), (.int .i64 0)]) 32 rfl Try.underlying72 info78 rfl (by decide) (by omega) u8 x8_1 (⟨a0_0, wrap64 (rd l1 x9_1), 3, 0⟩ : S78) [.int .i64 a0_0, .int .i64 (wrap64 (rd l1 x9_1)), .int .i64 3, .int .i64 0] (fun k_ => k_ ≠ gb530) (fun _ => False) rfl rfl ?aP (fun _ hk => hk.elim) ?aF ?aO ?aB ?aS ?aL ?_; (case aP => exact k78_mkM _ _ _ (⟨a0_0, wrap64 (rd l1 x9_1), 3, 0⟩ : S78)); (case aB => exact bel); (case aF => exact (fun k_ hk => Kd.freshB (bkl BK530) k_ hk)); (case aO => exact (by (with_reducible repeat (first | apply Kd.R_alloc | apply Kd.R_drewN | apply Kd.R_drew)); exact Kd.R_mono HO_8.out (fun _ hk => hk.2))); (case aS => exact (below_size bel)); (case aL => have := LMc26.out; omega); intro v537 w38 ho hb hg hat; rw [← Ny536.out] at ho; have HO538 := Aside0.mk (ho); replace BK528 := Aside0.mk (blk_grown (bkl BK528) hg (Kd.R_ne HO_8.out BK528.out (by decide))); replace BK530 := Aside0.mk (blk_grown (bkl BK530) hg (Kd.R_away HO_8.out (fun _ hk => hk.2))); replace HB := Aside0.mk (hb); clear HO_8; clear ho hb hg hat))
         go_roundg k1
         case measure => have := HK1.out; omega
         case rel => exact ⟨(y536), (wrap64 (x9_1 + 1)), (by first | rfl | (simp; done) | (simp [*]; done)), H', ⟨by have := HK1.out; omega⟩, ⟨by (with_reducible repeat (first | apply Kd.R_alloc | apply Kd.R_drewN | apply Kd.R_drew)); exact Kd.R_mono HO538.out (fun _ hk => trivial)⟩, ⟨by (with_reducible repeat (first | refine blk_drewN ?_ _ | refine blk_drew ?_ | refine blk_alloc ?_ _)); exact BK528.out⟩, ⟨bel⟩⟩
        ·rw [if_neg c26] at H
         exact absurd H (by simp)
      ·rw [if_neg c10] at H
       exact absurd H (by simp)
     ·rw [if_neg c8] at H
      have c8b0 : (t532 == 0) = false := beq_eq_false_iff_ne.mpr c8
      have c8b1 : (t532 != 0) = true := bne_iff_ne.mpr c8
      simp only [Option.some.injEq, Prod.mk.injEq] at H
      obtain ⟨rfl, rfl⟩ := H
      try go_wp2
      replace HO_8 := Aside0.mk (Kd.R_drew HO_8.out)
      replace BK528 := Aside0.mk (blk_drew BK528.out)
      replace HB := Aside0.mk (below_drew1 HB.out)
      have p529 : 0 ≤ (x9_1 : Int) := of_decide_eq_true (by first | (with_reducible assumption) | assumption)
      have q529 : x9_1 < (l1.length : Int) := of_decide_eq_true (by first | (with_reducible assumption) | assumption)
      obtain ⟨ad529, e529, hx529_0⟩ := Kd.at_int HR1.out x9_1 p529 q529
      have hw529_0 := hx529_0
      cases e529
      replace hx529_0 := hxl HB hx529_0
      replace p529 := eq_true p529
      replace q529 := eq_true q529
      refine start_ (n := 10) (S := fun w' => w'.cell? ⟨gb528, 0, none⟩ = some (.int .i64 a0_0) ∧ w'.cell? ⟨gb528, 1, none⟩ = some (.int .i64 a0_1) ∧ w'.cell? ⟨gb528, 2, none⟩ = some (.slice A0_2 l0_2.length c0_2) ∧ w'.cell? (ad529.add (x9_1).toNat) = some (.int .u16 (rd l1 x9_1))) (ds := []) #[false, false, false, false, false, false, false, false, false, false] (by kernel_rfl) rfl rfl ⟨(blk_cell BK528.out 0).trans rfl, (blk_cell BK528.out 1).trans rfl, (blk_cell BK528.out 2).trans rfl, ((HB.out.cell (World.block_lt_of_cell? w _ hw529_0)).trans hw529_0)⟩ (fun hHeld => ?_); refine with_tabW formelaw38_honest.tab5 formelaw38_honest.bits5 (fun HT_ HW_ => ?_)
      generalize wr.drew = w39 at HO_8 BK528 HB hx529_0 hHeld ⊢
      refine pure_ (i := 0) (N := some 19) (v := ?_) (a' := ?_) #[true, false, false, false, false, false, false, false, false, false] rfl rfl (any_of HT_.out (by kernel_rfl)) (fun _ _ _ h => h) (Or.inl ⟨by rfl, ?_⟩) ?_ ?_
      rotate_left
      ·intro w'
       go_simp
       with_reducible rfl
      rotate_left
      ·exact apt
      refine pure_ (i := 2) (N := some 21) (v := ?_) (a' := ?_) #[true, false, true, false, false, false, false, false, false, false] rfl rfl (any_of HT_.out (by kernel_rfl)) (fun _ _ _ h => h) (Or.inl ⟨by rfl, ?_⟩) ?_ ?_
      rotate_left
      ·intro w'
       go_simp
       with_reducible rfl
      rotate_left
      ·exact apt
      refine pure_ (i := 3) (N := some 22) (v := ?_) (a' := ?_) #[true, false, true, true, false, false, false, false, false, false] rfl rfl (any_of HT_.out (by kernel_rfl)) (fun _ _ _ h => h) (Or.inl ⟨by rfl, ?_⟩) ?_ ?_
      rotate_left
      ·intro w'
       go_simp
       with_reducible rfl
      rotate_left
      ·exact apt
      refine pure_ (i := 4) (N := some 23) (v := ?_) (a' := ?_) #[true, false, true, true, true, false, false, false, false, false] rfl rfl (any_of HT_.out (by kernel_rfl)) (fun _ _ _ h => h) (Or.inl ⟨by rfl, ?_⟩) ?_ ?_
      rotate_left
      ·intro w'
       go_simp
       with_reducible rfl
      rotate_left
      ·exact apt
      refine take_ (i := 1) (N := some 20) (v := ?_) (a' := ?_) #[true, true, true, true, true, false, false, false, false, false] rfl rfl (take_ofW HT_.out HW_.out (by kernel_rfl)) (fun _ _ _ h => h) (Or.inl ⟨by rfl, ?_⟩) hHeld ?_ ?_
      rotate_left
      ·rintro w' ⟨s0, s1, s2, s3⟩
       go_simp
       with_reducible rfl
      rotate_left
      ·exact apt
      refine take_ (i := 5) (N := some 24) (v := ?_) (a' := ?_) #[true, true, true, true, true, true, false, false, false, false] rfl rfl (take_ofW HT_.out HW_.out (by kernel_rfl)) (fun _ _ _ h => h) (Or.inl ⟨by rfl, ?_⟩) hHeld ?_ ?_
      rotate_left
      ·rintro w' ⟨s0, s1, s2, s3⟩
       go_simp
       with_reducible rfl
      rotate_left
      ·exact apt
      refine pure_ (i := 6) (N := some 25) (v := ?_) (a' := ?_) #[true, true, true, true, true, true, true, false, false, false] rfl rfl (any_of HT_.out (by kernel_rfl)) (fun _ _ _ h => h) (Or.inl ⟨by rfl, ?_⟩) ?_ ?_
      rotate_left
      ·intro w'
       go_simp
       with_reducible rfl
      rotate_left
      ·exact apt
      refine pure_ (i := 7) (N := some 26) (v := ?_) (a' := ?_) #[true, true, true, true, true, true, true, true, false, false] rfl rfl (any_of HT_.out (by kernel_rfl)) (fun _ _ _ h => h) (Or.inl ⟨by rfl, ?_⟩) ?_ ?_
      rotate_left
      ·intro w'
       go_simp
       with_reducible rfl
      rotate_left
      ·exact apt
      refine one_ (i := 8) (N := some 10) #[true, true, true, true, true, true, true, true, true, false] rfl rfl (one_of HT_.out (by kernel_rfl)) (by decide) (fun K hK => ?_)
      refine box_step ?hg (N := 10) ?hd (cs := #[.int .i64 0, .int .i64 0, .int .i64 0, .int .i64 0]) (t := 78) ?hr ?_; (case hd => rfl); (case hg => rfl); (case hr => first | (go_simp; done) | (go_simp; rfl))
      intro gb530 hg w40 hbox hb
      have BK530 := Aside0.mk (hbox)
      have GW530 := gwa w hg
      have GE530 := gwa w hg
      have NB528_530 := nal BK528 hg
      have NB530_528 := nag BK528 hg
      replace HO_8 := Aside0.mk (Kd.R_below (Kd.R_elderB (krl HO_8) gb530 (Nat.le_of_eq hg.symm)) hb)
      replace BK528 := bka BK528 hb
      replace HB := hba hb
      clear hb hbox hg
      refine hK.out _ _ ⟨(blk_cell BK528.out 0).trans rfl, (blk_cell BK528.out 1).trans rfl, (blk_cell BK528.out 2).trans rfl, ((HB.out.cell (World.block_lt_of_cell? w _ hw529_0)).trans hw529_0)⟩ (fun hHeld => ?_)
      clear hK K
      refine norm_ (a' := ?_) ?_ ?_
      rotate_left
      ·show Act.put _ (some 10) _ = _
       simp only [Act.put, List.setIfInBounds_toArray, List.set_cons_zero, List.set_cons_succ, i64_w, i32_w]
       rfl
      refine one_ (i := 9) (N := none) #[true, true, true, true, true, true, true, true, true, true] rfl rfl (one_of HT_.out (by kernel_rfl)) (by decide) (fun K hK => ?_)
      have hs41 : w40.cell? ⟨gb530, 0, none⟩ = some (.int .i64 0) := (blk_cell BK530.out 0).trans rfl
      have hfs41 := blk_frozen BK530.out 0
      have hns41_0 := NB528_530.out
      have hms41_0 := NB530_528.out
      have hs42 : w40.cell? ⟨gb530, 1, none⟩ = some (.int .i64 0) := (blk_cell BK530.out 1).trans rfl
      have hfs42 := blk_frozen BK530.out 1
      have hns42_0 := NB528_530.out
      have hms42_0 := NB530_528.out
      have hs43 : w40.cell? ⟨gb530, 2, none⟩ = some (.int .i64 0) := (blk_cell BK530.out 2).trans rfl
      have hfs43 := blk_frozen BK530.out 2
      have hns43_0 := NB528_530.out
      have hms43_0 := NB530_528.out
      have hs44 : w40.cell? ⟨gb530, 3, none⟩ = some (.int .i64 0) := (blk_cell BK530.out 3).trans rfl
      have hfs44 := blk_frozen BK530.out 3
      have hns44_0 := NB528_530.out
      have hms44_0 := NB530_528.out
      refine skip_ (w1 := ?_) (by rfl) rfl ?_ ?_
      rotate_left
      ·go_simp
       rfl
      refine hK.out _ _ ⟨((cell_far (p := ⟨gb530, _, none⟩) NB528_530.out _).trans (((cell_far (p := ⟨gb530, _, none⟩) NB528_530.out _).trans (((cell_far (p := ⟨gb530, _, none⟩) NB528_530.out _).trans (((cell_far (p := ⟨gb530, _, none⟩) NB528_530.out _).trans (hHeld.1)))))))), ((cell_far (p := ⟨gb530, _, none⟩) NB528_530.out _).trans (((cell_far (p := ⟨gb530, _, none⟩) NB528_530.out _).trans (((cell_far (p := ⟨gb530, _, none⟩) NB528_530.out _).trans (((cell_far (p := ⟨gb530, _, none⟩) NB528_530.out _).trans (hHeld.2.1)))))))), ((cell_far (p := ⟨gb530, _, none⟩) NB528_530.out _).trans (((cell_far (p := ⟨gb530, _, none⟩) NB528_530.out _).trans (((cell_far (p := ⟨gb530, _, none⟩) NB528_530.out _).trans (((cell_far (p := ⟨gb530, _, none⟩) NB528_530.out _).trans (hHeld.2.2.1)))))))), ((cell_far (p := ⟨gb530, _, none⟩) (fne hw529_0 GW530) _).trans (((cell_far (p := ⟨gb530, _, none⟩) (fne hw529_0 GW530) _).trans (((cell_far (p := ⟨gb530, _, none⟩) (fne hw529_0 GW530) _).trans (((cell_far (p := ⟨gb530, _, none⟩) (fne hw529_0 GW530) _).trans (hHeld.2.2.2))))))))⟩ (fun hHeld => ?_)
      clear hK K
      refine done_ (done_of HT_.out (by kernel_rfl)) ?_
      have hnb45 := NB528_530.out
      have hnc45 := NB530_528.out
      obtain ⟨hcz46_0, hcz46_1, hcz46_2, hfz46_0, hfz46_1, hfz46_2⟩ := cz3 BK528
      obtain ⟨hcz47_0, hcz47_1, hcz47_2, hcz47_3, hfz47_0, hfz47_1, hfz47_2, hfz47_3⟩ := cz4 BK530
      try go_wp2_with (first | ((with_reducible refine gate_callee (f := 59) rfl ?_); refine goesL_ (some 31) rfl rfl Try.func59 (by kernel_rfl) rfl #[.agg #[.int .i64 a0_0, .int .i64 a0_1, .slice A0_2 l0_2.length c0_2], .int .i64 (wrap64 (rd l1 x9_1))] rfl gla ?_; (with_reducible refine (contract_Promised.calls a0_0 a0_1 _ _ l0_2 (wrap64 (rd l1 x9_1)) t531 t532 _ ?side1 ?side2 A7.out).mono ?_); (case side1 => exact Kd.C_below HR0_2.out bel); (case side2 => exact HC0_2.out); rintro e w48 ⟨rfl, hb⟩; refine ⟨_, rfl, ?_⟩; replace HO_8 := Aside0.mk (Kd.R_below (by (with_reducible repeat (first | apply Kd.R_alloc | apply Kd.R_drewN | apply Kd.R_drew)); exact (Kd.R_mono (Kd.R_far (p := ⟨gb530, 3, none⟩) (Kd.R_far (p := ⟨gb530, 2, none⟩) (Kd.R_far (p := ⟨gb530, 1, none⟩) (Kd.R_far (p := ⟨gb530, 0, none⟩) (Kd.R_mono HO_8.out (fun k_ hk => (⟨hk, hk.2⟩ : _ ∧ k_ ≠ gb530))) (fun _ hk => hk.2) (.int .i64 a0_0)) (fun _ hk => hk.2) (.int .i64 (wrap64 (rd l1 x9_1)))) (fun _ hk => hk.2) (.int .i64 3)) (fun _ hk => hk.2) (.int .i64 0)) (fun _ h_ => h_.1))) hb); replace BK528 := Aside0.mk (blk_below (g := gb528) (o := .cells #[.int .i64 a0_0, .int .i64 a0_1, .slice A0_2 l0_2.length c0_2] 69 (0, 0)) (bkf BK528) hb); replace BK530 := Aside0.mk (blk_below (g := gb530) (o := .cells #[.int .i64 a0_0, .int .i64 (wrap64 (rd l1 x9_1)), .int .i64 3, .int .i64 0] 78 (0, 0)) (by (with_reducible repeat (first | refine blk_drewN ?_ _ | refine blk_drew ?_ | refine blk_alloc ?_ _)); refine blk_put (cs := #[.int .i64 a0_0, .int .i64 (wrap64 (rd l1 x9_1)), .int .i64 3, .int .i64 0]) ?_ 3 _ rfl; (with_reducible repeat (first | refine blk_drewN ?_ _ | refine blk_drew ?_ | refine blk_alloc ?_ _)); refine blk_put (cs := #[.int .i64 a0_0, .int .i64 (wrap64 (rd l1 x9_1)), .int .i64 0, .int .i64 0]) ?_ 2 _ rfl; (with_reducible repeat (first | refine blk_drewN ?_ _ | refine blk_drew ?_ | refine blk_alloc ?_ _)); refine blk_put (cs := #[.int .i64 a0_0, .int .i64 0, .int .i64 0, .int .i64 0]) ?_ 1 _ rfl; (with_reducible repeat (first | refine blk_drewN ?_ _ | refine blk_drew ?_ | refine blk_alloc ?_ _)); refine blk_put (cs := #[.int .i64 0, .int .i64 0, .int .i64 0, .int .i64 0]) ?_ 0 _ rfl; (with_reducible repeat (first | refine blk_drewN ?_ _ | refine blk_drew ?_ | refine blk_alloc ?_ _)); exact BK530.out) hb); replace HB := hba hb; (try clear hb); (try clear hb2); (try clear hk); (try clear hi)))
      go_ret2
      exact ⟨_, by first | rfl | (simp [errW_none, errW_some] <;> rfl) | (simp [*, errW_none, errW_some] <;> rfl), by first | exact Kd.R_nil _ _ _ _ _ | exact Kd.N_nil _ _ _ _ _ | exact Kd.V_nil _ _ _ _ _ | exact Kd.Q_nil _ _ _ _ _ | exact Kd.S_nil _ _ _ _ _, bel⟩
    ·rw [if_neg c6] at H
     exact absurd H (by simp)
   ·rw [if_neg c5] at H
    have c5b0 : decide (x9_1 < (l1.length : Int)) = false := decide_eq_false c5
    clear c5
    simp only [Option.some.injEq, Prod.mk.injEq] at H
    obtain ⟨rfl, rfl⟩ := H
    go_wp2
    go_ret2
    exact ⟨_, by first | rfl | (simp [errW_none, errW_some] <;> rfl) | (simp [*, errW_none, errW_some] <;> rfl), by (with_reducible repeat (first | apply Kd.R_alloc | apply Kd.R_drewN | apply Kd.R_drew)); exact HO_8.out, bel⟩
end Go.Proofs.Ytjpghfjaloglhaa.PContract

