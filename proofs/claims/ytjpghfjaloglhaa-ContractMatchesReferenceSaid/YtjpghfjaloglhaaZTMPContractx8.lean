import Derived.Test.YtjpghfjaloglhaaZTMZip
import Derived.Test.YtjpghfjaloglhaaZTMPContractx0
import Derived.Test.YtjpghfjaloglhaaZTMPContractx7
import Derived.Test.YtjpghfjaloglhaaZTMEContractAt
import Derived.Test.YtjpghfjaloglhaaZTMEContractCValid
namespace Go.Proofs.Ytjpghfjaloglhaa.PContract
open Go.RowKit Go.Proofs.YtjpghfjaloglhaaW.PrintWords Go.Proofs.YtjpghfjaloglhaaW.PrintLast Go.Proofs.YtjpghfjaloglhaaW.PrintMore Go.Proofs.Ytjpghfjaloglhaa.Zip
attribute [local go_sem] max2_int min2_int max_two min_two max_three min_three max_four min_four   -- for this text's walks alone
set_option linter.unusedVariables false
set_option linter.unusedSimpArgs false
def contract_promised.f (a0_0 : Int) (a0_1 : Int) (l0_2 : List (S61)) (a1 : Int) : Option (Int) := if 0 < (l0_2.length : Int) then (if 0 ≤ (wrap64 ((l0_2.length : Int) - 1)) then (if (wrap64 ((l0_2.length : Int) - 1)) < (l0_2.length : Int) then ((curve_At.f l0_2 (mn (mx a1 ((rd_T61 l0_2 0).f0)) (wrap64 (((rd_T61 l0_2 (wrap64 ((l0_2.length : Int) - 1))).f1) - 1)))).bind fun bt196 => (some bt196.1)) else (none)) else (none)) else (none)
def contract_promised.T1 : Bool × List (List Nat × List Nat) := (true, [([], []), ([0], [0]), ([1], [1]), ([2], [2]), ([], []), ([4], [4]), ([], []), ([6], [6]), ([7], [7]), ([8], [8]), ([5, 9], [5, 9]), ([10], [10]), ([], []), ([], []), ([12, 3, 0, 1, 2, 3, 12, 13], [3, 12]), ([13, 11, 14, 0, 1, 2, 3, 4, 5, 6, 7, 8, 9, 10, 11, 12, 13, 14], [11, 13])])
def contract_promised.B1 : List Nat := [0, 1, 3, 7, 0, 16, 0, 64, 192, 448, 1008, 2032, 0, 0, 12303, 32767]
theorem contract_promised.tab1 : rtab .any (opsOf Try.f99 1) = contract_promised.T1 := by kernel_rfl
theorem contract_promised.bits1 : waitsOk contract_promised.T1.2 contract_promised.B1 = true := by kernel_rfl
set_option maxHeartbeats 8000000 in
set_option maxRecDepth 100000 in
theorem contract_promised.calls (a0_0 : Int) (a0_1 : Int) (A0_2 : Option Addr) (c0_2 : Nat) (l0_2 : List (S61)) (a1 : Int) (r : Int) (w : World) (hr0_2 : Kd.C k61 w A0_2 l0_2.length l0_2) (hc0_2 : l0_2.length ≤ c0_2) (h : contract_promised.f a0_0 a0_1 l0_2 a1 = some r) :
  Calls Try.prog 99 #[.agg #[.int .i64 a0_0, .int .i64 a0_1, .slice A0_2 l0_2.length c0_2], .int .i64 a1] w fun e w' => e = .returned (.int .i64 r) ∧ Below w.heap.size w w' := by
 have hu69 := Try.underlying69
 have hu61 := Try.underlying61
 have HR0_2 := Aside0.mk hr0_2
 have HC0_2 := Aside0.mk hc0_2
 clear hr0_2 hc0_2
 have HB := Aside0.mk (Below.refl w.heap.size w)
 have H := h
 unfold contract_promised.f at H
 clear h
 by_cases c3 : 0 < (l0_2.length : Int)
 ·rw [if_pos c3] at H
  have c3b0 : decide (0 < (l0_2.length : Int)) = true := decide_eq_true c3
  have c3b1 : decide (0 < l0_2.length) = true := decide_eq_true (by omega)
  clear c3
  obtain ⟨ji4, hji4⟩ : ∃ j_ : Int, (wrap64 ((l0_2.length : Int) - 1)) = j_ := ⟨_, rfl⟩
  replace H : (if 0 ≤ (ji4) then (if (ji4) < (l0_2.length : Int) then ((curve_At.f l0_2 (mn (mx a1 ((rd_T61 l0_2 0).f0)) (wrap64 (((rd_T61 l0_2 (ji4)).f1) - 1)))).bind fun bt196 => (some bt196.1)) else (none)) else (none)) = some r := by first | (rw [hji4] at H; exact H) | (simp only [hji4] at H ⊢; exact H)
  have hji4w : (IntKind.i64.wrap ((l0_2.length : Int) - 1)) = ji4 := (i64_w _).trans hji4
  by_cases c5 : 0 ≤ (ji4)
  ·rw [if_pos c5] at H
   have c5b0 : decide (0 ≤ (ji4)) = true := decide_eq_true c5
   clear c5
   by_cases c6 : (ji4) < (l0_2.length : Int)
   ·rw [if_pos c6] at H
    have c6b0 : decide ((ji4) < (l0_2.length : Int)) = true := decide_eq_true c6
    clear c6
    obtain ⟨ji7, hji7⟩ : ∃ j_ : Int, (mx a1 ((rd_T61 l0_2 0).f0)) = j_ := ⟨_, rfl⟩
    replace H : ((curve_At.f l0_2 (mn (ji7) (wrap64 (((rd_T61 l0_2 (ji4)).f1) - 1)))).bind fun bt196 => (some bt196.1)) = some r := by first | (rw [hji7] at H; exact H) | (simp only [hji7] at H ⊢; exact H)
    have hji7_ : (if a1 < ((rd_T61 l0_2 0).f0) then ((rd_T61 l0_2 0).f0) else a1) = ji7 := hji7
    obtain ⟨ji8, hji8⟩ : ∃ j_ : Int, (mn (ji7) (wrap64 (((rd_T61 l0_2 (ji4)).f1) - 1))) = j_ := ⟨_, rfl⟩
    replace H : ((curve_At.f l0_2 (ji8)).bind fun bt196 => (some bt196.1)) = some r := by first | (rw [hji8] at H; exact H) | (simp only [hji8] at H ⊢; exact H)
    have hji8_ : (if (wrap64 (((rd_T61 l0_2 (ji4)).f1) - 1)) < (ji7) then (wrap64 (((rd_T61 l0_2 (ji4)).f1) - 1)) else (ji7)) = ji8 := hji8
    replace H := Option.bind_eq_some_iff.mp H
    obtain ⟨⟨t196, t197⟩, A90, H⟩ := H
    try dsimp only at H
    have A9 := Aside0.mk A90
    clear A90
    obtain rfl := Option.some.inj H
    go_enter Try.func99, Try.ntmps99
    try go_wp2_with (first | ((with_reducible refine gate_dst (N := 2) rfl ?_); refine box_event ?hg (N := 2) ?hd (cs := #[.int .i64 a0_0, .int .i64 a0_1, .slice A0_2 l0_2.length c0_2]) (t := 69) ?hr ?_; (case hd => rfl); (case hg => rfl); (case hr => first | (go_simp; done) | (go_simp; rfl)); intro gb191 hg w10 hbox hb; have BK191 := Aside0.mk (hbox); have GW191 := gwa w hg; have GE191 := gwa w hg; replace HB := hba hb; clear hb hbox hg))
    replace BK191 := Aside0.mk (blk_drew BK191.out)
    replace HB := Aside0.mk (below_drew1 HB.out)
    have p192 : 0 ≤ (0 : Int) := (by omega)
    have q192 : 0 < (l0_2.length : Int) := of_decide_eq_true (by first | (with_reducible assumption) | assumption)
    obtain ⟨ad192, e192, hx192_0, hx192_1, hx192_2, hx192_3, hx192_4⟩ := at_T61 HR0_2.out 0 p192 q192
    have hw192_4 := hx192_4
    (try rw [show ((0 : Int)).toNat = 0 from rfl] at hw192_4)
    (try rw [show 0 * 5 = 0 from rfl] at hw192_4)
    (try rw [Addr.add_zero'] at hw192_4)
    have hw192_3 := hx192_3
    (try rw [show ((0 : Int)).toNat = 0 from rfl] at hw192_3)
    (try rw [show 0 * 5 = 0 from rfl] at hw192_3)
    (try rw [Addr.add_zero'] at hw192_3)
    have hw192_2 := hx192_2
    (try rw [show ((0 : Int)).toNat = 0 from rfl] at hw192_2)
    (try rw [show 0 * 5 = 0 from rfl] at hw192_2)
    (try rw [Addr.add_zero'] at hw192_2)
    have hw192_1 := hx192_1
    (try rw [show ((0 : Int)).toNat = 0 from rfl] at hw192_1)
    (try rw [show 0 * 5 = 0 from rfl] at hw192_1)
    (try rw [Addr.add_zero'] at hw192_1)
    have hw192_0 := hx192_0
    (try rw [show ((0 : Int)).toNat = 0 from rfl] at hw192_0)
    (try rw [show 0 * 5 = 0 from rfl] at hw192_0)
    (try rw [Addr.add_zero'] at hw192_0)
    cases e192
    have qi192 : (0 < l0_2.length) = True := eq_true (by omega)
    (try rw [show ((0 : Int)).toNat = 0 from rfl] at hx192_0)
    (try rw [show 0 * 5 = 0 from rfl] at hx192_0)
    (try rw [Addr.add_zero'] at hx192_0)
    (try rw [show ((0 : Int)).toNat = 0 from rfl] at hx192_1)
    (try rw [show 0 * 5 = 0 from rfl] at hx192_1)
    (try rw [Addr.add_zero'] at hx192_1)
    (try rw [show ((0 : Int)).toNat = 0 from rfl] at hx192_2)
    (try rw [show 0 * 5 = 0 from rfl] at hx192_2)
    (try rw [Addr.add_zero'] at hx192_2)
    (try rw [show ((0 : Int)).toNat = 0 from rfl] at hx192_3)
    (try rw [show 0 * 5 = 0 from rfl] at hx192_3)
    (try rw [Addr.add_zero'] at hx192_3)
    (try rw [show ((0 : Int)).toNat = 0 from rfl] at hx192_4)
    (try rw [show 0 * 5 = 0 from rfl] at hx192_4)
    (try rw [Addr.add_zero'] at hx192_4)
    replace hx192_0 := hxl HB hx192_0
    replace hx192_1 := hxl HB hx192_1
    replace hx192_2 := hxl HB hx192_2
    replace hx192_3 := hxl HB hx192_3
    replace hx192_4 := hxl HB hx192_4
    replace p192 := eq_true p192
    replace q192 := eq_true q192
    have p193 : 0 ≤ ((ji4) : Int) := of_decide_eq_true (by first | (with_reducible assumption) | assumption)
    have q193 : (ji4) < (l0_2.length : Int) := of_decide_eq_true (by first | (with_reducible assumption) | assumption)
    obtain ⟨ad193, e193, hx193_0, hx193_1, hx193_2, hx193_3, hx193_4⟩ := at_T61 HR0_2.out (ji4) p193 q193
    have hw193_4 := hx193_4
    have hw193_3 := hx193_3
    have hw193_2 := hx193_2
    have hw193_1 := hx193_1
    have hw193_0 := hx193_0
    obtain rfl : ad192 = ad193 := (by injection e193)
    replace hx193_0 := hxl HB hx193_0
    replace hx193_1 := hxl HB hx193_1
    replace hx193_2 := hxl HB hx193_2
    replace hx193_3 := hxl HB hx193_3
    replace hx193_4 := hxl HB hx193_4
    replace p193 := eq_true p193
    replace q193 := eq_true q193
    refine start_ (n := 16) (S := fun w' => w'.cell? ⟨gb191, 0, none⟩ = some (.int .i64 a0_0) ∧ w'.cell? ⟨gb191, 1, none⟩ = some (.int .i64 a0_1) ∧ w'.cell? ⟨gb191, 2, none⟩ = some (.slice (some ad192) l0_2.length c0_2) ∧ w'.cell? ad192 = some (.int .i64 ((rd_T61 l0_2 0).f0)) ∧ w'.cell? ⟨ad192.block, ad192.off + 1, none⟩ = some (.int .i64 ((rd_T61 l0_2 0).f1)) ∧ w'.cell? ⟨ad192.block, ad192.off + 2, none⟩ = some (.int .i64 ((rd_T61 l0_2 0).f2.f0)) ∧ w'.cell? ⟨ad192.block, ad192.off + 3, none⟩ = some (.int .i64 ((rd_T61 l0_2 0).f2.f1)) ∧ w'.cell? ⟨ad192.block, ad192.off + 4, none⟩ = some (.int .i64 ((rd_T61 l0_2 0).f2.f2)) ∧ w'.cell? (ad192.add (((ji4)).toNat * 5)) = some (.int .i64 ((rd_T61 l0_2 (ji4)).f0)) ∧ w'.cell? ⟨(ad192.add (((ji4)).toNat * 5)).block, (ad192.add (((ji4)).toNat * 5)).off + 1, none⟩ = some (.int .i64 ((rd_T61 l0_2 (ji4)).f1)) ∧ w'.cell? ⟨(ad192.add (((ji4)).toNat * 5)).block, (ad192.add (((ji4)).toNat * 5)).off + 2, none⟩ = some (.int .i64 ((rd_T61 l0_2 (ji4)).f2.f0)) ∧ w'.cell? ⟨(ad192.add (((ji4)).toNat * 5)).block, (ad192.add (((ji4)).toNat * 5)).off + 3, none⟩ = some (.int .i64 ((rd_T61 l0_2 (ji4)).f2.f1)) ∧ w'.cell? ⟨(ad192.add (((ji4)).toNat * 5)).block, (ad192.add (((ji4)).toNat * 5)).off + 4, none⟩ = some (.int .i64 ((rd_T61 l0_2 (ji4)).f2.f2))) (ds := []) #[ff, ff, ff, ff, ff, ff, ff, ff, ff, ff, ff, ff, ff, ff, ff, ff] (by kernel_rfl) rfl rfl ⟨(blk_cell BK191.out 0).trans rfl, (blk_cell BK191.out 1).trans rfl, (blk_cell BK191.out 2).trans rfl, ((HB.out.cell (World.block_lt_of_cell? w _ hw192_0)).trans hw192_0), ((HB.out.cell (World.block_lt_of_cell? w _ hw192_1)).trans hw192_1), ((HB.out.cell (World.block_lt_of_cell? w _ hw192_2)).trans hw192_2), ((HB.out.cell (World.block_lt_of_cell? w _ hw192_3)).trans hw192_3), ((HB.out.cell (World.block_lt_of_cell? w _ hw192_4)).trans hw192_4), ((HB.out.cell (World.block_lt_of_cell? w _ hw193_0)).trans hw193_0), ((HB.out.cell (World.block_lt_of_cell? w _ hw193_1)).trans hw193_1), ((HB.out.cell (World.block_lt_of_cell? w _ hw193_2)).trans hw193_2), ((HB.out.cell (World.block_lt_of_cell? w _ hw193_3)).trans hw193_3), ((HB.out.cell (World.block_lt_of_cell? w _ hw193_4)).trans hw193_4)⟩ (fun hHeld => ?_); refine with_tabW contract_promised.tab1 contract_promised.bits1 (fun HT_ HW_ => ?_)
    generalize w10.drew = w11 at BK191 HB hx192_0 hx192_1 hx192_2 hx192_3 hx192_4 hx193_0 hx193_1 hx193_2 hx193_3 hx193_4 hHeld ⊢
    refine pure_ (i := 0) (N := some 9) (v := ?_) (a' := ?_) #[tt, ff, ff, ff, ff, ff, ff, ff, ff, ff, ff, ff, ff, ff, ff, ff] rfl rfl (any_of HT_.out (by kernel_rfl)) (fun _ _ _ h => h) (Or.inl ⟨by rfl, ?_⟩) ?_ ?_
    rotate_left; intro w'; go_simp; with_reducible rfl; rotate_left; exact apt
    refine pure_ (i := 4) (N := some 13) (v := ?_) (a' := ?_) #[tt, ff, ff, ff, tt, ff, ff, ff, ff, ff, ff, ff, ff, ff, ff, ff] rfl rfl (any_of HT_.out (by kernel_rfl)) (fun _ _ _ h => h) (Or.inl ⟨by rfl, ?_⟩) ?_ ?_
    rotate_left; intro w'; go_simp; with_reducible rfl; rotate_left; exact apt
    refine pure_ (i := 6) (N := some 15) (v := ?_) (a' := ?_) #[tt, ff, ff, ff, tt, ff, tt, ff, ff, ff, ff, ff, ff, ff, ff, ff] rfl rfl (any_of HT_.out (by kernel_rfl)) (fun _ _ _ h => h) (Or.inl ⟨by rfl, ?_⟩) ?_ ?_
    rotate_left; intro w'; go_simp; with_reducible rfl; rotate_left; exact apt
    refine take_ (i := 1) (N := some 10) (v := ?_) (a' := ?_) #[tt, tt, ff, ff, tt, ff, tt, ff, ff, ff, ff, ff, ff, ff, ff, ff] rfl rfl (take_ofW HT_.out HW_.out (by kernel_rfl)) (fun _ _ _ h => h) (Or.inl ⟨by rfl, ?_⟩) hHeld ?_ ?_
    rotate_left; rintro w' ⟨s0, s1, s2, s3, s4, s5, s6, s7, s8, s9, s10, s11, s12⟩; go_simp; with_reducible rfl; rotate_left; exact apt
    refine pure_ (i := 2) (N := some 11) (v := ?_) (a' := ?_) #[tt, tt, tt, ff, tt, ff, tt, ff, ff, ff, ff, ff, ff, ff, ff, ff] rfl rfl (any_of HT_.out (by kernel_rfl)) (fun _ _ _ h => h) (Or.inl ⟨by rfl, ?_⟩) ?_ ?_
    rotate_left; intro w'; go_simp; with_reducible rfl; rotate_left; exact apt
    refine take_ (i := 3) (N := some 12) (v := ?_) (a' := ?_) #[tt, tt, tt, tt, tt, ff, tt, ff, ff, ff, ff, ff, ff, ff, ff, ff] rfl rfl (take_ofW HT_.out HW_.out (by kernel_rfl)) (fun _ _ _ h => h) (Or.inl ⟨by rfl, ?_⟩) hHeld ?_ ?_
    rotate_left; rintro w' ⟨s0, s1, s2, s3, s4, s5, s6, s7, s8, s9, s10, s11, s12⟩; go_simp; with_reducible rfl; rotate_left; exact apt
    refine take_ (i := 5) (N := some 14) (v := ?_) (a' := ?_) #[tt, tt, tt, tt, tt, tt, tt, ff, ff, ff, ff, ff, ff, ff, ff, ff] rfl rfl (take_ofW HT_.out HW_.out (by kernel_rfl)) (fun _ _ _ h => h) (Or.inl ⟨by rfl, ?_⟩) hHeld ?_ ?_
    rotate_left; rintro w' ⟨s0, s1, s2, s3, s4, s5, s6, s7, s8, s9, s10, s11, s12⟩; go_simp; with_reducible rfl; rotate_left; exact apt
    refine take_ (i := 7) (N := some 16) (v := ?_) (a' := ?_) #[tt, tt, tt, tt, tt, tt, tt, tt, ff, ff, ff, ff, ff, ff, ff, ff] rfl rfl (take_ofW HT_.out HW_.out (by kernel_rfl)) (fun _ _ _ h => h) (Or.inl ⟨by rfl, ?_⟩) hHeld ?_ ?_
    rotate_left; rintro w' ⟨s0, s1, s2, s3, s4, s5, s6, s7, s8, s9, s10, s11, s12⟩; go_simp; with_reducible rfl; rotate_left; exact apt
    refine pure_ (i := 8) (N := some 17) (v := ?_) (a' := ?_) #[tt, tt, tt, tt, tt, tt, tt, tt, tt, ff, ff, ff, ff, ff, ff, ff] rfl rfl (any_of HT_.out (by kernel_rfl)) (fun _ _ _ h => h) (Or.inl ⟨by rfl, ?_⟩) ?_ ?_
    rotate_left; intro w'; go_simp; with_reducible rfl; rotate_left; exact apt
    refine pure_ (i := 9) (N := some 18) (v := ?_) (a' := ?_) #[tt, tt, tt, tt, tt, tt, tt, tt, tt, tt, ff, ff, ff, ff, ff, ff] rfl rfl (any_of HT_.out (by kernel_rfl)) (fun _ _ _ h => h) (Or.inl ⟨by rfl, ?_⟩) ?_ ?_
    rotate_left; intro w'; go_simp; with_reducible rfl; rotate_left; exact apt
    refine pure_ (i := 10) (N := some 19) (v := ?_) (a' := ?_) #[tt, tt, tt, tt, tt, tt, tt, tt, tt, tt, tt, ff, ff, ff, ff, ff] rfl rfl (any_of HT_.out (by kernel_rfl)) (fun _ _ _ h => h) (Or.inl ⟨by rfl, ?_⟩) ?_ ?_
    rotate_left; intro w'; go_simp; with_reducible rfl; rotate_left; exact apt
    refine take_ (i := 11) (N := some 20) (v := ?_) (a' := ?_) #[tt, tt, tt, tt, tt, tt, tt, tt, tt, tt, tt, tt, ff, ff, ff, ff] rfl rfl (take_ofW HT_.out HW_.out (by kernel_rfl)) (fun _ _ _ h => h) (Or.inl ⟨by rfl, ?_⟩) hHeld ?_ ?_
    rotate_left; rintro w' ⟨s0, s1, s2, s3, s4, s5, s6, s7, s8, s9, s10, s11, s12⟩; go_simp; with_reducible rfl; rotate_left; exact apt
    refine join_ (σ := Nat × Nat) 2 #[tt, tt, tt, tt, tt, tt, tt, tt, tt, tt, tt, tt, tt, tt, ff, ff] (fun s_ => [(5, .pointer (some ⟨s_.1, 0, none⟩)), (6, .pointer (some ⟨s_.2, 0, none⟩))]) (fun s_ w' => (w'.cell? ⟨gb191, 0, none⟩ = some (.int .i64 a0_0) ∧ w'.cell? ⟨gb191, 1, none⟩ = some (.int .i64 a0_1) ∧ w'.cell? ⟨gb191, 2, none⟩ = some (.slice (some ad192) l0_2.length c0_2) ∧ w'.cell? ad192 = some (.int .i64 ((rd_T61 l0_2 0).f0)) ∧ w'.cell? ⟨ad192.block, ad192.off + 1, none⟩ = some (.int .i64 ((rd_T61 l0_2 0).f1)) ∧ w'.cell? ⟨ad192.block, ad192.off + 2, none⟩ = some (.int .i64 ((rd_T61 l0_2 0).f2.f0)) ∧ w'.cell? ⟨ad192.block, ad192.off + 3, none⟩ = some (.int .i64 ((rd_T61 l0_2 0).f2.f1)) ∧ w'.cell? ⟨ad192.block, ad192.off + 4, none⟩ = some (.int .i64 ((rd_T61 l0_2 0).f2.f2)) ∧ w'.cell? (ad192.add (((ji4)).toNat * 5)) = some (.int .i64 ((rd_T61 l0_2 (ji4)).f0)) ∧ w'.cell? ⟨(ad192.add (((ji4)).toNat * 5)).block, (ad192.add (((ji4)).toNat * 5)).off + 1, none⟩ = some (.int .i64 ((rd_T61 l0_2 (ji4)).f1)) ∧ w'.cell? ⟨(ad192.add (((ji4)).toNat * 5)).block, (ad192.add (((ji4)).toNat * 5)).off + 2, none⟩ = some (.int .i64 ((rd_T61 l0_2 (ji4)).f2.f0)) ∧ w'.cell? ⟨(ad192.add (((ji4)).toNat * 5)).block, (ad192.add (((ji4)).toNat * 5)).off + 3, none⟩ = some (.int .i64 ((rd_T61 l0_2 (ji4)).f2.f1)) ∧ w'.cell? ⟨(ad192.add (((ji4)).toNat * 5)).block, (ad192.add (((ji4)).toNat * 5)).off + 4, none⟩ = some (.int .i64 ((rd_T61 l0_2 (ji4)).f2.f2))) ∧ (w'.heap[gb191]? = some (.cells #[.int .i64 a0_0, .int .i64 a0_1, .slice (some ad192) l0_2.length c0_2] 69 (0, 0))) ∧ (w'.heap[s_.1]? = some (.cells #[.int .i64 0, .int .i64 0, .int .i64 0, .int .i64 0, .int .i64 0] 61 (0, 0))) ∧ (w'.heap[s_.2]? = some (.cells #[.int .i64 0, .int .i64 0, .int .i64 0, .int .i64 0, .int .i64 0] 61 (0, 0))) ∧ (w.heap.size ≤ s_.1) ∧ (w.heap.size ≤ s_.1) ∧ (gb191 ≠ s_.1) ∧ (s_.1 ≠ gb191) ∧ (s_.2 ≠ s_.1) ∧ (s_.1 ≠ s_.2) ∧ (w.heap.size ≤ s_.2) ∧ (w.heap.size ≤ s_.2) ∧ (gb191 ≠ s_.2) ∧ (s_.2 ≠ gb191) ∧ (Below w.heap.size w w')) ?_ ?_
    rotate_left
    ·intro hCont
     refine two_ (i := 12) (j := 13) (Ni := some 5) (Nj := some 6) #[tt, tt, tt, tt, tt, tt, tt, tt, tt, tt, tt, tt, tt, ff, ff, ff] #[tt, tt, tt, tt, tt, tt, tt, tt, tt, tt, tt, tt, ff, tt, ff, ff] rfl rfl rfl rfl (two_of HT_.out (by kernel_rfl)) (by decide) (by decide) (fun K hK => ?_) (fun K hK => ?_)
     ·skip
      refine box_step ?hg (N := 5) ?hd (cs := #[.int .i64 0, .int .i64 0, .int .i64 0, .int .i64 0, .int .i64 0]) (t := 61) ?hr ?_; (case hd => rfl); (case hg => rfl); (case hr => first | (go_simp; done) | (go_simp; rfl))
      intro gb194 hg w12 hbox hb
      have BK194 := Aside0.mk (hbox)
      have GW194 := gwa w hg
      have GE194 := gwa w hg
      have NB191_194 := nal BK191 hg
      have NB194_191 := nag BK191 hg
      replace BK191 := bka BK191 hb
      replace HB := hba hb
      clear hb hbox hg
      refine hK.out _ _ ⟨(blk_cell BK191.out 0).trans rfl, (blk_cell BK191.out 1).trans rfl, (blk_cell BK191.out 2).trans rfl, ((HB.out.cell (World.block_lt_of_cell? w _ hw192_0)).trans hw192_0), ((HB.out.cell (World.block_lt_of_cell? w _ hw192_1)).trans hw192_1), ((HB.out.cell (World.block_lt_of_cell? w _ hw192_2)).trans hw192_2), ((HB.out.cell (World.block_lt_of_cell? w _ hw192_3)).trans hw192_3), ((HB.out.cell (World.block_lt_of_cell? w _ hw192_4)).trans hw192_4), ((HB.out.cell (World.block_lt_of_cell? w _ hw193_0)).trans hw193_0), ((HB.out.cell (World.block_lt_of_cell? w _ hw193_1)).trans hw193_1), ((HB.out.cell (World.block_lt_of_cell? w _ hw193_2)).trans hw193_2), ((HB.out.cell (World.block_lt_of_cell? w _ hw193_3)).trans hw193_3), ((HB.out.cell (World.block_lt_of_cell? w _ hw193_4)).trans hw193_4)⟩ (fun hHeld => ?_)
      clear hK K
      refine norm_ (a' := ?_) ?_ ?_
      rotate_left
      ·show Act.put _ (some 5) _ = _
       simp only [Act.put, List.setIfInBounds_toArray, List.set_cons_zero, List.set_cons_succ, i64_w, i32_w]
       rfl
      refine one_ (i := 13) (N := some 6) #[tt, tt, tt, tt, tt, tt, tt, tt, tt, tt, tt, tt, tt, tt, ff, ff] rfl rfl (one_of HT_.out (by kernel_rfl)) (by decide) (fun K hK => ?_)
      refine box_step ?hg (N := 6) ?hd (cs := #[.int .i64 0, .int .i64 0, .int .i64 0, .int .i64 0, .int .i64 0]) (t := 61) ?hr ?_; (case hd => rfl); (case hg => rfl); (case hr => first | (go_simp; done) | (go_simp; rfl))
      intro gb195 hg w13 hbox hb
      have BK195 := Aside0.mk (hbox)
      have GW195 := gwa w hg
      have GE195 := gwa w hg
      have NB191_195 := nal BK191 hg
      have NB195_191 := nag BK191 hg
      have NB194_195 := nal BK194 hg
      have NB195_194 := nag BK194 hg
      replace BK191 := bka BK191 hb
      replace BK194 := bka BK194 hb
      replace HB := hba hb
      clear hb hbox hg
      refine hK.out _ _ ⟨(blk_cell BK191.out 0).trans rfl, (blk_cell BK191.out 1).trans rfl, (blk_cell BK191.out 2).trans rfl, ((HB.out.cell (World.block_lt_of_cell? w _ hw192_0)).trans hw192_0), ((HB.out.cell (World.block_lt_of_cell? w _ hw192_1)).trans hw192_1), ((HB.out.cell (World.block_lt_of_cell? w _ hw192_2)).trans hw192_2), ((HB.out.cell (World.block_lt_of_cell? w _ hw192_3)).trans hw192_3), ((HB.out.cell (World.block_lt_of_cell? w _ hw192_4)).trans hw192_4), ((HB.out.cell (World.block_lt_of_cell? w _ hw193_0)).trans hw193_0), ((HB.out.cell (World.block_lt_of_cell? w _ hw193_1)).trans hw193_1), ((HB.out.cell (World.block_lt_of_cell? w _ hw193_2)).trans hw193_2), ((HB.out.cell (World.block_lt_of_cell? w _ hw193_3)).trans hw193_3), ((HB.out.cell (World.block_lt_of_cell? w _ hw193_4)).trans hw193_4)⟩ (fun hHeld => ?_)
      clear hK K
      refine norm_ (a' := ?_) ?_ ?_
      rotate_left
      ·show Act.put _ (some 6) _ = _
       simp only [Act.put, List.setIfInBounds_toArray, List.set_cons_zero, List.set_cons_succ, i64_w, i32_w]
       rfl
      exact norm_ (by simp only [putAll, Act.put, List.setIfInBounds_toArray, List.set_cons_zero, List.set_cons_succ]) (hCont (gb194, gb195) _ ⟨hHeld, (by (with_reducible repeat (first | refine blk_drewN ?_ _ | refine blk_drew ?_ | refine blk_alloc ?_ _)); exact BK191.out), (by (with_reducible repeat (first | refine blk_drewN ?_ _ | refine blk_drew ?_ | refine blk_alloc ?_ _)); exact BK194.out), (by (with_reducible repeat (first | refine blk_drewN ?_ _ | refine blk_drew ?_ | refine blk_alloc ?_ _)); exact BK195.out), GW194.out, GE194.out, NB191_194.out, NB194_191.out, NB195_194.out, NB194_195.out, GW195.out, GE195.out, NB191_195.out, NB195_191.out, bel⟩)
     ·skip
      refine box_step ?hg (N := 6) ?hd (cs := #[.int .i64 0, .int .i64 0, .int .i64 0, .int .i64 0, .int .i64 0]) (t := 61) ?hr ?_; (case hd => rfl); (case hg => rfl); (case hr => first | (go_simp; done) | (go_simp; rfl))
      intro gb195 hg w12 hbox hb
      have BK195 := Aside0.mk (hbox)
      have GW195 := gwa w hg
      have GE195 := gwa w hg
      have NB191_195 := nal BK191 hg
      have NB195_191 := nag BK191 hg
      replace BK191 := bka BK191 hb
      replace HB := hba hb
      clear hb hbox hg
      refine hK.out _ _ ⟨(blk_cell BK191.out 0).trans rfl, (blk_cell BK191.out 1).trans rfl, (blk_cell BK191.out 2).trans rfl, ((HB.out.cell (World.block_lt_of_cell? w _ hw192_0)).trans hw192_0), ((HB.out.cell (World.block_lt_of_cell? w _ hw192_1)).trans hw192_1), ((HB.out.cell (World.block_lt_of_cell? w _ hw192_2)).trans hw192_2), ((HB.out.cell (World.block_lt_of_cell? w _ hw192_3)).trans hw192_3), ((HB.out.cell (World.block_lt_of_cell? w _ hw192_4)).trans hw192_4), ((HB.out.cell (World.block_lt_of_cell? w _ hw193_0)).trans hw193_0), ((HB.out.cell (World.block_lt_of_cell? w _ hw193_1)).trans hw193_1), ((HB.out.cell (World.block_lt_of_cell? w _ hw193_2)).trans hw193_2), ((HB.out.cell (World.block_lt_of_cell? w _ hw193_3)).trans hw193_3), ((HB.out.cell (World.block_lt_of_cell? w _ hw193_4)).trans hw193_4)⟩ (fun hHeld => ?_)
      clear hK K
      refine norm_ (a' := ?_) ?_ ?_
      rotate_left
      ·show Act.put _ (some 6) _ = _
       simp only [Act.put, List.setIfInBounds_toArray, List.set_cons_zero, List.set_cons_succ, i64_w, i32_w]
       rfl
      refine one_ (i := 12) (N := some 5) #[tt, tt, tt, tt, tt, tt, tt, tt, tt, tt, tt, tt, tt, tt, ff, ff] rfl rfl (one_of HT_.out (by kernel_rfl)) (by decide) (fun K hK => ?_)
      refine box_step ?hg (N := 5) ?hd (cs := #[.int .i64 0, .int .i64 0, .int .i64 0, .int .i64 0, .int .i64 0]) (t := 61) ?hr ?_; (case hd => rfl); (case hg => rfl); (case hr => first | (go_simp; done) | (go_simp; rfl))
      intro gb194 hg w13 hbox hb
      have BK194 := Aside0.mk (hbox)
      have GW194 := gwa w hg
      have GE194 := gwa w hg
      have NB191_194 := nal BK191 hg
      have NB194_191 := nag BK191 hg
      have NB195_194 := nal BK195 hg
      have NB194_195 := nag BK195 hg
      replace BK191 := bka BK191 hb
      replace BK195 := bka BK195 hb
      replace HB := hba hb
      clear hb hbox hg
      refine hK.out _ _ ⟨(blk_cell BK191.out 0).trans rfl, (blk_cell BK191.out 1).trans rfl, (blk_cell BK191.out 2).trans rfl, ((HB.out.cell (World.block_lt_of_cell? w _ hw192_0)).trans hw192_0), ((HB.out.cell (World.block_lt_of_cell? w _ hw192_1)).trans hw192_1), ((HB.out.cell (World.block_lt_of_cell? w _ hw192_2)).trans hw192_2), ((HB.out.cell (World.block_lt_of_cell? w _ hw192_3)).trans hw192_3), ((HB.out.cell (World.block_lt_of_cell? w _ hw192_4)).trans hw192_4), ((HB.out.cell (World.block_lt_of_cell? w _ hw193_0)).trans hw193_0), ((HB.out.cell (World.block_lt_of_cell? w _ hw193_1)).trans hw193_1), ((HB.out.cell (World.block_lt_of_cell? w _ hw193_2)).trans hw193_2), ((HB.out.cell (World.block_lt_of_cell? w _ hw193_3)).trans hw193_3), ((HB.out.cell (World.block_lt_of_cell? w _ hw193_4)).trans hw193_4)⟩ (fun hHeld => ?_)
      clear hK K
      refine norm_ (a' := ?_) ?_ ?_
      rotate_left
      ·show Act.put _ (some 5) _ = _
       simp only [Act.put, List.setIfInBounds_toArray, List.set_cons_zero, List.set_cons_succ, i64_w, i32_w]
       rfl
      exact norm_ (by simp only [putAll, Act.put, List.setIfInBounds_toArray, List.set_cons_zero, List.set_cons_succ]) (hCont (gb194, gb195) _ ⟨hHeld, (by (with_reducible repeat (first | refine blk_drewN ?_ _ | refine blk_drew ?_ | refine blk_alloc ?_ _)); exact BK191.out), (by (with_reducible repeat (first | refine blk_drewN ?_ _ | refine blk_drew ?_ | refine blk_alloc ?_ _)); exact BK194.out), (by (with_reducible repeat (first | refine blk_drewN ?_ _ | refine blk_drew ?_ | refine blk_alloc ?_ _)); exact BK195.out), GW194.out, GE194.out, NB191_194.out, NB194_191.out, NB195_194.out, NB194_195.out, GW195.out, GE195.out, NB191_195.out, NB195_191.out, bel⟩)
    rintro ⟨gb194, gb195⟩ w14 ⟨hS_, h0_, h1_, h2_, h3_, h4_, h5_, h6_, h7_, h8_, h9_, h10_, h11_, h12_, h13_⟩
    have n0_ : Aside0 (w14.heap[gb191]? = some (.cells #[.int .i64 a0_0, .int .i64 a0_1, .slice (some ad192) l0_2.length c0_2] 69 (0, 0))) := ⟨h0_⟩
    have n1_ : Aside0 (w14.heap[gb194]? = some (.cells #[.int .i64 0, .int .i64 0, .int .i64 0, .int .i64 0, .int .i64 0] 61 (0, 0))) := ⟨h1_⟩
    have n2_ : Aside0 (w14.heap[gb195]? = some (.cells #[.int .i64 0, .int .i64 0, .int .i64 0, .int .i64 0, .int .i64 0] 61 (0, 0))) := ⟨h2_⟩
    have n3_ : Aside0 (w.heap.size ≤ gb194) := ⟨h3_⟩
    have n4_ : Aside0 (w.heap.size ≤ gb194) := ⟨h4_⟩
    have n5_ : Aside0 (gb191 ≠ gb194) := ⟨h5_⟩
    have n6_ : Aside0 (gb194 ≠ gb191) := ⟨h6_⟩
    have n7_ : Aside0 (gb195 ≠ gb194) := ⟨h7_⟩
    have n8_ : Aside0 (gb194 ≠ gb195) := ⟨h8_⟩
    have n9_ : Aside0 (w.heap.size ≤ gb195) := ⟨h9_⟩
    have n10_ : Aside0 (w.heap.size ≤ gb195) := ⟨h10_⟩
    have n11_ : Aside0 (gb191 ≠ gb195) := ⟨h11_⟩
    have n12_ : Aside0 (gb195 ≠ gb191) := ⟨h12_⟩
    have n13_ : Aside0 (Below w.heap.size w w14) := ⟨h13_⟩
    clear BK191
    clear HB
    clear h0_ h1_ h2_ h3_ h4_ h5_ h6_ h7_ h8_ h9_ h10_ h11_ h12_ h13_
    have BK191 := n0_
    have BK194 := n1_
    have BK195 := n2_
    have GW194 := n3_
    have GE194 := n4_
    have NB191_194 := n5_
    have NB194_191 := n6_
    have NB195_194 := n7_
    have NB194_195 := n8_
    have GW195 := n9_
    have GE195 := n10_
    have NB191_195 := n11_
    have NB195_191 := n12_
    have HB := n13_
    clear n0_ n1_ n2_ n3_ n4_ n5_ n6_ n7_ n8_ n9_ n10_ n11_ n12_ n13_
    have hHeld : w14.cell? ⟨gb191, 0, none⟩ = some (.int .i64 a0_0) ∧ w14.cell? ⟨gb191, 1, none⟩ = some (.int .i64 a0_1) ∧ w14.cell? ⟨gb191, 2, none⟩ = some (.slice (some ad192) l0_2.length c0_2) ∧ w14.cell? ad192 = some (.int .i64 ((rd_T61 l0_2 0).f0)) ∧ w14.cell? ⟨ad192.block, ad192.off + 1, none⟩ = some (.int .i64 ((rd_T61 l0_2 0).f1)) ∧ w14.cell? ⟨ad192.block, ad192.off + 2, none⟩ = some (.int .i64 ((rd_T61 l0_2 0).f2.f0)) ∧ w14.cell? ⟨ad192.block, ad192.off + 3, none⟩ = some (.int .i64 ((rd_T61 l0_2 0).f2.f1)) ∧ w14.cell? ⟨ad192.block, ad192.off + 4, none⟩ = some (.int .i64 ((rd_T61 l0_2 0).f2.f2)) ∧ w14.cell? (ad192.add (((ji4)).toNat * 5)) = some (.int .i64 ((rd_T61 l0_2 (ji4)).f0)) ∧ w14.cell? ⟨(ad192.add (((ji4)).toNat * 5)).block, (ad192.add (((ji4)).toNat * 5)).off + 1, none⟩ = some (.int .i64 ((rd_T61 l0_2 (ji4)).f1)) ∧ w14.cell? ⟨(ad192.add (((ji4)).toNat * 5)).block, (ad192.add (((ji4)).toNat * 5)).off + 2, none⟩ = some (.int .i64 ((rd_T61 l0_2 (ji4)).f2.f0)) ∧ w14.cell? ⟨(ad192.add (((ji4)).toNat * 5)).block, (ad192.add (((ji4)).toNat * 5)).off + 3, none⟩ = some (.int .i64 ((rd_T61 l0_2 (ji4)).f2.f1)) ∧ w14.cell? ⟨(ad192.add (((ji4)).toNat * 5)).block, (ad192.add (((ji4)).toNat * 5)).off + 4, none⟩ = some (.int .i64 ((rd_T61 l0_2 (ji4)).f2.f2)) := hS_
    refine norm_ (a' := ?_) ?_ ?_
    rotate_left
    ·simp only [putAll, Act.put, List.setIfInBounds_toArray, List.set_cons_zero, List.set_cons_succ]
     rfl
    refine one_ (i := 14) (N := none) #[tt, tt, tt, tt, tt, tt, tt, tt, tt, tt, tt, tt, tt, tt, tt, ff] rfl rfl (one_of HT_.out (by kernel_rfl)) (by decide) (fun K hK => ?_)
    have hs15 : w14.cell? ⟨gb194, 0, none⟩ = some (.int .i64 0) := (blk_cell BK194.out 0).trans rfl
    have hfs15 := blk_frozen BK194.out 0
    have hns15_0 := NB191_194.out
    have hns15_2 := NB195_194.out
    have hms15_0 := NB194_191.out
    have hms15_2 := NB194_195.out
    have hs16 : w14.cell? ⟨gb194, 1, none⟩ = some (.int .i64 0) := (blk_cell BK194.out 1).trans rfl
    have hfs16 := blk_frozen BK194.out 1
    have hns16_0 := NB191_194.out
    have hns16_2 := NB195_194.out
    have hms16_0 := NB194_191.out
    have hms16_2 := NB194_195.out
    have hs17 : w14.cell? ⟨gb194, 2, none⟩ = some (.int .i64 0) := (blk_cell BK194.out 2).trans rfl
    have hfs17 := blk_frozen BK194.out 2
    have hns17_0 := NB191_194.out
    have hns17_2 := NB195_194.out
    have hms17_0 := NB194_191.out
    have hms17_2 := NB194_195.out
    have hs18 : w14.cell? ⟨gb194, 3, none⟩ = some (.int .i64 0) := (blk_cell BK194.out 3).trans rfl
    have hfs18 := blk_frozen BK194.out 3
    have hns18_0 := NB191_194.out
    have hns18_2 := NB195_194.out
    have hms18_0 := NB194_191.out
    have hms18_2 := NB194_195.out
    have hs19 : w14.cell? ⟨gb194, 4, none⟩ = some (.int .i64 0) := (blk_cell BK194.out 4).trans rfl
    have hfs19 := blk_frozen BK194.out 4
    have hns19_0 := NB191_194.out
    have hns19_2 := NB195_194.out
    have hms19_0 := NB194_191.out
    have hms19_2 := NB194_195.out
    refine skip_ (w1 := ?_) (by rfl) rfl ?_ ?_
    rotate_left
    ·go_simp
     rfl
    refine hK.out _ _ ⟨(cf5 NB191_194.out (hHeld.1)), (cf5 NB191_194.out (hHeld.2.1)), (cf5 NB191_194.out (hHeld.2.2.1)), (cf5 (fne hw192_0 GW194) (hHeld.2.2.2.1)), (cf5 (fne hw192_1 GW194) (hHeld.2.2.2.2.1)), (cf5 (fne hw192_2 GW194) (hHeld.2.2.2.2.2.1)), (cf5 (fne hw192_3 GW194) (hHeld.2.2.2.2.2.2.1)), (cf5 (fne hw192_4 GW194) (hHeld.2.2.2.2.2.2.2.1)), (cf5 (fne hw193_0 GW194) (hHeld.2.2.2.2.2.2.2.2.1)), (cf5 (fne hw193_1 GW194) (hHeld.2.2.2.2.2.2.2.2.2.1)), (cf5 (fne hw193_2 GW194) (hHeld.2.2.2.2.2.2.2.2.2.2.1)), (cf5 (fne hw193_3 GW194) (hHeld.2.2.2.2.2.2.2.2.2.2.2.1)), (cf5 (fne hw193_4 GW194) (hHeld.2.2.2.2.2.2.2.2.2.2.2.2))⟩ (fun hHeld => ?_)
    clear hK K
    refine one_ (i := 15) (N := none) #[tt, tt, tt, tt, tt, tt, tt, tt, tt, tt, tt, tt, tt, tt, tt, tt] rfl rfl (one_of HT_.out (by kernel_rfl)) (by decide) (fun K hK => ?_)
    have hs20 : w14.cell? ⟨gb195, 0, none⟩ = some (.int .i64 0) := (blk_cell BK195.out 0).trans rfl
    have hfs20 := blk_frozen BK195.out 0
    have hns20_0 := NB191_195.out
    have hns20_1 := NB194_195.out
    have hms20_0 := NB195_191.out
    have hms20_1 := NB195_194.out
    have hs21 : w14.cell? ⟨gb195, 1, none⟩ = some (.int .i64 0) := (blk_cell BK195.out 1).trans rfl
    have hfs21 := blk_frozen BK195.out 1
    have hns21_0 := NB191_195.out
    have hns21_1 := NB194_195.out
    have hms21_0 := NB195_191.out
    have hms21_1 := NB195_194.out
    have hs22 : w14.cell? ⟨gb195, 2, none⟩ = some (.int .i64 0) := (blk_cell BK195.out 2).trans rfl
    have hfs22 := blk_frozen BK195.out 2
    have hns22_0 := NB191_195.out
    have hns22_1 := NB194_195.out
    have hms22_0 := NB195_191.out
    have hms22_1 := NB195_194.out
    have hs23 : w14.cell? ⟨gb195, 3, none⟩ = some (.int .i64 0) := (blk_cell BK195.out 3).trans rfl
    have hfs23 := blk_frozen BK195.out 3
    have hns23_0 := NB191_195.out
    have hns23_1 := NB194_195.out
    have hms23_0 := NB195_191.out
    have hms23_1 := NB195_194.out
    have hs24 : w14.cell? ⟨gb195, 4, none⟩ = some (.int .i64 0) := (blk_cell BK195.out 4).trans rfl
    have hfs24 := blk_frozen BK195.out 4
    have hns24_0 := NB191_195.out
    have hns24_1 := NB194_195.out
    have hms24_0 := NB195_191.out
    have hms24_1 := NB195_194.out
    refine skip_ (w1 := ?_) (by rfl) rfl ?_ ?_
    rotate_left
    ·go_simp
     rfl
    refine hK.out _ _ ⟨(cf5 NB191_195.out (hHeld.1)), (cf5 NB191_195.out (hHeld.2.1)), (cf5 NB191_195.out (hHeld.2.2.1)), (cf5 (fne hw192_0 GW195) (hHeld.2.2.2.1)), (cf5 (fne hw192_1 GW195) (hHeld.2.2.2.2.1)), (cf5 (fne hw192_2 GW195) (hHeld.2.2.2.2.2.1)), (cf5 (fne hw192_3 GW195) (hHeld.2.2.2.2.2.2.1)), (cf5 (fne hw192_4 GW195) (hHeld.2.2.2.2.2.2.2.1)), (cf5 (fne hw193_0 GW195) (hHeld.2.2.2.2.2.2.2.2.1)), (cf5 (fne hw193_1 GW195) (hHeld.2.2.2.2.2.2.2.2.2.1)), (cf5 (fne hw193_2 GW195) (hHeld.2.2.2.2.2.2.2.2.2.2.1)), (cf5 (fne hw193_3 GW195) (hHeld.2.2.2.2.2.2.2.2.2.2.2.1)), (cf5 (fne hw193_4 GW195) (hHeld.2.2.2.2.2.2.2.2.2.2.2.2))⟩ (fun hHeld => ?_)
    clear hK K
    refine done_ (done_of HT_.out (by kernel_rfl)) ?_
    have hnb25 := NB191_194.out
    have hnc25 := NB194_191.out
    have hnb26 := NB191_195.out
    have hnc26 := NB195_191.out
    obtain ⟨hcz27_0, hcz27_1, hcz27_2, hfz27_0, hfz27_1, hfz27_2⟩ := cz3 BK191
    have hnb28 := NB194_195.out
    have hnc28 := NB195_194.out
    obtain ⟨hcz29_0, hcz29_1, hcz29_2, hcz29_3, hcz29_4, hfz29_0, hfz29_1, hfz29_2, hfz29_3, hfz29_4⟩ := cz5 BK194
    obtain ⟨hcz30_0, hcz30_1, hcz30_2, hcz30_3, hcz30_4, hfz30_0, hfz30_1, hfz30_2, hfz30_3, hfz30_4⟩ := cz5 BK195
    try go_wp2_with (first | ((with_reducible refine gate_callee (f := 46) rfl ?_); refine goesL_ (some 32) rfl rfl Try.func46 (by kernel_rfl) rfl #[.slice (some ad192) l0_2.length c0_2, .int .i64 ji8] rfl (by (try simp only [List.map_toArray, List.map_cons, List.map_nil]); first | done | (simp only [hji8]; rfl) | rfl | (simp only [List.length_drop, List.length_take]; rfl)) ?_; (with_reducible refine (curve_At.calls _ _ l0_2 ji8 t196 t197 _ ?side1 ?side2 A9.out).mono ?_); (case side1 => exact Kd.C_below HR0_2.out bel); (case side2 => exact HC0_2.out); rintro e w31 ⟨rfl, hb⟩; refine ⟨_, rfl, ?_⟩; replace BK191 := Aside0.mk (blk_below (g := gb191) (o := .cells #[.int .i64 a0_0, .int .i64 a0_1, .slice (some ad192) l0_2.length c0_2] 69 (0, 0)) (bkf BK191) hb); replace BK194 := Aside0.mk (blk_below (g := gb194) (o := .cells #[.int .i64 ((rd_T61 l0_2 0).f0), .int .i64 ((rd_T61 l0_2 0).f1), .int .i64 ((rd_T61 l0_2 0).f2.f0), .int .i64 ((rd_T61 l0_2 0).f2.f1), .int .i64 ((rd_T61 l0_2 0).f2.f2)] 61 (0, 0)) (by (with_reducible repeat (first | refine blk_drewN ?_ _ | refine blk_drew ?_ | refine blk_alloc ?_ _)); refine blk_far ?_ NB194_195.out _; (with_reducible repeat (first | refine blk_drewN ?_ _ | refine blk_drew ?_ | refine blk_alloc ?_ _)); refine blk_far ?_ NB194_195.out _; (with_reducible repeat (first | refine blk_drewN ?_ _ | refine blk_drew ?_ | refine blk_alloc ?_ _)); refine blk_far ?_ NB194_195.out _; (with_reducible repeat (first | refine blk_drewN ?_ _ | refine blk_drew ?_ | refine blk_alloc ?_ _)); refine blk_far ?_ NB194_195.out _; (with_reducible repeat (first | refine blk_drewN ?_ _ | refine blk_drew ?_ | refine blk_alloc ?_ _)); refine blk_far ?_ NB194_195.out _; (with_reducible repeat (first | refine blk_drewN ?_ _ | refine blk_drew ?_ | refine blk_alloc ?_ _)); refine blk_put (cs := #[.int .i64 ((rd_T61 l0_2 0).f0), .int .i64 ((rd_T61 l0_2 0).f1), .int .i64 ((rd_T61 l0_2 0).f2.f0), .int .i64 ((rd_T61 l0_2 0).f2.f1), .int .i64 0]) ?_ 4 _ rfl; (with_reducible repeat (first | refine blk_drewN ?_ _ | refine blk_drew ?_ | refine blk_alloc ?_ _)); refine blk_put (cs := #[.int .i64 ((rd_T61 l0_2 0).f0), .int .i64 ((rd_T61 l0_2 0).f1), .int .i64 ((rd_T61 l0_2 0).f2.f0), .int .i64 0, .int .i64 0]) ?_ 3 _ rfl; (with_reducible repeat (first | refine blk_drewN ?_ _ | refine blk_drew ?_ | refine blk_alloc ?_ _)); refine blk_put (cs := #[.int .i64 ((rd_T61 l0_2 0).f0), .int .i64 ((rd_T61 l0_2 0).f1), .int .i64 0, .int .i64 0, .int .i64 0]) ?_ 2 _ rfl; (with_reducible repeat (first | refine blk_drewN ?_ _ | refine blk_drew ?_ | refine blk_alloc ?_ _)); refine blk_put (cs := #[.int .i64 ((rd_T61 l0_2 0).f0), .int .i64 0, .int .i64 0, .int .i64 0, .int .i64 0]) ?_ 1 _ rfl; (with_reducible repeat (first | refine blk_drewN ?_ _ | refine blk_drew ?_ | refine blk_alloc ?_ _)); refine blk_put (cs := #[.int .i64 0, .int .i64 0, .int .i64 0, .int .i64 0, .int .i64 0]) ?_ 0 _ rfl; (with_reducible repeat (first | refine blk_drewN ?_ _ | refine blk_drew ?_ | refine blk_alloc ?_ _)); exact BK194.out) hb); replace BK195 := Aside0.mk (blk_below (g := gb195) (o := .cells #[.int .i64 ((rd_T61 l0_2 (ji4)).f0), .int .i64 ((rd_T61 l0_2 (ji4)).f1), .int .i64 ((rd_T61 l0_2 (ji4)).f2.f0), .int .i64 ((rd_T61 l0_2 (ji4)).f2.f1), .int .i64 ((rd_T61 l0_2 (ji4)).f2.f2)] 61 (0, 0)) (by (with_reducible repeat (first | refine blk_drewN ?_ _ | refine blk_drew ?_ | refine blk_alloc ?_ _)); refine blk_put (cs := #[.int .i64 ((rd_T61 l0_2 (ji4)).f0), .int .i64 ((rd_T61 l0_2 (ji4)).f1), .int .i64 ((rd_T61 l0_2 (ji4)).f2.f0), .int .i64 ((rd_T61 l0_2 (ji4)).f2.f1), .int .i64 0]) ?_ 4 _ rfl; (with_reducible repeat (first | refine blk_drewN ?_ _ | refine blk_drew ?_ | refine blk_alloc ?_ _)); refine blk_put (cs := #[.int .i64 ((rd_T61 l0_2 (ji4)).f0), .int .i64 ((rd_T61 l0_2 (ji4)).f1), .int .i64 ((rd_T61 l0_2 (ji4)).f2.f0), .int .i64 0, .int .i64 0]) ?_ 3 _ rfl; (with_reducible repeat (first | refine blk_drewN ?_ _ | refine blk_drew ?_ | refine blk_alloc ?_ _)); refine blk_put (cs := #[.int .i64 ((rd_T61 l0_2 (ji4)).f0), .int .i64 ((rd_T61 l0_2 (ji4)).f1), .int .i64 0, .int .i64 0, .int .i64 0]) ?_ 2 _ rfl; (with_reducible repeat (first | refine blk_drewN ?_ _ | refine blk_drew ?_ | refine blk_alloc ?_ _)); refine blk_put (cs := #[.int .i64 ((rd_T61 l0_2 (ji4)).f0), .int .i64 0, .int .i64 0, .int .i64 0, .int .i64 0]) ?_ 1 _ rfl; (with_reducible repeat (first | refine blk_drewN ?_ _ | refine blk_drew ?_ | refine blk_alloc ?_ _)); refine blk_put (cs := #[.int .i64 0, .int .i64 0, .int .i64 0, .int .i64 0, .int .i64 0]) ?_ 0 _ rfl; (with_reducible repeat (first | refine blk_drewN ?_ _ | refine blk_drew ?_ | refine blk_alloc ?_ _)); refine blk_far ?_ NB195_194.out _; (with_reducible repeat (first | refine blk_drewN ?_ _ | refine blk_drew ?_ | refine blk_alloc ?_ _)); refine blk_far ?_ NB195_194.out _; (with_reducible repeat (first | refine blk_drewN ?_ _ | refine blk_drew ?_ | refine blk_alloc ?_ _)); refine blk_far ?_ NB195_194.out _; (with_reducible repeat (first | refine blk_drewN ?_ _ | refine blk_drew ?_ | refine blk_alloc ?_ _)); refine blk_far ?_ NB195_194.out _; (with_reducible repeat (first | refine blk_drewN ?_ _ | refine blk_drew ?_ | refine blk_alloc ?_ _)); refine blk_far ?_ NB195_194.out _; (with_reducible repeat (first | refine blk_drewN ?_ _ | refine blk_drew ?_ | refine blk_alloc ?_ _)); exact BK195.out) hb); replace HB := hba hb; (try clear hb)))
    go_ret
    exact ⟨by first | rfl | (simp [errW_none, errW_some] <;> rfl) | (simp only [← hji4, ← hji7, ← hji8]; first | rfl | (simp [errW_none, errW_some] <;> rfl)) | (simp [*, errW_none, errW_some] <;> rfl), bel⟩
   ·rw [if_neg c6] at H
    exact absurd H (by simp)
  ·rw [if_neg c5] at H
   exact absurd H (by simp)
 ·rw [if_neg c3] at H
  exact absurd H (by simp)
def contract_Promised.f (a0_0 : Int) (a0_1 : Int) (l0_2 : List (S61)) (a1 : Int) : Option (Int × Int) := (contract_Valid.f a0_0 a0_1 l0_2).bind fun t199 => (if t199 = true then ((contract_isHeight.f a1).bind fun t200 => (if t200 = true then ((contract_promised.f a0_0 a0_1 l0_2 a1).bind fun t201 => (some (t201, 0))) else (some (0, 1)))) else (some (0, 1)))
set_option maxHeartbeats 8000000 in
set_option maxRecDepth 100000 in
theorem contract_Promised.calls (a0_0 : Int) (a0_1 : Int) (A0_2 : Option Addr) (c0_2 : Nat) (l0_2 : List (S61)) (a1 : Int) (r1 : Int) (r2 : Int) (w : World) (hr0_2 : Kd.C k61 w A0_2 l0_2.length l0_2) (hc0_2 : l0_2.length ≤ c0_2) (h : contract_Promised.f a0_0 a0_1 l0_2 a1 = some (r1, r2)) :
  Calls Try.prog 59 #[.agg #[.int .i64 a0_0, .int .i64 a0_1, .slice A0_2 l0_2.length c0_2], .int .i64 a1] w fun e w' => e = .returned (.tuple #[.int .i64 r1, .int .i64 r2]) ∧ Below w.heap.size w w' := by
 have hu69 := Try.underlying69
 have HR0_2 := Aside0.mk hr0_2
 have HC0_2 := Aside0.mk hc0_2
 clear hr0_2 hc0_2
 have HB := Aside0.mk (Below.refl w.heap.size w)
 have H := h
 unfold contract_Promised.f at H
 clear h
 replace H := Option.bind_eq_some_iff.mp H
 obtain ⟨t199, A30, H⟩ := H
 try dsimp only at H
 have A3 := Aside0.mk A30
 clear A30
 by_cases c4 : t199 = true
 ·subst c4
  rw [if_pos rfl] at H
  replace H := Option.bind_eq_some_iff.mp H
  obtain ⟨t200, A50, H⟩ := H
  try dsimp only at H
  have A5 := Aside0.mk A50
  clear A50
  by_cases c6 : t200 = true
  ·subst c6
   rw [if_pos rfl] at H
   replace H := Option.bind_eq_some_iff.mp H
   obtain ⟨t201, A70, H⟩ := H
   try dsimp only at H
   have A7 := Aside0.mk A70
   clear A70
   simp only [Option.some.injEq, Prod.mk.injEq] at H
   obtain ⟨rfl, rfl⟩ := H
   go_enter Try.func59, Try.ntmps59
   go_wp2_with (first | ((with_reducible refine gate_dst (N := 2) rfl ?_); refine box_event ?hg (N := 2) ?hd (cs := #[.int .i64 a0_0, .int .i64 a0_1, .slice A0_2 l0_2.length c0_2]) (t := 69) ?hr ?_; (case hd => rfl); (case hg => rfl); (case hr => first | (go_simp; done) | (go_simp; rfl)); intro gb198 hg w8 hbox hb; have BK198 := Aside0.mk (hbox); have GW198 := gwa w hg; have GE198 := gwa w hg; replace HB := hba hb; clear hb hbox hg; obtain ⟨hcz9_0, hcz9_1, hcz9_2, hfz9_0, hfz9_1, hfz9_2⟩ := cz3 BK198) | ((with_reducible refine gate_callee (f := 61) rfl ?_); refine goesL_ (some 7) rfl rfl Try.func61 (by kernel_rfl) rfl #[.agg #[.int .i64 a0_0, .int .i64 a0_1, .slice A0_2 l0_2.length c0_2]] rfl gla ?_; (with_reducible refine (contract_Valid.calls a0_0 a0_1 _ _ l0_2 true _ ?side1 ?side2 A3.out).mono ?_); (case side1 => repeat (first | exact (Kd.C_below HR0_2.out HB.out) | (with_reducible refine Kd.C_alloc ?_ _) | (with_reducible refine Kd.C_drewN ?_ _) | (with_reducible refine Kd.C_drew ?_))); (case side2 => exact HC0_2.out); rintro e w10 ⟨rfl, hb⟩; refine ⟨_, rfl, ?_⟩; replace BK198 := bka BK198 hb; replace HB := hba hb; (try clear hb)) | (go_at_call 98; (with_reducible refine (contract_isHeight.calls a1 true _ A5.out).mono ?_); rintro e w' ⟨rfl, ⟨nd, rfl⟩⟩; obtain ⟨hcz11_0, hcz11_1, hcz11_2, hfz11_0, hfz11_1, hfz11_2⟩ := cz3 BK198) | ((with_reducible refine gate_callee (f := 99) rfl ?_); refine goesL_ (some 16) rfl rfl Try.func99 (by kernel_rfl) rfl #[.agg #[.int .i64 a0_0, .int .i64 a0_1, .slice A0_2 l0_2.length c0_2], .int .i64 a1] rfl gla ?_; (with_reducible refine (contract_promised.calls a0_0 a0_1 _ _ l0_2 a1 t201 _ ?side1 ?side2 A7.out).mono ?_); (case side1 => repeat (first | exact (Kd.C_below HR0_2.out bel) | (with_reducible refine Kd.C_alloc ?_ _) | (with_reducible refine Kd.C_drewN ?_ _) | (with_reducible refine Kd.C_drew ?_))); (case side2 => exact HC0_2.out); rintro e w12 ⟨rfl, hb⟩; refine ⟨_, rfl, ?_⟩; replace BK198 := bka BK198 hb; replace HB := hba hb; (try clear hb)))
   go_ret2
   exact ⟨by first | rfl | (simp [errW_none, errW_some] <;> rfl) | (simp [*, errW_none, errW_some] <;> rfl), bel⟩
  ·replace c6 := Bool.eq_false_iff.mpr c6
   subst c6
   rw [if_neg (show ¬ (false = true) by decide)] at H
   simp only [Option.some.injEq, Prod.mk.injEq] at H
   obtain ⟨rfl, rfl⟩ := H
   go_enter Try.func59, Try.ntmps59
   go_wp2_with (first | ((with_reducible refine gate_dst (N := 2) rfl ?_); refine box_event ?hg (N := 2) ?hd (cs := #[.int .i64 a0_0, .int .i64 a0_1, .slice A0_2 l0_2.length c0_2]) (t := 69) ?hr ?_; (case hd => rfl); (case hg => rfl); (case hr => first | (go_simp; done) | (go_simp; rfl)); intro gb198 hg w13 hbox hb; have BK198 := Aside0.mk (hbox); have GW198 := gwa w hg; have GE198 := gwa w hg; replace HB := hba hb; clear hb hbox hg; obtain ⟨hcz14_0, hcz14_1, hcz14_2, hfz14_0, hfz14_1, hfz14_2⟩ := cz3 BK198) | ((with_reducible refine gate_callee (f := 61) rfl ?_); refine goesL_ (some 7) rfl rfl Try.func61 (by kernel_rfl) rfl #[.agg #[.int .i64 a0_0, .int .i64 a0_1, .slice A0_2 l0_2.length c0_2]] rfl gla ?_; (with_reducible refine (contract_Valid.calls a0_0 a0_1 _ _ l0_2 true _ ?side1 ?side2 A3.out).mono ?_); (case side1 => repeat (first | exact (Kd.C_below HR0_2.out HB.out) | (with_reducible refine Kd.C_alloc ?_ _) | (with_reducible refine Kd.C_drewN ?_ _) | (with_reducible refine Kd.C_drew ?_))); (case side2 => exact HC0_2.out); rintro e w15 ⟨rfl, hb⟩; refine ⟨_, rfl, ?_⟩; replace BK198 := bka BK198 hb; replace HB := hba hb; (try clear hb)) | (go_at_call 98; (with_reducible refine (contract_isHeight.calls a1 false _ A5.out).mono ?_); rintro e w' ⟨rfl, ⟨nd, rfl⟩⟩))
   go_ret2
   exact ⟨by first | rfl | (simp [errW_none, errW_some] <;> rfl) | (simp [*, errW_none, errW_some] <;> rfl), bel⟩
 ·replace c4 := Bool.eq_false_iff.mpr c4
  subst c4
  rw [if_neg (show ¬ (false = true) by decide)] at H
  simp only [Option.some.injEq, Prod.mk.injEq] at H
  obtain ⟨rfl, rfl⟩ := H
  go_enter Try.func59, Try.ntmps59
  go_wp2_with (first | ((with_reducible refine gate_dst (N := 2) rfl ?_); refine box_event ?hg (N := 2) ?hd (cs := #[.int .i64 a0_0, .int .i64 a0_1, .slice A0_2 l0_2.length c0_2]) (t := 69) ?hr ?_; (case hd => rfl); (case hg => rfl); (case hr => first | (go_simp; done) | (go_simp; rfl)); intro gb198 hg w16 hbox hb; have BK198 := Aside0.mk (hbox); have GW198 := gwa w hg; have GE198 := gwa w hg; replace HB := hba hb; clear hb hbox hg; obtain ⟨hcz17_0, hcz17_1, hcz17_2, hfz17_0, hfz17_1, hfz17_2⟩ := cz3 BK198) | ((with_reducible refine gate_callee (f := 61) rfl ?_); refine goesL_ (some 7) rfl rfl Try.func61 (by kernel_rfl) rfl #[.agg #[.int .i64 a0_0, .int .i64 a0_1, .slice A0_2 l0_2.length c0_2]] rfl gla ?_; (with_reducible refine (contract_Valid.calls a0_0 a0_1 _ _ l0_2 false _ ?side1 ?side2 A3.out).mono ?_); (case side1 => repeat (first | exact (Kd.C_below HR0_2.out HB.out) | (with_reducible refine Kd.C_alloc ?_ _) | (with_reducible refine Kd.C_drewN ?_ _) | (with_reducible refine Kd.C_drew ?_))); (case side2 => exact HC0_2.out); rintro e w18 ⟨rfl, hb⟩; refine ⟨_, rfl, ?_⟩; replace BK198 := bka BK198 hb; replace HB := hba hb; (try clear hb)))
  go_ret2
  exact ⟨by first | rfl | (simp [errW_none, errW_some] <;> rfl) | (simp [*, errW_none, errW_some] <;> rfl), bel⟩
end Go.Proofs.Ytjpghfjaloglhaa.PContract

