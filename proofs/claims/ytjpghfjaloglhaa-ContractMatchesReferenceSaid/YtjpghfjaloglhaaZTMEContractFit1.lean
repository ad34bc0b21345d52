import Derived.RangeFuncNested
import Derived.RangeFuncBound
import Derived.RangeFuncCalls
import Derived.RangeFuncLeaves
import Derived.Shelf.Abstract
import Derived.Shelf.RegionOpen
import Derived.WalkKit
import Derived.OwnWalkIn
import Derived.TacticsInMore
import Derived.LoopNIn
import Derived.LoopIn
import Derived.Lib.Hide
import Derived.IntWalk
import Derived.Outline
import Derived.Test.YtjpghfjaloglhaaZTMQuotM
import Derived.Test.YtjpghfjaloglhaaZTMPContractx0
import Derived.Test.YtjpghfjaloglhaaZTMPContractx3
import Derived.Test.YtjpghfjaloglhaaZTMPContractx4
import Derived.Test.YtjpghfjaloglhaaZTMPContractx5
/-
The closure that produces the candidates of quot.Fit: it yields the candidates for A in order, for every loop body that keeps what the closure reads.
Conditions: from 1 to 4000 values, each a coordinate, and a D from 1 to 16.
-/
namespace Go.Proofs.Ytjpghfjaloglhaa.PContract
open Go.RowKit Go.Shelf Go.Proofs.YtjpghfjaloglhaaW.PrintWords Go.Proofs.YtjpghfjaloglhaaW.PrintLast Go.Proofs.YtjpghfjaloglhaaW.PrintMore
set_option linter.unusedVariables false
set_option linter.unusedSimpArgs false
attribute [local go_sem] Oper.semAt_some
def KpC (n₀ Bv Bd : Nat) (W W' : World) : Prop := Below n₀ W W' ∧ W'.heap[Bv]? = W.heap[Bv]? ∧ W'.heap[Bd]? = W.heap[Bd]?
def upTo (lo : Int) (k : Nat) : List Int := ((List.range k).map fun (i : Nat) => lo + (i : Int)).filter fun a => decide (Q.Coord a)
theorem upTo_yes {lo : Int} {k : Nat} (h : Q.Coord (lo + k)) : upTo lo (k + 1) = upTo lo k ++ [lo + k] := by
 unfold upTo
 rw [List.range_succ, List.map_append, List.filter_append]
 simp [h]
theorem upTo_no {lo : Int} {k : Nat} (h : ¬ Q.Coord (lo + k)) : upTo lo (k + 1) = upTo lo k := by
 unfold upTo
 rw [List.range_succ, List.map_append, List.filter_append]
 simp [h]
theorem upTo_len (lo : Int) (k : Nat) : (upTo lo k).length ≤ k := by
 unfold upTo
 exact Nat.le_trans (List.length_filter_le _ _) (by simp)
theorem upTo_prefix (lo : Int) (k : Nat) : ∀ j : Nat, upTo lo k <+: upTo lo (k + j)
 | 0 => List.prefix_refl _
 | j + 1 => by
  refine (upTo_prefix lo k j).trans ?_
  rw [← Nat.add_assoc]
  by_cases c : Q.Coord (lo + ((k + j : Nat) : Int))
  ·rw [upTo_yes c]
   exact List.prefix_append _ _
  ·rw [upTo_no c]
   exact List.prefix_refl _
theorem cands_upTo {vs : List Int} {d lo hi : Int} (h2 : 2 ≤ vs.length) (hlo : Q.loA vs d = lo) (hhi : Q.hiA vs d = hi) : Q.cands vs d = upTo lo (hi + 1 - lo).toNat := by
 unfold Q.cands
 rw [if_neg (by omega), hlo, hhi]
 rfl
theorem cell_of_heap {W W' : World} {b : Nat} (h : W'.heap[b]? = W.heap[b]?) (o : Nat) : W'.cell? ⟨b, o, none⟩ = W.cell? ⟨b, o, none⟩ := by
 unfold World.cell?
 rw [h]
theorem floor_f {a d : Int} (h1 : 1 ≤ d ∧ d ≤ 1000000) (h2 : -1000000000000 ≤ a ∧ a ≤ 1000000000000) : quot_floor.f a d = some (a / d) := by
 unfold quot_floor.f
 have w1 : ∀ x : Int, -9000000000000000000 ≤ x → x ≤ 9000000000000000000 → wrap64 x = x := fun x _ _ => by unfold wrap64; omega
 by_cases c : a < 0
 ·rw [if_pos c, if_neg (by omega)]
  rw [w1 (-a) (by omega) (by omega), w1 (-a + d) (by omega) (by omega), w1 (-a + d - 1) (by omega) (by omega)]
  rw [Int.tdiv_eq_ediv_of_nonneg (by omega)]
  have hq : (-a + d - 1) / d = -(a / d) := by
   have h3 := Int.mul_ediv_add_emod a d
   have h4 := Int.emod_nonneg a (show d ≠ 0 by omega)
   have h5 := Int.emod_lt_of_pos a (show 0 < d by omega)
   apply Int.le_antisymm
   ·have : (-a + d - 1) / d < -(a / d) + 1 := by
     rw [Int.ediv_lt_iff_lt_mul (by omega), Int.add_mul, Int.neg_mul, Int.mul_comm (a / d) d]
     omega
    omega
   ·rw [Int.le_ediv_iff_mul_le (by omega), Int.neg_mul, Int.mul_comm (a / d) d]
    omega
  rw [hq]
  have hb : -1000000000000 ≤ a / d ∧ a / d ≤ 0 := by
   refine ⟨?_, ?_⟩
   ·rw [Int.le_ediv_iff_mul_le (by omega)]
    have : -1000000000000 * d ≤ -1000000000000 := by omega
    omega
   ·have : a / d < 1 := by
     rw [Int.ediv_lt_iff_lt_mul (by omega)]
     omega
    omega
  rw [w1 (-(a / d)) (by omega) (by omega), Int.neg_neg, w1 _ (by omega) (by omega)]
 ·rw [if_neg c, if_neg (by omega)]
  rw [Int.tdiv_eq_ediv_of_nonneg (by omega)]
  have hb : 0 ≤ a / d ∧ a / d ≤ a := ⟨Int.ediv_nonneg (by omega) (by omega), Int.ediv_le_self _ (by omega)⟩
  rw [w1 _ (by omega) (by omega)]
theorem coord_f (a : Int) : quot_isCoord.f a = some (decide (Q.Coord a)) := by
 unfold quot_isCoord.f Q.Coord
 by_cases c : -1000000000 ≤ a <;> simp [c]
theorem isCoord_yes (a : Int) (w : World) (h : Q.Coord a) : Calls Try.prog 70 #[.int .i64 a] w fun e w' => e = .returned (.bool true) ∧ w = w' := by
 obtain ⟨h1, h2⟩ := h
 go_enter Try.func70, Try.ntmps70
 go_wp2
 go_ret
 exact ⟨rfl, rfl⟩
theorem isCoord_no (a : Int) (w : World) (h : ¬ Q.Coord a) : Calls Try.prog 70 #[.int .i64 a] w fun e w' => e = .returned (.bool false) ∧ w = w' := by
 unfold Q.Coord at h
 by_cases h1 : -1000000000 ≤ a
 ·have h2 : decide (a ≤ 1000000000) = false := by simp; omega
  clear h
  go_enter Try.func70, Try.ntmps70
  go_wp2
  go_ret
  exact ⟨rfl, rfl⟩
 ·have h2 : decide (-1000000000 ≤ a) = false := by simp; omega
  clear h h1
  go_enter Try.func70, Try.ntmps70
  go_wp2
  go_ret
  exact ⟨rfl, rfl⟩
def CandPost (cs : List Int) (J Jx : List Int → World → Prop) (e : Ending) (W' : World) : Prop :=
 (∃ v, e = .returned v) ∧ ((∃ ys, ys = cs ∧ J ys W') ∨ (∃ pre, pre <+: cs ∧ Jx pre W'))
set_option maxRecDepth 100000 in
set_option maxHeartbeats 400000 in
theorem cands1 (n : Nat) (hn : 1 ≤ n) (l Bv Bd n₀ : Nat) (A : Option Addr) (c : Nat) (vs : List Int) (d : Int) (hd : 1 ≤ d) (hd2 : d ≤ 16) (hl2 : 2 ≤ vs.length) (hl : vs.length ≤ 4000) (hco : ∀ x ∈ vs, Q.Coord x) (J Jx : List Int → World → Prop) (hJd : ∀ s X m, J s X → J s (World.drewN X m))
  (hY : ∀ pre x W, Q.Coord x → J pre W → pre.length < 1000000000000000 → YieldAt Fence.wide (n - 1) Try.prog l #[.agg #[.int .i64 x, .int .i64 0, .int .i64 d]] W fun e W' =>
   (e = .returned (.bool true) ∧ J (pre ++ [x]) W' ∧ KpC n₀ Bv Bd W W') ∨ (e = .returned (.bool false) ∧ Jx (pre ++ [x]) W'))
  (W : World) (hBv : W.cell? ⟨Bv, 0, none⟩ = some (.slice A vs.length c)) (hBd : W.cell? ⟨Bd, 0, none⟩ = some (.int .i64 d)) (hrow : Kd.C (Kd.int .i64) W A vs.length vs) (h0 : J [] W) :
  CallsIn Fence.wide n Try.prog 117 #[.func (.yield l) #[] #[], .pointer (some ⟨Bv, 0, none⟩), .pointer (some ⟨Bd, 0, none⟩)] W (CandPost (Q.cands vs d) J Jx) := by
 refine callsIn_of_wp Try.func117 rfl trivial ?_ rfl
 simp only [Try.ntmps117, List.size_toArray, List.length_cons, List.length_nil, Nat.reduceAdd, Nat.reduceSub, Array.replicate_succ, Array.replicate_zero, List.push_toArray, List.append_toArray, List.nil_append, List.cons_append]
 obtain ⟨ad, hA, hc0⟩ := Kd.at_int hrow 0 (by omega) (by omega)
 obtain ⟨ad', hA', hcn⟩ := Kd.at_int hrow ((vs.length : Int) - 1) (by omega) (by omega)
 obtain rfl : ad = ad' := by rw [hA] at hA'; exact Option.some.inj hA'
 subst hA
 clear hA'
 have hc0' : W.cell? ad = some (.int .i64 (rd vs 0)) := by simpa [Addr.add] using hc0
 clear hc0
 have hcn' : W.cell? (ad.add (vs.length - 1)) = some (.int .i64 (rd vs ((vs.length : Int) - 1))) := by
  rw [show ((vs.length : Int) - 1).toNat = vs.length - 1 by omega] at hcn
  exact hcn
 clear hcn
 have b0 : Q.Coord (rd vs 0) := hco _ (by unfold rd; rw [List.getD_eq_getElem?_getD, List.getElem?_eq_getElem (by simp; omega)]; simp)
 have bn : Q.Coord (rd vs ((vs.length : Int) - 1)) := hco _ (by unfold rd; rw [List.getD_eq_getElem?_getD, List.getElem?_eq_getElem (by omega)]; simp)
 unfold Q.Coord at b0 bn
 have hr0 : Q.rise vs d = d * (rd vs ((vs.length : Int) - 1) - rd vs 0) := by
  unfold Q.rise rd
  rw [show ((vs.length : Int) - 1).toNat = vs.length - 1 by omega]
  rfl
 generalize rd vs 0 = x0 at *
 generalize rd vs ((vs.length : Int) - 1) = xn at *
 obtain ⟨b01, b02⟩ := b0
 obtain ⟨bn1, bn2⟩ := bn
 have R1 : d * (xn - x0) ≤ d * 2000000000 := Int.mul_le_mul_of_nonneg_left (by omega) (by omega)
 have R2 : d * (-2000000000) ≤ d * (xn - x0) := Int.mul_le_mul_of_nonneg_left (by omega) (by omega)
 have R3 : d * (xn - x0) ≤ 32000000000 := by omega
 have R4 : -32000000000 ≤ d * (xn - x0) := by omega
 clear R1 R2
 obtain ⟨R, hR⟩ : ∃ R, d * (xn - x0) = R := ⟨_, rfl⟩
 rw [hR] at R3 R4
 have hfl := floor_f (a := d - 1 - R) (d := (vs.length : Int) - 1) (by omega) (by omega)
 have hrise : Q.rise vs d = R := by rw [hr0, hR]
 clear hr0
 obtain ⟨q, hq⟩ : ∃ q, (d - 1 - R) / ((vs.length : Int) - 1) = q := ⟨_, rfl⟩
 obtain ⟨h, hh⟩ : ∃ h, (R + d - 1) / ((vs.length : Int) - 1) = h := ⟨_, rfl⟩
 have hlo : Q.loA vs d = -q := by unfold Q.loA; rw [hrise, hq]
 have hhi : Q.hiA vs d = h := by unfold Q.hiA; rw [hrise, hh]
 rw [hq] at hfl
 have q1 : q * ((vs.length : Int) - 1) ≤ d - 1 - R := (Int.le_ediv_iff_mul_le (by omega)).1 (by omega)
 have q2 : -33000000000 ≤ q := by rw [← hq, Int.le_ediv_iff_mul_le (by omega)]; omega
 have q3 : q ≤ 33000000000 := by
  have : q < 33000000000 := by rw [← hq, Int.ediv_lt_iff_lt_mul (by omega)]; omega
  omega
 have hle : ∀ a : Int, a ≤ h ↔ a * ((vs.length : Int) - 1) ≤ R + d - 1 := fun a => by rw [← hh]; exact Int.le_ediv_iff_mul_le (by omega)
 have hhb : h ≤ 33000000000 := by
  have : h < 33000000000 := by rw [← hh, Int.ediv_lt_iff_lt_mul (by omega)]; omega
  omega
 have hhq : -q ≤ h + 1 := by
  have h5 : ¬ (-q ≥ h + 2) := fun h6 => by
   have h7 : ¬ (-q - 1 ≤ h) := by omega
   rw [hle, Int.sub_mul, Int.neg_mul, Int.one_mul] at h7
   have h8 : ¬ (q + 1 ≤ q) := by omega
   have h9 : q + 1 ≤ q ↔ (q + 1) * ((vs.length : Int) - 1) ≤ d - 1 - R := by
    have := Int.le_ediv_iff_mul_le (a := q + 1) (b := d - 1 - R) (c := (vs.length : Int) - 1) (by omega)
    rw [hq] at this
    exact this
   rw [h9, Int.add_mul, Int.one_mul] at h8
   omega
  omega
 have hp9 : h * ((vs.length : Int) - 1) ≤ R + d - 1 := (hle h).1 (Int.le_refl _)
 have Hq := Lib.hid hq
 have Hh := Lib.hid hh
 have Hrs := Lib.hid hrise
 have Hlo := Lib.hid hlo
 have Hhi := Lib.hid hhi
 have Hle := Lib.hid hle
 clear hq hh hrise hlo hhi hle
 gi_wp2
 gi_region
 have Hr := Lib.hid hR
 clear hR
 gi_wp2
 refine ⟨trivial, ?_⟩
 (with_reducible refine (callsIn_wide.2 (quot_floor.calls _ _ _ _ hfl)).mono ?_)
 rintro e w1 ⟨rfl, ⟨n1, rfl⟩⟩
 gi_wp2
 gi_loopw [6] (fun a6 wr => ∃ (k : Nat) (a : Int), a6 = .int .i64 a ∧ Hid (a = -q + k) ∧ a ≤ h + 1 ∧ -q ≤ a ∧ J (upTo (-q) k) wr ∧ wr.cell? ⟨Bd, 0, none⟩ = some (.int .i64 d))
  (fun a6 _ => (h + 1 - intOf a6).toNat)
 case atStart => exact ⟨0, -q, rfl, Lib.hid (by simp), by omega, by omega, hJd _ _ _ h0, hBd⟩
 case round =>
  obtain ⟨k, a, rfl, Ha, ha1, ha2, hJs, hBd2⟩ := hrel
  have hp1 : -q * ((vs.length : Int) - 1) ≤ a * ((vs.length : Int) - 1) := Int.mul_le_mul_of_nonneg_right ha2 (by omega)
  rw [Int.neg_mul] at hp1
  have hp2 : a * ((vs.length : Int) - 1) ≤ 132000000000000 := by
   have := Int.mul_le_mul_of_nonneg_right ha1 (show 0 ≤ (vs.length : Int) - 1 by omega)
   rw [Int.add_mul, Int.one_mul] at this
   omega
  by_cases hlt : a ≤ h
  ·have hp3 := (Hle.out a).1 hlt
   by_cases hco2 : Q.Coord a
   ·obtain ⟨fn, tmps, assign, body, hy, hRd⟩ := hY _ a wr hco2 hJs (by have := upTo_len (-q) k; have := Ha.out; omega)
    gi_wp2_with (refine ⟨trivial, ?_⟩; (with_reducible refine (callsIn_wide.2 (isCoord_yes _ _ hco2)).mono ?_); rintro e w2 ⟨rfl, rfl⟩)
    refine hRd.mono ?_
    rintro e W3 (⟨rfl, hJ3, hk3⟩ | ⟨rfl, hJx3⟩)
    ·gi_wp2
     go_roundw
     case rel =>
      refine ⟨k + 1, a + 1, by go_num, Lib.hid (by rw [Ha.out]; omega), by omega, by omega, ?_, ?_⟩
      ·rw [upTo_yes (by rw [← Ha.out]; exact hco2), ← Ha.out]
       exact hJ3
      ·rw [cell_of_heap hk3.2.2]
       exact hBd2
     case measure => simp [intOf]; omega
    ·gi_wp2
     refine bodyPost_ret (results_none rfl _ _ _) rfl ?_
     refine ⟨⟨_, rfl⟩, .inr ⟨_, ?_, hJx3⟩⟩
     rw [cands_upTo hl2 Hlo.out Hhi.out]
     have hk := Ha.out
     have e1 : upTo (-q) k ++ [a] = upTo (-q) (k + 1) := by rw [upTo_yes (by rw [← hk]; exact hco2), ← hk]
     rw [e1]
     have e2 : (h + 1 - -q).toNat = k + 1 + (h - a).toNat := by omega
     rw [e2]
     exact upTo_prefix _ _ _
   ·gi_wp2_with (refine ⟨trivial, ?_⟩; (with_reducible refine (callsIn_wide.2 (isCoord_no _ _ hco2)).mono ?_); rintro e w2 ⟨rfl, rfl⟩)
    refine ⟨fun _ h => (by cases h), ?_⟩
    gi_wp2
    go_roundw
    case rel => exact ⟨k + 1, a + 1, by go_num, Lib.hid (by rw [Ha.out]; omega), by omega, by omega, by rw [upTo_no (by rw [← Ha.out]; exact hco2)]; exact hJs, hBd2⟩
    case measure => simp [intOf]; omega
  ·have hp4 : ¬ a * ((vs.length : Int) - 1) ≤ R + d - 1 := fun h5 => hlt ((Hle.out a).2 h5)
   have hp5 : R + d - 1 < a * ((vs.length : Int) - 1) := by omega
   gi_wp2
   go_end0
   exact ⟨⟨_, rfl⟩, .inl ⟨_, by rw [cands_upTo hl2 Hlo.out Hhi.out]; have hk := Ha.out; congr 1; omega, hJs⟩⟩
set_option maxRecDepth 100000 in
set_option maxHeartbeats 400000 in
theorem cands1_one (n : Nat) (hn : 1 ≤ n) (l Bv Bd n₀ : Nat) (A : Option Addr) (c : Nat) (vs : List Int) (d : Int) (hd : 1 ≤ d) (hd2 : d ≤ 16) (hl1 : vs.length = 1) (J Jx : List Int → World → Prop)
  (hY : ∀ pre x W, Q.Coord x → J pre W → pre.length < 1000000000000000 → YieldAt Fence.wide (n - 1) Try.prog l #[.agg #[.int .i64 x, .int .i64 0, .int .i64 d]] W fun e W' =>
   (e = .returned (.bool true) ∧ J (pre ++ [x]) W' ∧ KpC n₀ Bv Bd W W') ∨ (e = .returned (.bool false) ∧ Jx (pre ++ [x]) W'))
  (W : World) (hBv : W.cell? ⟨Bv, 0, none⟩ = some (.slice A 1 c)) (hBd : W.cell? ⟨Bd, 0, none⟩ = some (.int .i64 d)) (h0 : J [] W) :
  CallsIn Fence.wide n Try.prog 117 #[.func (.yield l) #[] #[], .pointer (some ⟨Bv, 0, none⟩), .pointer (some ⟨Bd, 0, none⟩)] W (CandPost (Q.cands vs d) J Jx) := by
 refine callsIn_of_wp Try.func117 rfl trivial ?_ rfl
 simp only [Try.ntmps117, List.size_toArray, List.length_cons, List.length_nil, Nat.reduceAdd, Nat.reduceSub, Array.replicate_succ, Array.replicate_zero, List.push_toArray, List.append_toArray, List.nil_append, List.cons_append]
 have hcs : Q.cands vs d = [0] := by unfold Q.cands; rw [if_pos hl1]
 have Hcs := Lib.hid hcs
 clear hcs hl1
 obtain ⟨fn, tmps, assign, body, hy, hRd⟩ := hY [] 0 W (by unfold Q.Coord; omega) h0 (by simp)
 gi_wp2
 refine hRd.mono ?_
 rintro e W3 (⟨rfl, hJ3, hk3⟩ | ⟨rfl, hJx3⟩)
 ·gi_wp2
  refine bodyPost_ret (results_none rfl _ _ _) rfl ?_
  exact ⟨⟨_, rfl⟩, .inl ⟨_, Hcs.out.symm, hJ3⟩⟩
 ·gi_wp2
  refine bodyPost_ret (results_none rfl _ _ _) rfl ?_
  exact ⟨⟨_, rfl⟩, .inr ⟨[0], by rw [Hcs.out]; exact List.prefix_refl _, hJx3⟩⟩
theorem abides_drewN {β : Type} {B : Nat} {J : β → World → Prop} (h : AbidesFrom B J) (s : β) (X : World) (m : Nat) (hs : J s X) : J s (X.drewN m) :=
 h s X _ none hs (grown_of_below (pw_below_drewN (Below.refl _ _) m) none) (fun r e => by cases e)
abbrev CI := { x : Int // Q.Coord x }
theorem cands_stops (n : Nat) (hn : 1 ≤ n) (Bv Bd n₀ : Nat) (A : Option Addr) (c : Nat) (vs : List Int) (d : Int) (hd : 1 ≤ d) (hd2 : d ≤ 16) (hl1 : 1 ≤ vs.length) (hl : vs.length ≤ 4000) (hco : ∀ x ∈ vs, Q.Coord x) (w : World)
  (hv : Bv < w.heap.size) (hdd : Bd < w.heap.size) (hBv : w.cell? ⟨Bv, 0, none⟩ = some (.slice A vs.length c)) (hBd : w.cell? ⟨Bd, 0, none⟩ = some (.int .i64 d)) (hrow : Kd.C (Kd.int .i64) w A vs.length vs) :
  SeqStopsK Fence.wide n Try.prog 117 #[.pointer (some ⟨Bv, 0, none⟩), .pointer (some ⟨Bd, 0, none⟩)] (fun x : CI => #[Value.agg #[.int .i64 x.1, .int .i64 0, .int .i64 d]]) (KpC n₀ Bv Bd)
   (fun ys => ys.map Subtype.val = Q.cands vs d) (fun pre => pre.map Subtype.val <+: Q.cands vs d) 1000000000000000 w := by
 intro l J Jx W hW hJ hJx hY h0
 have e1 := (hW.cell (p := ⟨Bv, 0, none⟩) hv).trans hBv
 have e2 := (hW.cell (p := ⟨Bd, 0, none⟩) hdd).trans hBd
 have hY2 : ∀ (pre : List Int) (x : Int) (X : World), Q.Coord x → (∃ p : List CI, p.map Subtype.val = pre ∧ J p X) → pre.length < 1000000000000000 →
   YieldAt Fence.wide (n - 1) Try.prog l #[.agg #[.int .i64 x, .int .i64 0, .int .i64 d]] X fun e W' =>
   (e = .returned (.bool true) ∧ (∃ p : List CI, p.map Subtype.val = pre ++ [x] ∧ J p W') ∧ KpC n₀ Bv Bd X W') ∨ (e = .returned (.bool false) ∧ (∃ p : List CI, p.map Subtype.val = pre ++ [x] ∧ Jx p W')) := by
  rintro pre x X hx ⟨p, rfl, hp⟩ hlen
  obtain ⟨fn, tmps, assign, body, hy, hR⟩ := hY p ⟨x, hx⟩ X hp (by simpa using hlen)
  refine ⟨fn, tmps, assign, body, hy, hR.mono ?_⟩
  rintro e W' (⟨h1, h2, h3⟩ | ⟨h1, h2⟩)
  ·exact .inl ⟨h1, ⟨p ++ [⟨x, hx⟩], by simp, h2⟩, h3⟩
  ·exact .inr ⟨h1, ⟨p ++ [⟨x, hx⟩], by simp, h2⟩⟩
 have h02 : ∃ p : List CI, p.map Subtype.val = [] ∧ J p W := ⟨[], rfl, h0⟩
 have hfin : ∀ e W', CandPost (Q.cands vs d) (fun l W => ∃ p : List CI, p.map Subtype.val = l ∧ J p W) (fun l W => ∃ p : List CI, p.map Subtype.val = l ∧ Jx p W) e W' →
   (∃ v, e = .returned v) ∧ ((∃ xs : List CI, xs.map Subtype.val = Q.cands vs d ∧ J xs W') ∨ (∃ pre : List CI, pre.map Subtype.val <+: Q.cands vs d ∧ Jx pre W')) := by
  rintro e W' ⟨hv, ⟨ys, rfl, p, hp1, hp2⟩ | ⟨pre, hpre, p, hp1, hp2⟩⟩
  ·exact ⟨hv, .inl ⟨p, hp1, hp2⟩⟩
  ·exact ⟨hv, .inr ⟨p, by rw [hp1]; exact hpre, hp2⟩⟩
 by_cases h1 : vs.length = 1
 ·rw [h1] at e1
  exact (cands1_one n hn l Bv Bd n₀ A c vs d hd hd2 h1 _ _ hY2 W e1 e2 h02).mono hfin
 ·exact (cands1 n hn l Bv Bd n₀ A c vs d hd hd2 (by omega) hl hco _ _ (fun s X m ⟨p, hp1, hp2⟩ => ⟨p, hp1, abides_drewN hJ p X m hp2⟩) hY2 W e1 e2 (Kd.C_below hrow hW) h02).mono hfin
theorem candidates_calls (A : Option Addr) (len c : Nat) (d : Int) (w : World) :
  Calls Try.prog 75 #[.slice A len c, .int .i64 d] w fun e w' => e = .returned (.func (.func 117) #[] #[.pointer (some ⟨w.heap.size, 0, none⟩), .pointer (some ⟨w.heap.size + 1, 0, none⟩)]) ∧
   w' = (w.alloc (.cells #[.slice A len c] 24)).alloc (.cells #[.int .i64 d] 3) := by
 go_enter Try.func75, Try.ntmps75
 go_wp2
 go_ret
 exact ⟨rfl, rfl⟩
end Go.Proofs.Ytjpghfjaloglhaa.PContract

