import Derived.WalkKit
import Derived.Lib.Hide
import Derived.RangeFuncBox
import Derived.OwnWalkIn
import Derived.Scope
import Derived.Laws.EntriesVeiled
import Derived.Test.YtjpghfjaloglhaaZTMEContractCurveM
import Derived.Test.YtjpghfjaloglhaaZTMPContractx0
import Derived.Test.YtjpghfjaloglhaaZTMPContractx3
/-
curve.values hands its yield the values of the parts in order; slices.Collect makes a row of them.
Conditions: the parts are within the limits that joined asks of each.
-/
namespace Go.Proofs.Ytjpghfjaloglhaa.PContract
open Go.RowKit Go.Shelf Go.Proofs.YtjpghfjaloglhaaW.PrintWords Go.Proofs.YtjpghfjaloglhaaW.PrintLast Go.Proofs.YtjpghfjaloglhaaW.PrintMore
set_option linter.unusedVariables false
set_option linter.unusedSimpArgs false
attribute [local go_sem] Oper.semAt_some
theorem floor_v {a d : Int} (h1 : 1 ≤ d ∧ d ≤ 1000000) (h2 : -100000000000000 ≤ a ∧ a ≤ 100000000000000) : quot_floor.f a d = some (a / d) := by
 unfold quot_floor.f
 by_cases c : a < 0
 ·rw [if_pos c, if_neg (by omega)]
  rw [wrap_in (x := -a) (by omega) (by omega), wrap_in (x := -a + d) (by omega) (by omega), wrap_in (x := -a + d - 1) (by omega) (by omega)]
  rw [Int.tdiv_eq_ediv_of_nonneg (by omega)]
  have hq : (-a + d - 1) / d = -(a / d) := by
   have h3 := Int.mul_ediv_add_emod a d
   have h4 := Int.emod_nonneg a (show d ≠ 0 by omega)
   have h5 := Int.emod_lt_of_pos a (show 0 < d by omega)
   apply Int.le_antisymm
   ·have : (-a + d - 1) / d < -(a / d) + 1 := by
     rw [Int.ediv_lt_iff_lt_mul (by omega), Int.add_mul, Int.neg_mul, Int.mul_comm (a / d) d]
     omega
    omega
   ·rw [Int.le_ediv_iff_mul_le (by omega), Int.neg_mul, Int.mul_comm (a / d) d]
    omega
  rw [hq]
  have hb : -100000000000000 ≤ a / d ∧ a / d ≤ 0 := by
   refine ⟨?_, ?_⟩
   ·rw [Int.le_ediv_iff_mul_le (by omega)]
    omega
   ·have : a / d < 1 := by
     rw [Int.ediv_lt_iff_lt_mul (by omega)]
     omega
    omega
  rw [wrap_in (x := -(a / d)) (by omega) (by omega), Int.neg_neg, wrap_in (by omega) (by omega)]
 ·rw [if_neg c, if_neg (by omega)]
  rw [Int.tdiv_eq_ediv_of_nonneg (by omega)]
  have hb : 0 ≤ a / d ∧ a / d ≤ a := ⟨Int.ediv_nonneg (by omega) (by omega), Int.ediv_le_self _ (by omega)⟩
  rw [wrap_in (by omega) (by omega)]
theorem qval_at {a b d n : Int} (h : (1 ≤ d ∧ d ≤ 16) ∧ Q.Coord a ∧ Q.Coord b) (hn : 0 ≤ n) (hn2 : n ≤ 4000) : quot_At.f a b d n = some ((a * n + b) / d, 0) := by
 have hv : quot_Valid.f a b d = some true := by
  unfold quot_Valid.f
  rw [if_pos h.1.1, if_pos h.1.2, coord_f, coord_f, decide_eq_true h.2.1, decide_eq_true h.2.2]
  rfl
 have hp : quot_isPlace.f n = some true := by
  unfold quot_isPlace.f
  rw [if_pos hn, decide_eq_true hn2]
 have ha := h.2.1
 have hb := h.2.2
 unfold Q.Coord at ha hb
 have h1 : a * n ≤ 4000000000000 := by
  have h1 : a * n ≤ 1000000000 * n := Int.mul_le_mul_of_nonneg_right (by omega) hn
  omega
 have h2 : -4000000000000 ≤ a * n := by
  have h1 : -1000000000 * n ≤ a * n := Int.mul_le_mul_of_nonneg_right (by omega) hn
  omega
 unfold quot_At.f quot_value.f
 rw [hv, hp]
 simp only [Option.bind_some, if_true]
 rw [wrap_in (x := a * n) (by omega) (by omega), wrap_in (x := a * n + b) (by omega) (by omega), floor_v (by omega) (by omega)]
 rfl
def cntOf (p : SP) : Nat := (p.f1 - p.f0).toNat
def valsP (p : SP) (m : Nat) : List Int := (List.range m).map fun (i : Nat) => qval p.f2 (i : Int)
theorem valsP_succ (p : SP) (m : Nat) : valsP p (m + 1) = valsP p m ++ [qval p.f2 (m : Int)] := by
 unfold valsP
 rw [List.range_succ, List.map_append]
 rfl
theorem valsOf_take (ps : List SP) (k : Nat) (hk : k < ps.length) : valsOf (ps.take (k + 1)) = valsOf (ps.take k) ++ valsP (rd_T61 ps (k : Int)) (cntOf (rd_T61 ps (k : Int))) := by
 have h1 : rd_T61 ps (k : Int) = ps[k] := by
  unfold rd_T61
  simp [hk]
 rw [h1, List.take_succ_eq_append_getElem hk]
 unfold valsOf valsP cntOf
 rw [List.flatMap_append, List.flatMap_singleton]
theorem valsP_pre (p : SP) {m n : Nat} (h : m ≤ n) : valsP p m <+: valsP p n := by
 induction n with
 | zero =>
  obtain rfl : m = 0 := by omega
  exact List.prefix_refl _
 | succ n ih =>
  by_cases e : m = n + 1
  ·rw [e]
   exact List.prefix_refl _
  ·rw [valsP_succ]
   exact (ih (by omega)).trans (List.prefix_append _ _)
theorem valsOf_pre (ps : List SP) (k : Nat) : valsOf (ps.take k) <+: valsOf ps := by
 have h : valsOf ps = valsOf (ps.take k) ++ valsOf (ps.drop k) := by
  unfold valsOf
  rw [← List.flatMap_append, List.take_append_drop]
 rw [h]
 exact List.prefix_append _ _
theorem vals_prefix (ps : List SP) (k : Nat) (hk : k < ps.length) {m : Nat} (hm : m ≤ cntOf (rd_T61 ps (k : Int))) : valsOf (ps.take k) ++ valsP (rd_T61 ps (k : Int)) m <+: valsOf ps := by
 refine List.IsPrefix.trans ?_ (valsOf_pre ps (k + 1))
 rw [valsOf_take ps k hk]
 exact List.prefix_append_right_inj _ |>.2 (valsP_pre _ hm)
def KpV (n₀ : Nat) (W W' : World) : Prop := Below n₀ W W' ∧ ∀ (k : Nat) (cs : Array Value), W.heap[k]? = some (.cells cs 61 (0, 0)) → W'.heap[k]? = some (.cells cs 61 (0, 0))
theorem kpv_t {n₀ : Nat} {X Y Z : World} (h : KpV n₀ X Y) (k : KpV n₀ Y Z) : KpV n₀ X Z := ⟨h.1.trans k.1, fun i cs e => k.2 i cs (h.2 i cs e)⟩
theorem kpv_b {n₀ : Nat} {w : World} (hn : n₀ ≤ w.heap.size) (W : World) (l : Nat) (o o' : Obj) (hl : w.heap.size ≤ l) (h : W.heap[l]? = some o) (a : o.isCells = false) (b : o.isWalk = false) : KpV n₀ W (W.putObj l o') :=
 ⟨belowK_b hn W l o o' hl h a b, fun k cs e => (World.putObj_heap_other (fun e' => by subst e'; rw [h] at e; cases e; cases a)).trans e⟩
def ValsPost (vs : List Int) (J Jx : List Int → World → Prop) (e : Ending) (W' : World) : Prop :=
 (∃ v, e = .returned v) ∧ ((∃ ys, ys = vs ∧ J ys W') ∨ (∃ pre, pre <+: vs ∧ Jx pre W'))
set_option maxRecDepth 100000 in
set_option maxHeartbeats 400000 in
theorem vals1 (n : Nat) (hn : 1 ≤ n) (l Bv N : Nat) (w₀ : World) (A : Option Addr) (c : Nat) (ps : List SP) (hok : ∀ p ∈ ps, okPart p = true) (J Jx : List Int → World → Prop) (hJb : ∀ s X Y, J s X → Below X.heap.size X Y → J s Y)
  (hY : ∀ pre x W, J pre W → pre.length < N → YieldAt Fence.wide (n - 1) Try.prog l #[.int .i64 x] W fun e W' =>
   (e = .returned (.bool true) ∧ J (pre ++ [x]) W' ∧ KpV w₀.heap.size W W') ∨ (e = .returned (.bool false) ∧ Jx (pre ++ [x]) W'))
  (hN : (valsOf ps).length ≤ N) (W : World) (hBv : W.cell? ⟨Bv, 0, none⟩ = some (.slice A ps.length c)) (hrow : Kd.C k61 w₀ A ps.length ps) (hW : Below w₀.heap.size w₀ W) (h0 : J [] W) :
  CallsIn Fence.wide n Try.prog 122 #[.func (.yield l) #[] #[], .pointer (some ⟨Bv, 0, none⟩)] W (ValsPost (valsOf ps) J Jx) := by
 have hl := hrow.2.1
 have hu61 := Try.underlying61
 have hu23 := Try.underlying23
 refine callsIn_of_wp Try.func122 rfl trivial ?_ rfl
 simp only [Try.ntmps122, List.size_toArray, List.length_cons, List.length_nil, Nat.reduceAdd, Nat.reduceSub, Array.replicate_succ, Array.replicate_zero, List.push_toArray, List.append_toArray, List.nil_append, List.cons_append]
 gi_wp2
 gi_loopw [10] (fun i wr => ∃ k : Nat, k ≤ ps.length ∧ i = .int .i64 k ∧ J (valsOf (ps.take k)) wr ∧ Below w₀.heap.size w₀ wr) (fun i _ => ps.length - (intOf i).toNat)
 case atStart => exact ⟨0, Nat.zero_le _, rfl, by simpa [valsOf] using h0, hW⟩
 case round =>
  obtain ⟨k, hk, rfl, hJs, hB⟩ := hrel
  by_cases hkm : k < ps.length
  ·obtain ⟨ad, rfl, x0, x1, x2, x3, x4⟩ := at_T61 (Kd.C_below hrow hB) (k : Int) (by omega) (by omega)
   rw [Int.toNat_natCast] at x0 x1 x2 x3 x4
   have hpre := fun m hm => vals_prefix ps k hkm (m := m) hm
   have hnx := valsOf_take ps k hkm
   have hp : okPart (rd_T61 ps (k : Int)) = true := hok _ (by unfold rd_T61; simp [hkm])
   have Hnx := Lib.hid hnx
   have Hpre := Lib.hid hpre
   clear hnx hpre
   generalize rd_T61 ps (k : Int) = p at *
   obtain ⟨hp1, hp2⟩ : ((1 ≤ p.f2.f2 ∧ p.f2.f2 ≤ 16) ∧ Q.Coord p.f2.f0 ∧ Q.Coord p.f2.f1) ∧ (0 ≤ p.f0 ∧ p.f0 < p.f1 ∧ p.f1 ≤ 4001) := by
    unfold okPart at hp
    simpa only [Bool.and_eq_true, decide_eq_true_eq] using hp
   clear hp
   have hcn : (p.f1 - p.f0) = (cntOf p : Int) := by unfold cntOf; omega
   have hcn2 : cntOf p ≤ 4001 := by unfold cntOf; omega
   generalize cntOf p = cn at *
   have hP0 := blk_new wr (.cells #[.int .i64 p.f0, .int .i64 p.f1, .int .i64 p.f2.f0, .int .i64 p.f2.f1, .int .i64 p.f2.f2] 61)
   have hJ0 := hJb _ _ _ hJs ((Below.refl _ _).alloc (Nat.le_refl _) (.cells #[.int .i64 p.f0, .int .i64 p.f1, .int .i64 p.f2.f0, .int .i64 p.f2.f1, .int .i64 p.f2.f2] 61))
   have hB0 := hB.alloc hB.size (.cells #[.int .i64 p.f0, .int .i64 p.f1, .int .i64 p.f2.f0, .int .i64 p.f2.f1, .int .i64 p.f2.f2] 61)
   have Hcn := Lib.hid hcn
   clear hcn
   gi_wp2
   clear x0 x1 x2 x3 x4
   gi_loopw [19] (fun j wi => ∃ m : Nat, m ≤ cn ∧ j = .int .i64 m ∧ J (valsOf (ps.take k) ++ valsP p m) wi ∧ Below w₀.heap.size w₀ wi ∧ wi.heap[wr.heap.size]? = some (.cells #[.int .i64 p.f0, .int .i64 p.f1, .int .i64 p.f2.f0, .int .i64 p.f2.f1, .int .i64 p.f2.f2] 61 (0, 0))) (fun j _ => cn - (intOf j).toNat)
   case atStart => exact ⟨0, Nat.zero_le _, rfl, by simpa [valsP] using hJ0, hB0, hP0⟩
   case round =>
    obtain ⟨m, hm, rfl, hJ2, hB2, hP2⟩ := hrel
    by_cases hmn : m < cn
    ·have hlt : decide ((m : Int) < p.f1 - p.f0) = true := decide_eq_true (by have := Hcn.out; omega)
     have c2 := (blk_cell hP2 2).trans rfl
     have c3 := (blk_cell hP2 3).trans rfl
     have c4 := (blk_cell hP2 4).trans rfl
     have hat := qval_at hp1 (n := (m : Int)) (by omega) (by omega)
     have hlen : (valsOf (ps.take k) ++ valsP p m).length < N := by
      have := (Hpre.out (m + 1) hmn).length_le
      rw [valsP_succ, ← List.append_assoc, List.length_append] at this
      simp only [List.length_cons, List.length_nil] at this
      omega
     have Hat := Lib.hid hat
     have Hlen := Lib.hid hlen
     clear hat hlen
     gi_wp2
     refine ⟨trivial, ?_⟩
     (with_reducible refine (callsIn_wide.2 (quot_At.calls _ _ _ _ _ _ _ Hat.out)).mono ?_)
     rintro e w2 ⟨rfl, hb2⟩
     have hP3 := blk_below hP2 hb2
     obtain ⟨fn, tmps, assign, body, hy, hRd⟩ := hY _ (qval p.f2 (m : Int)) w2 (hJb _ _ _ hJ2 hb2) Hlen.out
     change (Instr.yield l #[.int .i64 ((p.f2.f0 * (m : Int) + p.f2.f1) / p.f2.f2)]).run Try.prog w2 = _ at hy
     have hB3 := hB2.trans (hb2.mono hB2.size)
     gi_wp2
     refine hRd.mono ?_
     rintro e W3 (⟨rfl, hJ3, hk3⟩ | ⟨rfl, hJx3⟩)
     ·rw [List.append_assoc, ← valsP_succ] at hJ3
      gi_wp2
      go_roundw
      case rel => exact ⟨m + 1, by omega, by go_num, hJ3, hB3.trans hk3.1, hk3.2 _ _ hP3⟩
      case measure => simp [intOf]; omega
     ·rw [List.append_assoc, ← valsP_succ] at hJx3
      gi_wp2
      refine bodyPost_ret (results_none rfl _ _ _) rfl ?_
      exact ⟨⟨_, rfl⟩, .inr ⟨_, Hpre.out (m + 1) hmn, hJx3⟩⟩
    ·obtain rfl : m = cn := by omega
     have hlt : decide ((m : Int) < p.f1 - p.f0) = false := decide_eq_false (by have := Hcn.out; omega)
     gi_wp2
     go_roundw
     case rel => exact ⟨k + 1, by omega, by go_num, by rw [Hnx.out]; exact hJ2, hB2⟩
     case measure => simp [intOf]; omega
  ·obtain rfl : k = ps.length := by omega
   gi_wp2
   go_end0
   exact ⟨⟨_, rfl⟩, .inl ⟨_, rfl, by simpa using hJs⟩⟩
theorem vals_stops (n : Nat) (hn : 1 ≤ n) (Bv : Nat) (w₀ : World) (A : Option Addr) (c : Nat) (ps : List SP) (hok : ∀ p ∈ ps, okPart p = true) (w : World) (hv : Bv < w.heap.size)
  (hBv : w.cell? ⟨Bv, 0, none⟩ = some (.slice A ps.length c)) (hrow : Kd.C k61 w₀ A ps.length ps) (hW0 : Below w₀.heap.size w₀ w) :
  SeqStopsK Fence.wide n Try.prog 122 #[.pointer (some ⟨Bv, 0, none⟩)] (fun x : Int => #[Value.int .i64 x]) (KpV w₀.heap.size)
   (fun ys => ys = valsOf ps) (fun pre => pre <+: valsOf ps) (valsOf ps).length w := by
 intro l J Jx W hW hJ hJx hY h0
 exact vals1 n hn l Bv _ w₀ A c ps hok J Jx (fun s X Y hs hb => hJ s X Y none hs (grown_of_below hb none) (fun r e => by cases e)) hY (Nat.le_refl _) W ((hW.cell (p := ⟨Bv, 0, none⟩) hv).trans hBv) hrow (hW0.trans (hW.mono hW0.size)) h0
theorem values_calls (A : Option Addr) (len c : Nat) (w : World) :
  Calls Try.prog 85 #[.slice A len c] w fun e w' => e = .returned (.func (.func 122) #[] #[.pointer (some ⟨w.heap.size, 0, none⟩)]) ∧ w' = w.alloc (.cells #[.slice A len c] 51) := by
 go_enter Try.func85, Try.ntmps85
 go_wp2
 go_ret
 exact ⟨rfl, rfl⟩
theorem parts_kept {W w1 : World} {n₀ B : Nat} {v v' : Value} {k : Nat} {xs : List Value} {tmp : Obj} (hv : Boxed W B 24 v) (hrow : W.ownsRow n₀ 3 1 v k xs) (hgrow : (W.alloc tmp).grownBy w1 v.ownBlock) :
  ∀ (k : Nat) (cs : Array Value), W.heap[k]? = some (.cells cs 61 (0, 0)) → (w1.setCell ⟨B, 0, none⟩ v').heap[k]? = some (.cells cs 61 (0, 0)) := by
 intro k cs hk
 have hlt := blk_lt hk
 rw [Below.heap_setCell _ _ _ _ (fun e => by subst e; have := (show W.heap[_]? = _ from hv).symm.trans hk; simp at this)]
 rw [hgrow.block k (by simp; omega) (own_ne hrow hk (by decide)), Below.heap_alloc _ _ _ hlt]
 exact hk
theorem vinfo : (Try.prog.info? 3).map (fun i => (i.zero, i.size, i.bytes)) = some (some (.int .i64 0), 1, 8) := by kernel_rfl
set_option maxRecDepth 100000 in
set_option maxHeartbeats 400000 in
theorem append_in (n : Nat) (hn : 3 ≤ n) (Bv : Nat) (w₀ : World) (A : Option Addr) (c : Nat) (ps : List SP) (hok : ∀ p ∈ ps, okPart p = true) (hlen : (valsOf ps).length ≤ 1000000) (w : World) (hv : Bv < w.heap.size)
  (hBv : w.cell? ⟨Bv, 0, none⟩ = some (.slice A ps.length c)) (hrow : Kd.C k61 w₀ A ps.length ps) (hW0 : Below w₀.heap.size w₀ w) :
  CallsIn Fence.wide n Try.prog 121 #[.slice none 0 0, .func (.func 122) #[] #[.pointer (some ⟨Bv, 0, none⟩)]] w fun e W' =>
   ∃ v, e = .returned v ∧ W'.ownsRow w.heap.size 3 1 v (valsOf ps).length ((valsOf ps).map (Value.int .i64)) ∧ Below w.heap.size w W' := by
 have h1 : 1 ≤ n := by omega
 have hw0 := hW0.size
 obtain ⟨i0, hi, hz0, hz1, hz2⟩ := info_parts vinfo
 refine callsIn_of_wp_marks Try.func121 rfl trivial ?_ rfl
 simp only [Try.ntmps121, List.size_toArray, List.length_cons, List.length_nil, Nat.reduceAdd, Nat.reduceSub, Array.replicate_succ, Array.replicate_zero, List.push_toArray, List.append_toArray, List.nil_append, List.cons_append]
 have hBv2 : (w.alloc (.cells #[.slice none 0 0] 24)).cell? ⟨Bv, 0, none⟩ = some (.slice A ps.length c) := pw_cell_below ((Below.refl _ _).alloc (Nat.le_refl _) _) hBv
 gi_wp2
 have bO := Boxed.new w 24 (.slice none 0 0)
 have hB0 : Below w.heap.size w (w.alloc (.cells #[.slice none 0 0] 24)) := (Below.refl _ w).alloc (Nat.le_refl _) _
 refine wpIn_rangeFunc_ownG rfl h1 (gf := 122) (lb := #[.pointer (some ⟨Bv, 0, none⟩)]) rfl trivial (enters_of Try.func122 (by kernel_rfl) rfl)
  (vals_stops (n - 1) (by omega) Bv w₀ A c ps hok _ (by simp; omega) hBv2 hrow (hW0.alloc hw0 _)) kpv_t (kpv_b (by simp; omega)) (Below.refl _ _) (fun _ => rfl)
  (fun pre W => (∃ v, Boxed W w.heap.size 24 v ∧ W.ownsRow w.heap.size 3 1 v pre.length (pre.map (Value.int .i64)) ∧ True) ∧ Below w.heap.size w W)
  (fun _ _ _ => False)
  (OwnFrom.and (Own.from (holdsRow_own w.heap.size w.heap.size 24 3 1 (fun pre : List Int => pre.length) (fun pre => pre.map (Value.int .i64)) (fun _ _ => True)) _) (ownFrom_below (Nat.le_refl _) (by simp)))
  (fun _ _ _ _ _ hs _ _ => hs)
  ⟨⟨_, bO, World.ownsRow_nil _ _ _ _, trivial⟩, hB0⟩
  (fun x => { tmps := #[.slice none 0 0, .func (.func 122) #[] #[.pointer (some ⟨Bv, 0, none⟩)], .pointer (some ⟨w.heap.size, 0, none⟩), undef, .slice none 0 0, .int .i64 x, .func (.func 122) #[] #[.pointer (some ⟨Bv, 0, none⟩)], .int .i64 x, undef, undef, undef, undef, undef], defers := [] }) ?assign ?body ?done ?stop
 case assign =>
  intro l x W K hK
  gi_wp2
  exact hK
 case body =>
  rintro l pre x W ⟨⟨v, hv, hrow, _⟩, hB⟩ hlt
  have hc := hv.cell
  gi_wp2_with (gi_at_builtin; refine wpListIn_append_own _ rfl _ _ 24 rfl w.heap.size 3 i0 (.int .i64 0) 1 8 Try.underlying24 hi hz0 hz1 hz2 rfl (by decide) _ _ _ rfl (hrow.alloc _) ⟨W.heap.size, 0, none⟩ 1 1 [.int .i64 x] rfl rfl (cell_one_new _ _ _) (by simp [Value.oneCell']) (by have : maxLen = 9223372036854775807 := rfl; omega) (by omega) (by have := hB.size; simp; omega) ?_; intro v' w1 hown' hgrow _; obtain ⟨g', cap', rfl⟩ := ownsRow_succ hown'; obtain ⟨hv1, hv2, hr2, hk2, hb2⟩ := hv.appended (by decide) hrow hB.size (Nat.le_refl _) hown' hgrow; have hpk := parts_kept (v' := .slice (some ⟨g', 0, none⟩) (pre.length + 1) cap') hv hrow hgrow; have hc1 := hv1.cell; have hf1 := hv1.frozen)
  exact ⟨hk2.from _, ⟨hb2.mono hw0, hpk⟩, ⟨_, hv2, by simpa using hr2, trivial⟩, hB.trans hb2⟩
 case done =>
  rintro D ys W hD rfl ⟨⟨v, hv, hrow, _⟩, hB⟩ hK
  have hc := hv.cell
  gi_wp2
  refine ⟨by simp, .inl ⟨_, _, rfl, run_takeDeferred hK, ?_⟩⟩
  exact ⟨_, results_tmp rfl _ _ _, v, rfl, ownsRow_putObj hrow _ hK rfl, hB.trans (belowK_b (w := w) (Nat.le_refl _) W D _ _ (by simp at hD; omega) hK rfl rfl)⟩
 case stop =>
  rintro D c pre W _ _ h _
  exact h.elim
theorem collect_calls (Bv : Nat) (w₀ : World) (A : Option Addr) (c : Nat) (ps : List SP) (hok : ∀ p ∈ ps, okPart p = true) (hlen : (valsOf ps).length ≤ 1000000) (w : World) (hv : Bv < w.heap.size)
  (hBv : w.cell? ⟨Bv, 0, none⟩ = some (.slice A ps.length c)) (hrow : Kd.C k61 w₀ A ps.length ps) (hW0 : Below w₀.heap.size w₀ w) :
  Calls Try.prog 84 #[.func (.func 122) #[] #[.pointer (some ⟨Bv, 0, none⟩)]] w fun e w' =>
   ∃ v, e = .returned v ∧ Kd.R (Kd.int .i64) 3 w' w.heap.size (fun _ => True) v (valsOf ps) ∧ Below w.heap.size w w' := by
 have K := callsIn_wide.1 (append_in 9 (by omega) Bv w₀ A c ps hok hlen w hv hBv hrow hW0)
 go_enter Try.func84, Try.ntmps84
 go_wp2_with (go_at_call 121; (with_reducible refine K.mono ?_); rintro e w2 ⟨v, rfl, ho, hb⟩; obtain ⟨A2, c2, rfl⟩ := own_slice ho)
 go_ret
 exact ⟨_, rfl, Kd.R_of_own ho (fun _ _ => trivial), hb⟩
end Go.Proofs.Ytjpghfjaloglhaa.PContract

