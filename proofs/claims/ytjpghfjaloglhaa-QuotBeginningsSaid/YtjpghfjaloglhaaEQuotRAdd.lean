/-
formeref01.Add: what it returns.
Conditions: none.
-/
import Derived.WalkKit
import Derived.Lib.Hide
import Derived.IntWalk
import Derived.Test.YtjpghfjaloglhaaQuotM
import Derived.Test.YtjpghfjaloglhaaPQuotx0
import Derived.Test.YtjpghfjaloglhaaPQuotx4
namespace Go.Proofs.Ytjpghfjaloglhaa.PQuot
open Go.RowKit Go.Proofs.YtjpghfjaloglhaaW.PrintWords Go.Proofs.YtjpghfjaloglhaaW.PrintLast Go.Proofs.YtjpghfjaloglhaaW.PrintMore
set_option linter.unusedVariables false
set_option linter.unusedSimpArgs false

def formeref01_Add.f (a0_0 : Int) (a0_1 : Int) (a0_2 : Int) (a1 : Int) : Option (Int × Int × Int × Int) :=
  (formeref01_Valid.f a0_0 a0_1 a0_2).bind fun v => (formeref01_Coord.f a1).bind fun c =>
    if v = true then (if c = true then ((formeref01_Coord.f (wrap64 (a0_1 + wrap64 (a1 * a0_2)))).bind fun b => if b = true then some (a0_0, wrap64 (a0_1 + wrap64 (a1 * a0_2)), a0_2, 0) else some (0, 0, 0, 3)) else some (0, 0, 0, 1)) else some (0, 0, 0, 1)

set_option maxHeartbeats 400000 in
theorem radd_invalid (a0_0 : Int) (a0_1 : Int) (a0_2 : Int) (a1 : Int) (w : World) (hv : formeref01_Valid.f a0_0 a0_1 a0_2 = some false) :
    Calls Try.prog 29 #[.agg #[.int .i64 a0_0, .int .i64 a0_1, .int .i64 a0_2], .int .i64 a1] w fun e w' => e = .returned (.tuple #[.agg #[.int .i64 (0), .int .i64 (0), .int .i64 (0)], .int .i64 1]) ∧ Below w.heap.size w w' := by
  go_enter Try.func29, Try.ntmps29
  go_wp2_with (first
    | (go_at_call 27; (with_reducible refine (formeref01_Valid.calls a0_0 a0_1 a0_2 false _ hv).mono ?_); rintro e W1 ⟨rfl, hb⟩; have hq := blk_below (blk_alloc (blk_new w (.cells #[.int .i64 a0_0, .int .i64 a0_1, .int .i64 a0_2] 23)) (.cells #[.int .i64 0, .int .i64 0, .int .i64 0] 23)) hb; have hr := blk_below (blk_new (w.alloc (.cells #[.int .i64 a0_0, .int .i64 a0_1, .int .i64 a0_2] 23)) (.cells #[.int .i64 0, .int .i64 0, .int .i64 0] 23)) hb; rw [World.size_alloc] at hr; have q0 : W1.cell? ⟨w.heap.size, 0, none⟩ = some (.int .i64 a0_0) := (blk_cell hq 0).trans rfl; have r0 : W1.cell? ⟨w.heap.size + 1, 0, none⟩ = some (.int .i64 0) := (blk_cell hr 0).trans rfl; have f0 := blk_frozen hr 0; have q1 : W1.cell? ⟨w.heap.size, 1, none⟩ = some (.int .i64 a0_1) := (blk_cell hq 1).trans rfl; have r1 : W1.cell? ⟨w.heap.size + 1, 1, none⟩ = some (.int .i64 0) := (blk_cell hr 1).trans rfl; have f1 := blk_frozen hr 1; have q2 : W1.cell? ⟨w.heap.size, 2, none⟩ = some (.int .i64 a0_2) := (blk_cell hq 2).trans rfl; have r2 : W1.cell? ⟨w.heap.size + 1, 2, none⟩ = some (.int .i64 0) := (blk_cell hr 2).trans rfl; have f2 := blk_frozen hr 2))
  refine bodyPost_ret (results_ct rfl _ _ (w.heap.size + 1) 23 #[.int .i64 (0), .int .i64 (0), .int .i64 (0)] (0, 0) _ rfl ?_ Try.underlying23 rfl (by kernel_rfl)) rfl ⟨rfl, ?_⟩
  · (with_reducible repeat (first | refine blk_drewN ?_ _ | refine blk_drew ?_))
    exact blk_put (blk_put (blk_put hr 0 _ rfl) 1 _ rfl) 2 _ rfl
  · have hB := (((Below.refl w.heap.size w).alloc (Nat.le_refl _) (.cells #[.int .i64 a0_0, .int .i64 a0_1, .int .i64 a0_2] 23)).alloc (by simp) (.cells #[.int .i64 0, .int .i64 0, .int .i64 0] 23)).trans (hb.mono (by simp; omega))
    (repeat (first | exact hB | apply pw_below_drewN | apply below_drew1 | refine Below.setCell ?_ (by simp) _))

set_option maxHeartbeats 400000 in
theorem radd_by (a0_0 : Int) (a0_1 : Int) (a0_2 : Int) (a1 : Int) (w : World) (hv : formeref01_Valid.f a0_0 a0_1 a0_2 = some true) (hc : formeref01_Coord.f a1 = some false) :
    Calls Try.prog 29 #[.agg #[.int .i64 a0_0, .int .i64 a0_1, .int .i64 a0_2], .int .i64 a1] w fun e w' => e = .returned (.tuple #[.agg #[.int .i64 (0), .int .i64 (0), .int .i64 (0)], .int .i64 1]) ∧ Below w.heap.size w w' := by
  go_enter Try.func29, Try.ntmps29
  go_wp2_with (first
    | (go_at_call 27; (with_reducible refine (formeref01_Valid.calls a0_0 a0_1 a0_2 true _ hv).mono ?_); rintro e W1 ⟨rfl, hb⟩; have hq := blk_below (blk_alloc (blk_new w (.cells #[.int .i64 a0_0, .int .i64 a0_1, .int .i64 a0_2] 23)) (.cells #[.int .i64 0, .int .i64 0, .int .i64 0] 23)) hb; have hr := blk_below (blk_new (w.alloc (.cells #[.int .i64 a0_0, .int .i64 a0_1, .int .i64 a0_2] 23)) (.cells #[.int .i64 0, .int .i64 0, .int .i64 0] 23)) hb; rw [World.size_alloc] at hr; have q0 : W1.cell? ⟨w.heap.size, 0, none⟩ = some (.int .i64 a0_0) := (blk_cell hq 0).trans rfl; have r0 : W1.cell? ⟨w.heap.size + 1, 0, none⟩ = some (.int .i64 0) := (blk_cell hr 0).trans rfl; have f0 := blk_frozen hr 0; have q1 : W1.cell? ⟨w.heap.size, 1, none⟩ = some (.int .i64 a0_1) := (blk_cell hq 1).trans rfl; have r1 : W1.cell? ⟨w.heap.size + 1, 1, none⟩ = some (.int .i64 0) := (blk_cell hr 1).trans rfl; have f1 := blk_frozen hr 1; have q2 : W1.cell? ⟨w.heap.size, 2, none⟩ = some (.int .i64 a0_2) := (blk_cell hq 2).trans rfl; have r2 : W1.cell? ⟨w.heap.size + 1, 2, none⟩ = some (.int .i64 0) := (blk_cell hr 2).trans rfl; have f2 := blk_frozen hr 2)
    | (go_at_call 71; (with_reducible refine (formeref01_Coord.calls a1 false _ hc).mono ?_); rintro e w' ⟨rfl, ⟨nd, rfl⟩⟩))
  refine bodyPost_ret (results_ct rfl _ _ (w.heap.size + 1) 23 #[.int .i64 (0), .int .i64 (0), .int .i64 (0)] (0, 0) _ rfl ?_ Try.underlying23 rfl (by kernel_rfl)) rfl ⟨rfl, ?_⟩
  · (with_reducible repeat (first | refine blk_drewN ?_ _ | refine blk_drew ?_))
    exact blk_put (blk_put (blk_put hr 0 _ rfl) 1 _ rfl) 2 _ rfl
  · have hB := (((Below.refl w.heap.size w).alloc (Nat.le_refl _) (.cells #[.int .i64 a0_0, .int .i64 a0_1, .int .i64 a0_2] 23)).alloc (by simp) (.cells #[.int .i64 0, .int .i64 0, .int .i64 0] 23)).trans (hb.mono (by simp; omega))
    (repeat (first | exact hB | apply pw_below_drewN | apply below_drew1 | refine Below.setCell ?_ (by simp) _))

set_option maxHeartbeats 400000 in
theorem radd_range (a0_0 : Int) (a0_1 : Int) (a0_2 : Int) (a1 : Int) (w : World) (hv : formeref01_Valid.f a0_0 a0_1 a0_2 = some true) (hc : formeref01_Coord.f a1 = some true) (hd : formeref01_Coord.f (wrap64 (a0_1 + wrap64 (a1 * a0_2))) = some false) :
    Calls Try.prog 29 #[.agg #[.int .i64 a0_0, .int .i64 a0_1, .int .i64 a0_2], .int .i64 a1] w fun e w' => e = .returned (.tuple #[.agg #[.int .i64 (0), .int .i64 (0), .int .i64 (0)], .int .i64 3]) ∧ Below w.heap.size w w' := by
  go_enter Try.func29, Try.ntmps29
  go_wp2_with (first
    | (go_at_call 27; (with_reducible refine (formeref01_Valid.calls a0_0 a0_1 a0_2 true _ hv).mono ?_); rintro e W1 ⟨rfl, hb⟩; have hq := blk_below (blk_alloc (blk_new w (.cells #[.int .i64 a0_0, .int .i64 a0_1, .int .i64 a0_2] 23)) (.cells #[.int .i64 0, .int .i64 0, .int .i64 0] 23)) hb; have hr := blk_below (blk_new (w.alloc (.cells #[.int .i64 a0_0, .int .i64 a0_1, .int .i64 a0_2] 23)) (.cells #[.int .i64 0, .int .i64 0, .int .i64 0] 23)) hb; rw [World.size_alloc] at hr; have q0 : W1.cell? ⟨w.heap.size, 0, none⟩ = some (.int .i64 a0_0) := (blk_cell hq 0).trans rfl; have r0 : W1.cell? ⟨w.heap.size + 1, 0, none⟩ = some (.int .i64 0) := (blk_cell hr 0).trans rfl; have f0 := blk_frozen hr 0; have q1 : W1.cell? ⟨w.heap.size, 1, none⟩ = some (.int .i64 a0_1) := (blk_cell hq 1).trans rfl; have r1 : W1.cell? ⟨w.heap.size + 1, 1, none⟩ = some (.int .i64 0) := (blk_cell hr 1).trans rfl; have f1 := blk_frozen hr 1; have q2 : W1.cell? ⟨w.heap.size, 2, none⟩ = some (.int .i64 a0_2) := (blk_cell hq 2).trans rfl; have r2 : W1.cell? ⟨w.heap.size + 1, 2, none⟩ = some (.int .i64 0) := (blk_cell hr 2).trans rfl; have f2 := blk_frozen hr 2)
    | (go_at_call 71; (with_reducible refine (formeref01_Coord.calls a1 true _ hc).mono ?_); rintro e w' ⟨rfl, ⟨nd, rfl⟩⟩)
    | (go_at_call 71; (with_reducible refine (formeref01_Coord.calls (wrap64 (a0_1 + wrap64 (a1 * a0_2))) false _ hd).mono ?_); rintro e w' ⟨rfl, ⟨nd, rfl⟩⟩))
  refine bodyPost_ret (results_ct rfl _ _ (w.heap.size + 1) 23 #[.int .i64 (0), .int .i64 (0), .int .i64 (0)] (0, 0) _ rfl ?_ Try.underlying23 rfl (by kernel_rfl)) rfl ⟨rfl, ?_⟩
  · (with_reducible repeat (first | refine blk_drewN ?_ _ | refine blk_drew ?_))
    exact blk_put (blk_put (blk_put hr 0 _ rfl) 1 _ rfl) 2 _ rfl
  · have hB := (((Below.refl w.heap.size w).alloc (Nat.le_refl _) (.cells #[.int .i64 a0_0, .int .i64 a0_1, .int .i64 a0_2] 23)).alloc (by simp) (.cells #[.int .i64 0, .int .i64 0, .int .i64 0] 23)).trans (hb.mono (by simp; omega))
    (repeat (first | exact hB | apply pw_below_drewN | apply below_drew1 | refine Below.setCell ?_ (by simp) _))

set_option maxHeartbeats 400000 in
theorem radd_ok (a0_0 : Int) (a0_1 : Int) (a0_2 : Int) (a1 : Int) (w : World) (hv : formeref01_Valid.f a0_0 a0_1 a0_2 = some true) (hc : formeref01_Coord.f a1 = some true) (hd : formeref01_Coord.f (wrap64 (a0_1 + wrap64 (a1 * a0_2))) = some true) :
    Calls Try.prog 29 #[.agg #[.int .i64 a0_0, .int .i64 a0_1, .int .i64 a0_2], .int .i64 a1] w fun e w' => e = .returned (.tuple #[.agg #[.int .i64 (a0_0), .int .i64 (wrap64 (a0_1 + wrap64 (a1 * a0_2))), .int .i64 (a0_2)], .int .i64 0]) ∧ Below w.heap.size w w' := by
  go_enter Try.func29, Try.ntmps29
  go_wp2_with (first
    | (go_at_call 27; (with_reducible refine (formeref01_Valid.calls a0_0 a0_1 a0_2 true _ hv).mono ?_); rintro e W1 ⟨rfl, hb⟩; have hq := blk_below (blk_alloc (blk_new w (.cells #[.int .i64 a0_0, .int .i64 a0_1, .int .i64 a0_2] 23)) (.cells #[.int .i64 0, .int .i64 0, .int .i64 0] 23)) hb; have hr := blk_below (blk_new (w.alloc (.cells #[.int .i64 a0_0, .int .i64 a0_1, .int .i64 a0_2] 23)) (.cells #[.int .i64 0, .int .i64 0, .int .i64 0] 23)) hb; rw [World.size_alloc] at hr; have q0 : W1.cell? ⟨w.heap.size, 0, none⟩ = some (.int .i64 a0_0) := (blk_cell hq 0).trans rfl; have r0 : W1.cell? ⟨w.heap.size + 1, 0, none⟩ = some (.int .i64 0) := (blk_cell hr 0).trans rfl; have f0 := blk_frozen hr 0; have q1 : W1.cell? ⟨w.heap.size, 1, none⟩ = some (.int .i64 a0_1) := (blk_cell hq 1).trans rfl; have r1 : W1.cell? ⟨w.heap.size + 1, 1, none⟩ = some (.int .i64 0) := (blk_cell hr 1).trans rfl; have f1 := blk_frozen hr 1; have q2 : W1.cell? ⟨w.heap.size, 2, none⟩ = some (.int .i64 a0_2) := (blk_cell hq 2).trans rfl; have r2 : W1.cell? ⟨w.heap.size + 1, 2, none⟩ = some (.int .i64 0) := (blk_cell hr 2).trans rfl; have f2 := blk_frozen hr 2)
    | (go_at_call 71; (with_reducible refine (formeref01_Coord.calls a1 true _ hc).mono ?_); rintro e w' ⟨rfl, ⟨nd, rfl⟩⟩)
    | (go_at_call 71; (with_reducible refine (formeref01_Coord.calls (wrap64 (a0_1 + wrap64 (a1 * a0_2))) true _ hd).mono ?_); rintro e w' ⟨rfl, ⟨nd, rfl⟩⟩))
  refine bodyPost_ret (results_ct rfl _ _ (w.heap.size + 1) 23 #[.int .i64 (a0_0), .int .i64 (wrap64 (a0_1 + wrap64 (a1 * a0_2))), .int .i64 (a0_2)] (0, 0) _ rfl ?_ Try.underlying23 rfl (by kernel_rfl)) rfl ⟨rfl, ?_⟩
  · (with_reducible repeat (first | refine blk_drewN ?_ _ | refine blk_drew ?_))
    exact blk_put (blk_put (blk_put hr 0 _ rfl) 1 _ rfl) 2 _ rfl
  · have hB := (((Below.refl w.heap.size w).alloc (Nat.le_refl _) (.cells #[.int .i64 a0_0, .int .i64 a0_1, .int .i64 a0_2] 23)).alloc (by simp) (.cells #[.int .i64 0, .int .i64 0, .int .i64 0] 23)).trans (hb.mono (by simp; omega))
    (repeat (first | exact hB | apply pw_below_drewN | apply below_drew1 | refine Below.setCell ?_ (by simp) _))

theorem formeref01_Add.calls (a0_0 : Int) (a0_1 : Int) (a0_2 : Int) (a1 : Int) (r1 : Int) (r2 : Int) (r3 : Int) (r4 : Int) (w : World) (h : formeref01_Add.f a0_0 a0_1 a0_2 a1 = some (r1, r2, r3, r4)) :
    Calls Try.prog 29 #[.agg #[.int .i64 a0_0, .int .i64 a0_1, .int .i64 a0_2], .int .i64 a1] w fun e w' => e = .returned (.tuple #[.agg #[.int .i64 r1, .int .i64 r2, .int .i64 r3], .int .i64 r4]) ∧ Below w.heap.size w w' := by
  unfold formeref01_Add.f at h
  obtain ⟨v, hv, h⟩ := Option.bind_eq_some_iff.mp h
  obtain ⟨c, hc, h⟩ := Option.bind_eq_some_iff.mp h
  cases v with
  | false =>
    obtain ⟨rfl, rfl, rfl, rfl⟩ : 0 = r1 ∧ 0 = r2 ∧ 0 = r3 ∧ 1 = r4 := by simpa using h
    exact radd_invalid a0_0 a0_1 a0_2 a1 w hv
  | true =>
    cases c with
    | false =>
      obtain ⟨rfl, rfl, rfl, rfl⟩ : 0 = r1 ∧ 0 = r2 ∧ 0 = r3 ∧ 1 = r4 := by simpa using h
      exact radd_by a0_0 a0_1 a0_2 a1 w hv hc
    | true =>
      simp only [if_true] at h
      obtain ⟨b, hd, h⟩ := Option.bind_eq_some_iff.mp h
      cases b with
      | false =>
        obtain ⟨rfl, rfl, rfl, rfl⟩ : 0 = r1 ∧ 0 = r2 ∧ 0 = r3 ∧ 3 = r4 := by simpa using h
        exact radd_range a0_0 a0_1 a0_2 a1 w hv hc hd
      | true =>
        obtain ⟨rfl, rfl, rfl, rfl⟩ : a0_0 = r1 ∧ wrap64 (a0_1 + wrap64 (a1 * a0_2)) = r2 ∧ a0_2 = r3 ∧ 0 = r4 := by simpa using h
        exact radd_ok a0_0 a0_1 a0_2 a1 w hv hc hd

end Go.Proofs.Ytjpghfjaloglhaa.PQuot
