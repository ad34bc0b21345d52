import Derived.Test.YtjpghfjaloglhaaZTMZip
import Derived.WalkKit
import Derived.Lib.Hide
import Derived.IntWalk
import Derived.Laws.EntriesVeiled
import Derived.Test.YtjpghfjaloglhaaZTMEContractCourse1
/-
contract.Course returns the account after answers and the heights of the box: at every contract and list of answers.
Conditions: none.
-/
namespace Go.Proofs.Ytjpghfjaloglhaa.PContract
open Go.RowKit Go.Proofs.YtjpghfjaloglhaaW.PrintWords Go.Proofs.YtjpghfjaloglhaaW.PrintLast Go.Proofs.YtjpghfjaloglhaaW.PrintMore Go.Proofs.Ytjpghfjaloglhaa.Zip
set_option linter.unusedVariables false
set_option linter.unusedSimpArgs false
def CoursePost (w : World) (n : Int) (b : Acc) (hs : List Int) (er : Int) (e : Ending) (w' : World) : Prop :=
 ∃ v5_ : Value, e = .returned (.tuple #[.agg (b.cells n), v5_, .int .i64 er]) ∧ Kd.R (Kd.int .i64) 3 w' w.heap.size (fun _ => True) v5_ hs ∧ Below w.heap.size w w'
set_option maxHeartbeats 1000000 in
set_option maxRecDepth 100000 in
theorem course_valid (n m : Int) (A : Option Addr) (c : Nat) (l : List SP) (A1 : Option Addr) (c1 : Nat) (xs : List SA) (w : World) (hr : Kd.C k61 w A l.length l) (hc : l.length ≤ c) (hr1 : Kd.C k78 w A1 xs.length xs) (hc1 : xs.length ≤ c1) (hv : contract_Valid.f n m l = some false) :
  Calls Try.prog 65 #[.agg #[(.int .i64 n), (.int .i64 m), (.slice A l.length c)], .slice A1 xs.length c1] w (CoursePost w 0 ⟨0, 0, 0, false⟩ [] 1) := by
 have hund : undef = Value.tuple #[] := rfl
 have hl1 := hr1.2.1
 have hu1 := Try.underlying69
 have hu2 := Try.underlying71
 have hu3 := Try.underlying78
 have hu4 := Try.underlying118
 have hc0 := blk_alloc (blk_new w (.cells #[(.int .i64 n), (.int .i64 m), (.slice A l.length c)] 69)) (.cells #[(.int .i64 0), (.int .i64 0), (.int .i64 0), (.int .i64 0), (.bool false)] 71)
 have hq0 := blk_new (w.alloc (.cells #[(.int .i64 n), (.int .i64 m), (.slice A l.length c)] 69)) (.cells #[(.int .i64 0), (.int .i64 0), (.int .i64 0), (.int .i64 0), (.bool false)] 71)
 simp only [World.size_alloc] at hq0
 have B0 := ((Below.refl w.heap.size w).alloc (Nat.le_refl _) (.cells #[(.int .i64 n), (.int .i64 m), (.slice A l.length c)] 69)).alloc (by simp) (.cells #[(.int .i64 0), (.int .i64 0), (.int .i64 0), (.int .i64 0), (.bool false)] 71)
 go_enter Try.func65, Try.ntmps65
 go_wp2_with (first
  | (go_at_call 61; (with_reducible refine (contract_Valid.calls n m _ _ l false _ (Kd.C_below hr B0) hc hv).mono ?_); rintro e w1 ⟨rfl, hb1⟩; have hc1 := blk_below hc0 hb1; have hq1 := blk_below hq0 hb1; obtain ⟨cc10, cc11, cc12, -⟩ := cz3 ⟨hc1⟩; obtain ⟨rr10, rr11, rr12, rr13, rr14, fz10, fz11, fz12, fz13, fz14⟩ := cz5 ⟨hq1⟩; have B1 := B0.trans (hb1.mono B0.size); clear hc0 hq0))
 refine bodyPost_ret (results_ctt rfl _ _ (w.heap.size + 1) 71 #[(.int .i64 0), (.int .i64 0), (.int .i64 0), (.int .i64 0), (.bool false)] (0, 0) _ rfl ?_ Try.underlying71 rfl (by kernel_rfl)) rfl ⟨_, rfl, Kd.R_nil _ _ _ _ _, ?_⟩
 ·(with_reducible repeat (first | refine blk_drewN ?_ _ | refine blk_drew ?_))
  exact blk_put (blk_put (blk_put (blk_put (blk_put hq1 0 _ rfl) 1 _ rfl) 2 _ rfl) 3 _ rfl) 4 _ rfl
 ·repeat (first | exact B1 | apply pw_below_drewN | apply below_drew1 | refine Below.setCell ?_ (by show _ ≤ w.heap.size + 1; omega) _)
set_option maxHeartbeats 1000000 in
set_option maxRecDepth 100000 in
theorem course_long (n m : Int) (A : Option Addr) (c : Nat) (l : List SP) (A1 : Option Addr) (c1 : Nat) (xs : List SA) (w : World) (hr : Kd.C k61 w A l.length l) (hc : l.length ≤ c) (hr1 : Kd.C k78 w A1 xs.length xs) (hc1 : xs.length ≤ c1) (hv : contract_Valid.f n m l = some true) (hlen : 500 < xs.length) :
  Calls Try.prog 65 #[.agg #[(.int .i64 n), (.int .i64 m), (.slice A l.length c)], .slice A1 xs.length c1] w (CoursePost w 0 ⟨0, 0, 0, false⟩ [] 2) := by
 have hund : undef = Value.tuple #[] := rfl
 have hl1 := hr1.2.1
 have hu1 := Try.underlying69
 have hu2 := Try.underlying71
 have hu3 := Try.underlying78
 have hu4 := Try.underlying118
 have hc0 := blk_alloc (blk_new w (.cells #[(.int .i64 n), (.int .i64 m), (.slice A l.length c)] 69)) (.cells #[(.int .i64 0), (.int .i64 0), (.int .i64 0), (.int .i64 0), (.bool false)] 71)
 have hq0 := blk_new (w.alloc (.cells #[(.int .i64 n), (.int .i64 m), (.slice A l.length c)] 69)) (.cells #[(.int .i64 0), (.int .i64 0), (.int .i64 0), (.int .i64 0), (.bool false)] 71)
 simp only [World.size_alloc] at hq0
 have B0 := ((Below.refl w.heap.size w).alloc (Nat.le_refl _) (.cells #[(.int .i64 n), (.int .i64 m), (.slice A l.length c)] 69)).alloc (by simp) (.cells #[(.int .i64 0), (.int .i64 0), (.int .i64 0), (.int .i64 0), (.bool false)] 71)
 go_enter Try.func65, Try.ntmps65
 go_wp2_with (first
  | (go_at_call 61; (with_reducible refine (contract_Valid.calls n m _ _ l true _ (Kd.C_below hr B0) hc hv).mono ?_); rintro e w1 ⟨rfl, hb1⟩; have hc1 := blk_below hc0 hb1; have hq1 := blk_below hq0 hb1; obtain ⟨cc10, cc11, cc12, -⟩ := cz3 ⟨hc1⟩; obtain ⟨rr10, rr11, rr12, rr13, rr14, fz10, fz11, fz12, fz13, fz14⟩ := cz5 ⟨hq1⟩; have B1 := B0.trans (hb1.mono B0.size); clear hc0 hq0))
 refine bodyPost_ret (results_ctt rfl _ _ (w.heap.size + 1) 71 #[(.int .i64 0), (.int .i64 0), (.int .i64 0), (.int .i64 0), (.bool false)] (0, 0) _ rfl ?_ Try.underlying71 rfl (by kernel_rfl)) rfl ⟨_, rfl, Kd.R_nil _ _ _ _ _, ?_⟩
 ·(with_reducible repeat (first | refine blk_drewN ?_ _ | refine blk_drew ?_))
  exact blk_put (blk_put (blk_put (blk_put (blk_put hq1 0 _ rfl) 1 _ rfl) 2 _ rfl) 3 _ rfl) 4 _ rfl
 ·repeat (first | exact B1 | apply pw_below_drewN | apply below_drew1 | refine Below.setCell ?_ (by show _ ≤ w.heap.size + 1; omega) _)
set_option maxHeartbeats 1000000 in
set_option maxRecDepth 100000 in
theorem course_strange (n m : Int) (A : Option Addr) (c : Nat) (l : List SP) (A1 : Option Addr) (c1 : Nat) (xs : List SA) (w : World) (hr : Kd.C k61 w A l.length l) (hc : l.length ≤ c) (hr1 : Kd.C k78 w A1 xs.length xs) (hc1 : xs.length ≤ c1) (hv : contract_Valid.f n m l = some true) (hlen : ¬ 500 < xs.length) (hs : xs.any (strangeB n) = true) :
  Calls Try.prog 65 #[.agg #[(.int .i64 n), (.int .i64 m), (.slice A l.length c)], .slice A1 xs.length c1] w (CoursePost w 0 ⟨0, 0, 0, false⟩ [] 1) := by
 have hund : undef = Value.tuple #[] := rfl
 have hl1 := hr1.2.1
 have hu1 := Try.underlying69
 have hu2 := Try.underlying71
 have hu3 := Try.underlying78
 have hu4 := Try.underlying118
 have hc0 := blk_alloc (blk_new w (.cells #[(.int .i64 n), (.int .i64 m), (.slice A l.length c)] 69)) (.cells #[(.int .i64 0), (.int .i64 0), (.int .i64 0), (.int .i64 0), (.bool false)] 71)
 have hq0 := blk_new (w.alloc (.cells #[(.int .i64 n), (.int .i64 m), (.slice A l.length c)] 69)) (.cells #[(.int .i64 0), (.int .i64 0), (.int .i64 0), (.int .i64 0), (.bool false)] 71)
 simp only [World.size_alloc] at hq0
 have B0 := ((Below.refl w.heap.size w).alloc (Nat.le_refl _) (.cells #[(.int .i64 n), (.int .i64 m), (.slice A l.length c)] 69)).alloc (by simp) (.cells #[(.int .i64 0), (.int .i64 0), (.int .i64 0), (.int .i64 0), (.bool false)] 71)
 go_enter Try.func65, Try.ntmps65
 go_wp2_with (first
  | (go_at_call 61; (with_reducible refine (contract_Valid.calls n m _ _ l true _ (Kd.C_below hr B0) hc hv).mono ?_); rintro e w1 ⟨rfl, hb1⟩; have hc1 := blk_below hc0 hb1; have hq1 := blk_below hq0 hb1; obtain ⟨cc10, cc11, cc12, -⟩ := cz3 ⟨hc1⟩; obtain ⟨rr10, rr11, rr12, rr13, rr14, fz10, fz11, fz12, fz13, fz14⟩ := cz5 ⟨hq1⟩; have B1 := B0.trans (hb1.mono B0.size); clear hc0 hq0)
  | (go_at_call 114; (with_reducible refine (hasAns _ _ xs n w.heap.size _ cc10 (Kd.C_below hr1 B1) true hs).mono ?_); rintro e w2 ⟨rfl, hb2⟩; have hc2 := blk_below hc1 hb2; have hq2 := blk_below hq1 hb2; obtain ⟨cc20, cc21, cc22, -⟩ := cz3 ⟨hc2⟩; obtain ⟨rr20, rr21, rr22, rr23, rr24, fz20, fz21, fz22, fz23, fz24⟩ := cz5 ⟨hq2⟩; have B2 := B1.trans (hb2.mono B1.size); clear hc1 hq1))
 refine bodyPost_ret (results_ctt rfl _ _ (w.heap.size + 1) 71 #[(.int .i64 0), (.int .i64 0), (.int .i64 0), (.int .i64 0), (.bool false)] (0, 0) _ rfl ?_ Try.underlying71 rfl (by kernel_rfl)) rfl ⟨_, rfl, Kd.R_nil _ _ _ _ _, ?_⟩
 ·(with_reducible repeat (first | refine blk_drewN ?_ _ | refine blk_drew ?_))
  exact blk_put (blk_put (blk_put (blk_put (blk_put hq2 0 _ rfl) 1 _ rfl) 2 _ rfl) 3 _ rfl) 4 _ rfl
 ·repeat (first | exact B2 | apply pw_below_drewN | apply below_drew1 | refine Below.setCell ?_ (by show _ ≤ w.heap.size + 1; omega) _)
theorem runA_succ (m : Int) (l : List SP) (a : Acc) (xs : List SA) (k : Nat) (h : k < xs.length) : runA m l a (xs.take (k + 1)) = enterA (runA m l a (xs.take k)) (rd_T78 xs k).f2 (rd_T78 xs k).f3 (promI l (rd_T78 xs k).f1) m := by
 have e : rd_T78 xs (k : Int) = xs[k] := by
  unfold rd_T78
  simp [h]
 rw [e, List.take_succ_eq_append_getElem h]
 unfold runA
 rw [List.foldl_append]
 rfl
theorem heights_succ (l : List SP) (xs : List SA) (k : Nat) (h : k < xs.length) : (xs.take (k + 1)).map (fun x => promI l x.f1) = (xs.take k).map (fun x => promI l x.f1) ++ [promI l (rd_T78 xs k).f1] := by
 have e : rd_T78 xs (k : Int) = xs[k] := by
  unfold rd_T78
  simp [h]
 rw [e, List.take_succ_eq_append_getElem h, List.map_append]
 rfl
theorem strange_ok {n : Int} {x : SA} (h : strangeB n x = false) : HOk x.f3 ∧ ansB x.f0 x.f1 x.f2 x.f3 = true ∧ x.f0 = n := by
 unfold strangeB at h
 simp only [Bool.or_eq_false_iff, Bool.not_eq_false', decide_eq_false_iff_not, ne_eq, Decidable.not_not] at h
 obtain ⟨h1, h2⟩ := h
 refine ⟨?_, h1, h2⟩
 unfold ansB at h1
 simp only [Bool.and_eq_true, decide_eq_true_eq] at h1
 have c6 := h1.2
 by_cases k1 : x.f2 = 1
 ·rw [if_pos k1] at c6
  exact of_decide_eq_true c6
 ·rw [if_neg k1] at c6
  by_cases k2 : x.f2 = 2 ∨ x.f2 = 3
  ·rw [if_pos k2] at c6
   rw [of_decide_eq_true c6]
   exact ⟨by omega, by omega⟩
  ·rw [if_neg k2] at c6
   cases c6
theorem run_ok {n m : Int} {l : List SP} (hl : cvalidB n m l = true) : ∀ (xs : List SA) (a : Acc), a.Ok → (∀ x ∈ xs, HOk x.f3) → (runA m l a xs).Ok
 | [], a, ha, _ => ha
 | x :: xs, a, ha, h => by
  unfold runA
  rw [List.foldl_cons]
  exact run_ok hl xs _ (enter_ok ha (h x (by simp)) (prom_ok hl _)) (fun y hy => h y (by simp [hy]))
set_option maxHeartbeats 4000000 in
set_option maxRecDepth 100000 in
theorem course_go (n m : Int) (A : Option Addr) (c : Nat) (l : List SP) (A1 : Option Addr) (c1 : Nat) (xs : List SA) (w : World) (hr : Kd.C k61 w A l.length l) (hc : l.length ≤ c) (hr1 : Kd.C k78 w A1 xs.length xs) (hc1 : xs.length ≤ c1) (hv : contract_Valid.f n m l = some true) (hlen : ¬ 500 < xs.length) (hs : xs.any (strangeB n) = false) (hcv : cvalidB n m l = true) (ch cg la : Int) (fr : Bool) (hrun : runA m l ⟨0, 0, 0, false⟩ xs = ⟨ch, cg, la, fr⟩) :
  Calls Try.prog 65 #[.agg #[(.int .i64 n), (.int .i64 m), (.slice A l.length c)], .slice A1 xs.length c1] w (CoursePost w n ⟨ch, cg, la, fr⟩ (xs.map fun x => promI l x.f1) 0) := by
 have hund : undef = Value.tuple #[] := rfl
 have hl1 := hr1.2.1
 have hu1 := Try.underlying69
 have hu2 := Try.underlying71
 have hu3 := Try.underlying78
 have hu4 := Try.underlying118
 have hc0 := blk_alloc (blk_new w (.cells #[(.int .i64 n), (.int .i64 m), (.slice A l.length c)] 69)) (.cells #[(.int .i64 0), (.int .i64 0), (.int .i64 0), (.int .i64 0), (.bool false)] 71)
 have hq0 := blk_new (w.alloc (.cells #[(.int .i64 n), (.int .i64 m), (.slice A l.length c)] 69)) (.cells #[(.int .i64 0), (.int .i64 0), (.int .i64 0), (.int .i64 0), (.bool false)] 71)
 simp only [World.size_alloc] at hq0
 have B0 := ((Below.refl w.heap.size w).alloc (Nat.le_refl _) (.cells #[(.int .i64 n), (.int .i64 m), (.slice A l.length c)] 69)).alloc (by simp) (.cells #[(.int .i64 0), (.int .i64 0), (.int .i64 0), (.int .i64 0), (.bool false)] 71)
 have hall : ∀ i : Nat, i < xs.length → strangeB n (rd_T78 xs i) = false := fun i hi => by
  cases e : strangeB n (rd_T78 xs (i : Nat)) with
  | false => rfl
  | true => exact absurd (List.any_eq_true.2 ⟨_, rdA_mem hi, e⟩) (by rw [hs]; simp)
 have Hall := Lib.hid hall
 have Hcv := Lib.hid hcv
 have Hrun := Lib.hid hrun
 clear hall hcv hrun
 go_enter Try.func65, Try.ntmps65
 go_wp2_with (first
  | (go_at_call 61; (with_reducible refine (contract_Valid.calls n m _ _ l true _ (Kd.C_below hr B0) hc hv).mono ?_); rintro e w1 ⟨rfl, hb1⟩; have hc1 := blk_below hc0 hb1; have hq1 := blk_below hq0 hb1; obtain ⟨cc10, cc11, cc12, -⟩ := cz3 ⟨hc1⟩; obtain ⟨rr10, rr11, rr12, rr13, rr14, fz10, fz11, fz12, fz13, fz14⟩ := cz5 ⟨hq1⟩; have B1 := B0.trans (hb1.mono B0.size); clear hc0 hq0)
  | (go_at_call 114; (with_reducible refine (hasAns _ _ xs n w.heap.size _ cc10 (Kd.C_below hr1 B1) false hs).mono ?_); rintro e w2 ⟨rfl, hb2⟩; have hc2 := blk_below hc1 hb2; have hq2 := blk_below hq1 hb2; obtain ⟨cc20, cc21, cc22, -⟩ := cz3 ⟨hc2⟩; obtain ⟨rr20, rr21, rr22, rr23, rr24, fz20, fz21, fz22, fz23, fz24⟩ := cz5 ⟨hq2⟩; have B2 := B1.trans (hb2.mono B1.size); clear hc1 hq1))
 obtain ⟨gb, hgb⟩ : ∃ g, w2.heap.size = g := ⟨_, rfl⟩
 have hk3 := blk_new w2 (.cells #[(.int .i64 n), (.int .i64 0), (.int .i64 0), (.int .i64 0), (.bool false)] 118)
 have hc3 := blk_alloc hc2 (.cells #[(.int .i64 n), (.int .i64 0), (.int .i64 0), (.int .i64 0), (.bool false)] 118)
 have hq3 := blk_alloc hq2 (.cells #[(.int .i64 n), (.int .i64 0), (.int .i64 0), (.int .i64 0), (.bool false)] 118)
 have B3 := B2.alloc B2.size (.cells #[(.int .i64 n), (.int .i64 0), (.int .i64 0), (.int .i64 0), (.bool false)] 118)
 have hg1 := blk_lt hq2
 rw [hgb] at hk3 hg1
 rw [hgb]
 go_loopw [9, 32] (fun v9 i wr => ∃ k : Nat, k ≤ xs.length ∧ i = .int .i64 k ∧ Below w.heap.size w wr ∧ Kd.R (Kd.int .i64) 3 wr w.heap.size (fun k => k ≠ gb ∧ k ≠ w.heap.size + 1) v9 ((xs.take k).map fun x => promI l x.f1) ∧ wr.heap[w.heap.size]? = some (.cells #[(.int .i64 n), (.int .i64 m), (.slice A l.length c)] 69 (0, 0)) ∧ wr.heap[w.heap.size + 1]? = some (.cells #[(.int .i64 0), (.int .i64 0), (.int .i64 0), (.int .i64 0), (.bool false)] 71 (0, 0)) ∧ wr.heap[gb]? = some (.cells ((runA m l ⟨0, 0, 0, false⟩ (xs.take k)).cells n) 118 (0, 0))) (fun _ i _ => xs.length - (intOf i).toNat)
 case atStart => exact ⟨0, Nat.zero_le _, rfl, B3, Kd.R_nil _ _ _ _ _, hc3, hq3, hk3⟩
 case round =>
  clear hc3 hq3 hk3 B3 hc2 hq2 B2 hgb
  obtain ⟨k, hk, rfl, hb, hR, hcr, hrr, hkr⟩ := hrel
  by_cases hkm : k < xs.length
  ·obtain ⟨ad, rfl, x0, x1, x2, x3⟩ := at_T78 (Kd.C_below hr1 hb) (k : Int) (by omega) (by omega)
   rw [Int.toNat_natCast] at x0 x1 x2 x3
   obtain ⟨so1, so2, so3⟩ := strange_ok (Hall.out k hkm)
   have hxo := Aside0.mk so1
   have hsucc := Aside0.mk (runA_succ m l ⟨0, 0, 0, false⟩ xs k hkm)
   have hsucc2 := Aside0.mk (heights_succ l xs k hkm)
   have haok := Aside0.mk (run_ok Hcv.out (xs.take k) ⟨0, 0, 0, false⟩ ⟨by decide, by decide, by decide⟩ (fun x hx => by
    obtain ⟨i, hi, rfl⟩ := List.getElem_of_mem (List.mem_of_mem_take hx)
    have := (strange_ok (Hall.out i hi)).1
    unfold rd_T78 at this
    simpa [hi] using this))
   clear so1 so2 so3
   generalize rd_T78 xs (k : Int) = p at *
   generalize hra : runA m l ⟨0, 0, 0, false⟩ (xs.take k) = a at *
   clear hra
   have hpf := Aside0.mk (promised_f (n := n) (m := m) (cvalid_valid Hcv.out) p.f1)
   have hpo := Aside0.mk (prom_ok Hcv.out p.f1)
   have hcx := blk_alloc hcr (.cells #[(.int .i64 p.f0), (.int .i64 p.f1), (.int .i64 p.f2), (.int .i64 p.f3)] 78)
   have hrx := blk_alloc hrr (.cells #[(.int .i64 p.f0), (.int .i64 p.f1), (.int .i64 p.f2), (.int .i64 p.f3)] 78)
   have hkx := blk_alloc hkr (.cells #[(.int .i64 p.f0), (.int .i64 p.f1), (.int .i64 p.f2), (.int .i64 p.f3)] 78)
   have hxx := blk_new wr (.cells #[(.int .i64 p.f0), (.int .i64 p.f1), (.int .i64 p.f2), (.int .i64 p.f3)] 78)
   have Rx := Aside0.mk (Kd.R_alloc hR (.cells #[(.int .i64 p.f0), (.int .i64 p.f1), (.int .i64 p.f2), (.int .i64 p.f3)] 78))
   have Bx := (Below.refl wr.heap.size wr).alloc (Nat.le_refl _) (.cells #[(.int .i64 p.f0), (.int .i64 p.f1), (.int .i64 p.f2), (.int .i64 p.f3)] 78)
   have cx0 : (wr.alloc (.cells #[(.int .i64 p.f0), (.int .i64 p.f1), (.int .i64 p.f2), (.int .i64 p.f3)] 78)).cell? ⟨w.heap.size, 0, none⟩ = some (.int .i64 n) := (blk_cell hcx 0).trans rfl
   have cx1 : (wr.alloc (.cells #[(.int .i64 p.f0), (.int .i64 p.f1), (.int .i64 p.f2), (.int .i64 p.f3)] 78)).cell? ⟨w.heap.size, 1, none⟩ = some (.int .i64 m) := (blk_cell hcx 1).trans rfl
   have cx2 : (wr.alloc (.cells #[(.int .i64 p.f0), (.int .i64 p.f1), (.int .i64 p.f2), (.int .i64 p.f3)] 78)).cell? ⟨w.heap.size, 2, none⟩ = some (.slice A l.length c) := (blk_cell hcx 2).trans rfl
   have xx0 : (wr.alloc (.cells #[(.int .i64 p.f0), (.int .i64 p.f1), (.int .i64 p.f2), (.int .i64 p.f3)] 78)).cell? ⟨wr.heap.size, 0, none⟩ = some (.int .i64 p.f0) := (blk_cell hxx 0).trans rfl
   have xx1 : (wr.alloc (.cells #[(.int .i64 p.f0), (.int .i64 p.f1), (.int .i64 p.f2), (.int .i64 p.f3)] 78)).cell? ⟨wr.heap.size, 1, none⟩ = some (.int .i64 p.f1) := (blk_cell hxx 1).trans rfl
   have xx2 : (wr.alloc (.cells #[(.int .i64 p.f0), (.int .i64 p.f1), (.int .i64 p.f2), (.int .i64 p.f3)] 78)).cell? ⟨wr.heap.size, 2, none⟩ = some (.int .i64 p.f2) := (blk_cell hxx 2).trans rfl
   have xx3 : (wr.alloc (.cells #[(.int .i64 p.f0), (.int .i64 p.f1), (.int .i64 p.f2), (.int .i64 p.f3)] 78)).cell? ⟨wr.heap.size, 3, none⟩ = some (.int .i64 p.f3) := (blk_cell hxx 3).trans rfl
   clear hcr hrr hkr hR
   go_wp2_with (first
    | (go_at_call 99; (with_reducible refine (contract_promised.calls n m _ _ l p.f1 (promI l p.f1) _ (Kd.C_below (Kd.C_below hr hb) Bx) hc hpf.out).mono ?_); rintro e w4 ⟨rfl, hb4⟩; have hc4 := blk_below hcx hb4; have hr4 := blk_below hrx hb4; have hk4 := blk_below hkx hb4; have hx4 := blk_below hxx hb4; have R4 := Kd.R_below Rx.out hb4; have B4 := (hb.alloc hb.size (.cells #[(.int .i64 p.f0), (.int .i64 p.f1), (.int .i64 p.f2), (.int .i64 p.f3)] 78)).trans (hb4.mono (by have := hb.size; simp; omega)); obtain ⟨c40, c41, c42, -⟩ := cz3 ⟨hc4⟩; obtain ⟨x40, x41, x42, x43, -⟩ := cz4 ⟨hx4⟩)
    | (go_at_call 109; (with_reducible refine (enter_calls gb n a p.f0 p.f1 p.f2 p.f3 (promI l p.f1) m _ hk4 haok.out hxo.out hpo.out).mono ?_); rintro e w5 ⟨rfl, hk5, hb5⟩; have hc5 := hb5.blk hc4 (by omega); have hr5 := hb5.blk hr4 (by omega); have R5 := Kd.R_step R4 (fun k ho hlt => hb5.block k hlt ho.1); have B5 : Below w.heap.size w w5 := Below.but B4 hb5 (by omega) B4.size)
    | ((with_reducible refine gate_builtin (b := .append) (xs := #[.tmp 45, .tmp 47]) rfl ?_); (try (refine gate_guard (by rfl) ?_; dsimp only)); at_builtin; refine Kd.R_append (Kd.int .i64) (w0 := w) w.heap.size rfl (.tmp 45) (.tmp 47) 24 3 (.int .i64 0) 8 rfl Try.underlying24 info3 rfl (by decide) (by omega) u9 ((xs.take k).map fun x => promI l x.f1) (promI l p.f1) [.int .i64 (promI l p.f1)] (fun k => k ≠ gb ∧ k ≠ w.heap.size + 1) (fun _ => False) rfl rfl ?aP (fun _ hk => hk.elim) ?aF ?aO ?aB ?aS ?aL ?_; (case aP => exact rfl); (case aF => exact fun k hk => by have := blk_lt hk5; have := blk_lt hr5; omega); (case aO => exact (by (with_reducible repeat (first | apply Kd.R_drewN | apply Kd.R_drew)); exact R5)); (case aB => exact (by repeat (first | exact B5 | apply pw_below_drewN | apply below_drew1))); (case aS => exact B5.size); (case aL => simp; omega); intro v6 w6 ho hb6 hg6 hat; have hc6 := blk_grown hc5 hg6 (Kd.R_ne R5 hc5 (by decide)); have hr6 := blk_grown hr5 hg6 (Kd.R_ne R5 hr5 (by decide)); have hk6 := blk_grown hk5 hg6 (Kd.R_ne R5 hk5 (by decide))))
   go_roundw
   case rel => exact ⟨k + 1, by omega, by go_num, hb6, by rw [hsucc2.out]; exact ho, hc6, hr6, by rw [hsucc.out]; exact hk6⟩
   case measure => simp [intOf]; omega
  ·obtain rfl : k = xs.length := by omega
   rw [List.take_length] at hR hkr
   rw [Hrun.out] at hkr
   have R9 := Aside0.mk hR
   clear hR
   have fz0 := blk_frozen hrr 0
   have fz1 := blk_frozen hrr 1
   have fz2 := blk_frozen hrr 2
   have fz3 := blk_frozen hrr 3
   have fz4 := blk_frozen hrr 4
   have rr0 : wr.cell? ⟨(w.heap.size + 1), 0, none⟩ = some (.int .i64 0) := (blk_cell hrr 0).trans rfl
   have rr1 : wr.cell? ⟨(w.heap.size + 1), 1, none⟩ = some (.int .i64 0) := (blk_cell hrr 1).trans rfl
   have rr2 : wr.cell? ⟨(w.heap.size + 1), 2, none⟩ = some (.int .i64 0) := (blk_cell hrr 2).trans rfl
   have rr3 : wr.cell? ⟨(w.heap.size + 1), 3, none⟩ = some (.int .i64 0) := (blk_cell hrr 3).trans rfl
   have rr4 : wr.cell? ⟨(w.heap.size + 1), 4, none⟩ = some (.bool false) := (blk_cell hrr 4).trans rfl
   have kk0 : wr.cell? ⟨gb, 0, none⟩ = some (.int .i64 n) := (blk_cell hkr 0).trans rfl
   have kk1 : wr.cell? ⟨gb, 1, none⟩ = some (.int .i64 ch) := (blk_cell hkr 1).trans rfl
   have kk2 : wr.cell? ⟨gb, 2, none⟩ = some (.int .i64 cg) := (blk_cell hkr 2).trans rfl
   have kk3 : wr.cell? ⟨gb, 3, none⟩ = some (.int .i64 la) := (blk_cell hkr 3).trans rfl
   have kk4 : wr.cell? ⟨gb, 4, none⟩ = some (.bool fr) := (blk_cell hkr 4).trans rfl
   go_wp2
   refine bodyPost_ret (results_ctt rfl _ _ (w.heap.size + 1) 71 #[(.int .i64 n), (.int .i64 ch), (.int .i64 cg), (.int .i64 la), (.bool fr)] (0, 0) _ rfl ?_ Try.underlying71 rfl (by kernel_rfl)) rfl ⟨u9, rfl, ?_, ?_⟩
   ·(with_reducible repeat (first | refine blk_drewN ?_ _ | refine blk_drew ?_))
    exact blk_put (blk_put (blk_put (blk_put (blk_put hrr 0 _ rfl) 1 _ rfl) 2 _ rfl) 3 _ rfl) 4 _ rfl
   ·refine Kd.R_mono (Kd.R_step R9.out (fun k ho hlt => ?_)) (fun _ _ => trivial)
    repeat (first | exact rfl | refine (Below.heap_setCell _ _ _ _ ho.2).trans ?_)
   ·repeat (first | exact hb | apply pw_below_drewN | apply below_drew1 | refine Below.setCell ?_ (by show _ ≤ w.heap.size + 1; omega) _)
end Go.Proofs.Ytjpghfjaloglhaa.PContract

