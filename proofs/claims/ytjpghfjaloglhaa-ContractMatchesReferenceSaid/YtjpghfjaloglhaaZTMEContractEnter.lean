import Derived.WalkKit
import Derived.Lib.Hide
import Derived.IntWalk
import Derived.Test.YtjpghfjaloglhaaZTMEContractCValid
/-
contract.more and book.enter: what they write into the account.
Conditions: those that each lemma names.
-/
namespace Go.Proofs.Ytjpghfjaloglhaa.PContract
open Go.RowKit Go.Proofs.YtjpghfjaloglhaaW.PrintWords Go.Proofs.YtjpghfjaloglhaaW.PrintLast Go.Proofs.YtjpghfjaloglhaaW.PrintMore
set_option linter.unusedVariables false
set_option linter.unusedSimpArgs false
structure But (g : Nat) (w w' : World) : Prop where
 os : w'.os = w.os
 tape : w'.tape = w.tape
 output : w'.output = w.output
 size : w.heap.size ≤ w'.heap.size
 block : ∀ k, k < w.heap.size → k ≠ g → w'.heap[k]? = w.heap[k]?
theorem But.refl (g : Nat) (w : World) : But g w w := ⟨rfl, rfl, rfl, Nat.le_refl _, fun _ _ _ => rfl⟩
theorem But.trans {g : Nat} {a b c : World} (h : But g a b) (k : But g b c) : But g a c :=
 ⟨k.os.trans h.os, k.tape.trans h.tape, k.output.trans h.output, Nat.le_trans h.size k.size, fun i hi hg => (k.block i (Nat.lt_of_lt_of_le hi h.size) hg).trans (h.block i hi hg)⟩
theorem But.alloc {g : Nat} {a w : World} (h : But g a w) (o : Obj) : But g a (w.alloc o) :=
 h.trans ⟨rfl, rfl, rfl, by simp, fun k hk _ => Below.heap_alloc _ _ _ hk⟩
theorem But.setCell {g i : Nat} {a w : World} (h : But g a w) (u : Value) : But g a (w.setCell ⟨g, i, none⟩ u) :=
 h.trans ⟨rfl, rfl, rfl, by simp [World.setCell], fun k _ hk => Below.heap_setCell _ _ _ _ hk⟩
theorem But.drewN {g : Nat} {a w : World} (h : But g a w) (n : Nat) : But g a (w.drewN n) := ⟨h.os, h.tape, h.output, h.size, h.block⟩
theorem But.drew {g : Nat} {a w : World} (h : But g a w) : But g a w.drew := ⟨h.os, h.tape, h.output, h.size, h.block⟩
theorem But.blk {g k : Nat} {w w' : World} (h : But g w w') {o : Obj} (hk : w.heap[k]? = some o) (hg : k ≠ g) : w'.heap[k]? = some o := (h.block k (blk_lt hk) hg).trans hk
theorem Below.but {B g : Nat} {a w w' : World} (h : Below B a w) (k : But g w w') (hB : B ≤ g) (hs : B ≤ w.heap.size) : Below B a w' :=
 h.trans ⟨k.os, k.tape, k.output, k.size, fun i hi => k.block i (by omega) (by omega)⟩
def moreI (n : Int) : Int := if 1000000000 < n + 1 then 1000000000 else n + 1
set_option maxHeartbeats 400000 in
theorem more_calls (g i : Nat) (t : TypeId) (cs cs' : Array Value) (n : Int) (w : World) (hk : w.heap[g]? = some (.cells cs t (0, 0))) (hi : cs[i]? = some (.int .i64 n)) (hs : cs.setIfInBounds i (.int .i64 (moreI n)) = cs') (h1 : 0 ≤ n) (h2 : n ≤ 1000000000) :
  Calls Try.prog 123 #[.pointer (some ⟨g, i, none⟩)] w fun e w' => e = .returned (.tuple #[]) ∧ w'.heap[g]? = some (.cells cs' t (0, 0)) ∧ But g w w' := by
 have x0 : w.cell? ⟨g, i, none⟩ = some (.int .i64 n) := (blk_cell hk i).trans hi
 have f0 := blk_frozen hk i
 have HS := Lib.hid hs
 have HK := Lib.hid hk
 clear hs hk hi
 by_cases c : 1000000000 < n + 1
 ·have hm : moreI n = 1000000000 := if_pos c
  rw [hm] at HS
  go_enter Try.func123, Try.ntmps123
  go_wp2
  go_end0
  exact ⟨rfl, blk_put HK.out i _ HS.out, (But.refl g w).setCell _⟩
 ·have hm : moreI n = n + 1 := if_neg c
  rw [hm] at HS
  go_enter Try.func123, Try.ntmps123
  go_wp2
  go_end0
  exact ⟨rfl, blk_put HK.out i _ HS.out, (But.refl g w).setCell _⟩
structure Acc where
 ch : Int
 cg : Int
 la : Int
 fr : Bool
deriving DecidableEq
def Acc.Ok (a : Acc) : Prop := (0 ≤ a.ch ∧ a.ch ≤ 1000000000) ∧ (0 ≤ a.cg ∧ a.cg ≤ 1000000000) ∧ (-1000000 ≤ a.la ∧ a.la ≤ 1000000)
instance (a : Acc) : Decidable a.Ok := by unfold Acc.Ok; infer_instance
def Acc.cells (n : Int) (a : Acc) : Array Value := #[.int .i64 n, .int .i64 a.ch, .int .i64 a.cg, .int .i64 a.la, .bool a.fr]
def enterA (a : Acc) (k h p m : Int) : Acc :=
 if a.fr = true then a
 else if k = 1 then
  if h - p = a.la then (if h - p = 0 then ⟨a.ch, a.cg, a.la, decide (m < a.cg)⟩ else ⟨moreI a.ch, a.cg, a.la, decide (m < a.cg)⟩)
  else (if h - p = 0 then ⟨a.ch, moreI a.cg, h - p, decide (m < moreI a.cg)⟩ else ⟨moreI a.ch, moreI a.cg, h - p, decide (m < moreI a.cg)⟩)
 else if k = 2 then ⟨moreI a.ch, a.cg, a.la, decide (m < a.cg)⟩ else ⟨a.ch, a.cg, a.la, decide (m < a.cg)⟩
def EnterPost (g : Nat) (n : Int) (b : Acc) (w : World) (e : Ending) (w' : World) : Prop := e = .returned (.tuple #[]) ∧ w'.heap[g]? = some (.cells (b.cells n) 118 (0, 0)) ∧ But g w w'
set_option maxHeartbeats 1000000 in
set_option maxRecDepth 100000 in
theorem enter_frozen (g : Nat) (n ch cg la xn xw xk xh p m : Int) (w : World) (hk : w.heap[g]? = some (.cells #[.int .i64 n, .int .i64 (ch), .int .i64 (cg), .int .i64 (la), .bool true] 118 (0, 0))) :
  Calls Try.prog 109 #[.pointer (some ⟨g, 0, none⟩), .agg #[.int .i64 xn, .int .i64 xw, .int .i64 xk, .int .i64 xh], .int .i64 p, .int .i64 m] w (EnterPost g n (⟨ch, cg, la, true⟩) w) := by
 have hu1 := Try.underlying118
 have hu2 := Try.underlying71
 have hu3 := Try.underlying78
 have hk0 := blk_alloc hk (.cells #[.int .i64 xn, .int .i64 xw, .int .i64 xk, .int .i64 xh] 78)
 have x1 := (blk_cell hk0 1).trans rfl
 have x2 := (blk_cell hk0 2).trans rfl
 have x3 := (blk_cell hk0 3).trans rfl
 have x4 := (blk_cell hk0 4).trans rfl
 have f1 := blk_frozen hk0 1
 have f2 := blk_frozen hk0 2
 have f3 := blk_frozen hk0 3
 have f4 := blk_frozen hk0 4
 have HK := Lib.hid hk0
 clear hk hk0
 go_enter Try.func109, Try.ntmps109
 go_wp2
 refine bodyPost_ret (results_none rfl _ _ _) rfl ?_
 exact ⟨rfl, HK.out, (But.refl g w).alloc _⟩
set_option maxHeartbeats 1000000 in
set_option maxRecDepth 100000 in
theorem enter_other (g : Nat) (n ch cg la xn xw xk xh p m : Int) (w : World) (hk : w.heap[g]? = some (.cells #[.int .i64 n, .int .i64 (ch), .int .i64 (cg), .int .i64 (la), .bool false] 118 (0, 0))) (hk1 : (xk == 1) = false) (hk2 : (xk == 2) = false) :
  Calls Try.prog 109 #[.pointer (some ⟨g, 0, none⟩), .agg #[.int .i64 xn, .int .i64 xw, .int .i64 xk, .int .i64 xh], .int .i64 p, .int .i64 m] w (EnterPost g n (⟨ch, cg, la, decide (m < cg)⟩) w) := by
 have hu1 := Try.underlying118
 have hu2 := Try.underlying71
 have hu3 := Try.underlying78
 have hk0 := blk_alloc hk (.cells #[.int .i64 xn, .int .i64 xw, .int .i64 xk, .int .i64 xh] 78)
 have x1 := (blk_cell hk0 1).trans rfl
 have x2 := (blk_cell hk0 2).trans rfl
 have x3 := (blk_cell hk0 3).trans rfl
 have x4 := (blk_cell hk0 4).trans rfl
 have f1 := blk_frozen hk0 1
 have f2 := blk_frozen hk0 2
 have f3 := blk_frozen hk0 3
 have f4 := blk_frozen hk0 4
 have HK := Lib.hid hk0
 clear hk hk0
 go_enter Try.func109, Try.ntmps109
 go_wp2
 go_end0
 exact ⟨rfl, blk_put HK.out 4 _ rfl, ((But.refl g w).alloc _).setCell _⟩
set_option maxHeartbeats 1000000 in
set_option maxRecDepth 100000 in
theorem enter_fail (g : Nat) (n ch cg la xn xw xh p m d : Int) (w : World) (hk : w.heap[g]? = some (.cells #[.int .i64 n, .int .i64 (ch), .int .i64 (cg), .int .i64 (la), .bool false] 118 (0, 0))) (hw : IntKind.i64.wrap (xh - p) = d) (h1 : 0 ≤ ch) (h2 : ch ≤ 1000000000) :
  Calls Try.prog 109 #[.pointer (some ⟨g, 0, none⟩), .agg #[.int .i64 xn, .int .i64 xw, .int .i64 2, .int .i64 xh], .int .i64 p, .int .i64 m] w (EnterPost g n (⟨moreI ch, cg, la, decide (m < cg)⟩) w) := by
 have hu1 := Try.underlying118
 have hu2 := Try.underlying71
 have hu3 := Try.underlying78
 have hk0 := blk_alloc hk (.cells #[.int .i64 xn, .int .i64 xw, .int .i64 2, .int .i64 xh] 78)
 have x1 := (blk_cell hk0 1).trans rfl
 have x2 := (blk_cell hk0 2).trans rfl
 have x3 := (blk_cell hk0 3).trans rfl
 have x4 := (blk_cell hk0 4).trans rfl
 have f1 := blk_frozen hk0 1
 have f2 := blk_frozen hk0 2
 have f3 := blk_frozen hk0 3
 have f4 := blk_frozen hk0 4
 have HK := Lib.hid hk0
 clear hk hk0
 go_enter Try.func109, Try.ntmps109
 go_wp2_with (go_at_call 123; (with_reducible refine (more_calls g 1 _ _ _ ch _ (HK.out) rfl rfl h1 h2).mono ?_); rintro e w2 ⟨rfl, hk2, hb2⟩; have y21 := (blk_cell hk2 1).trans rfl; have g21 := blk_frozen hk2 1; have y22 := (blk_cell hk2 2).trans rfl; have g22 := blk_frozen hk2 2; have y23 := (blk_cell hk2 3).trans rfl; have g23 := blk_frozen hk2 3; have y24 := (blk_cell hk2 4).trans rfl; have g24 := blk_frozen hk2 4; have HK2 := Lib.hid hk2; clear hk2)
 go_end0
 exact ⟨rfl, blk_put HK2.out 4 _ rfl, (((But.refl g w).alloc _).trans hb2).setCell _⟩
set_option maxHeartbeats 1000000 in
set_option maxRecDepth 100000 in
theorem enter_same0 (g : Nat) (n ch cg la xn xw xh p m d : Int) (w : World) (hk : w.heap[g]? = some (.cells #[.int .i64 n, .int .i64 (ch), .int .i64 (cg), .int .i64 (la), .bool false] 118 (0, 0))) (hw : IntKind.i64.wrap (xh - p) = d) (hla : d = la) (hz : d = 0) :
  Calls Try.prog 109 #[.pointer (some ⟨g, 0, none⟩), .agg #[.int .i64 xn, .int .i64 xw, .int .i64 1, .int .i64 xh], .int .i64 p, .int .i64 m] w (EnterPost g n (⟨ch, cg, la, decide (m < cg)⟩) w) := by
 have hu1 := Try.underlying118
 have hu2 := Try.underlying71
 have hu3 := Try.underlying78
 have hk0 := blk_alloc hk (.cells #[.int .i64 xn, .int .i64 xw, .int .i64 1, .int .i64 xh] 78)
 have x1 := (blk_cell hk0 1).trans rfl
 have x2 := (blk_cell hk0 2).trans rfl
 have x3 := (blk_cell hk0 3).trans rfl
 have x4 := (blk_cell hk0 4).trans rfl
 have f1 := blk_frozen hk0 1
 have f2 := blk_frozen hk0 2
 have f3 := blk_frozen hk0 3
 have f4 := blk_frozen hk0 4
 have HK := Lib.hid hk0
 clear hk hk0
 have hd2 : (d == la) = true := by simp; omega
 have hd3 : (d == 0) = true := by simp; omega
 clear hla hz
 go_enter Try.func109, Try.ntmps109
 go_wp2
 go_end0
 exact ⟨rfl, blk_put HK.out 4 _ rfl, ((But.refl g w).alloc _).setCell _⟩
set_option maxHeartbeats 1000000 in
set_option maxRecDepth 100000 in
theorem enter_same (g : Nat) (n ch cg la xn xw xh p m d : Int) (w : World) (hk : w.heap[g]? = some (.cells #[.int .i64 n, .int .i64 (ch), .int .i64 (cg), .int .i64 (la), .bool false] 118 (0, 0))) (hw : IntKind.i64.wrap (xh - p) = d) (hla : d = la) (hz : d ≠ 0) (h1 : 0 ≤ ch) (h2 : ch ≤ 1000000000) :
  Calls Try.prog 109 #[.pointer (some ⟨g, 0, none⟩), .agg #[.int .i64 xn, .int .i64 xw, .int .i64 1, .int .i64 xh], .int .i64 p, .int .i64 m] w (EnterPost g n (⟨moreI ch, cg, la, decide (m < cg)⟩) w) := by
 have hu1 := Try.underlying118
 have hu2 := Try.underlying71
 have hu3 := Try.underlying78
 have hk0 := blk_alloc hk (.cells #[.int .i64 xn, .int .i64 xw, .int .i64 1, .int .i64 xh] 78)
 have x1 := (blk_cell hk0 1).trans rfl
 have x2 := (blk_cell hk0 2).trans rfl
 have x3 := (blk_cell hk0 3).trans rfl
 have x4 := (blk_cell hk0 4).trans rfl
 have f1 := blk_frozen hk0 1
 have f2 := blk_frozen hk0 2
 have f3 := blk_frozen hk0 3
 have f4 := blk_frozen hk0 4
 have HK := Lib.hid hk0
 clear hk hk0
 have hd2 : (d == la) = true := by simp; omega
 have hd3 : (d == 0) = false := by simp; omega
 clear hla hz
 go_enter Try.func109, Try.ntmps109
 go_wp2_with (go_at_call 123; (with_reducible refine (more_calls g 1 _ _ _ ch _ (HK.out) rfl rfl h1 h2).mono ?_); rintro e w2 ⟨rfl, hk2, hb2⟩; have y21 := (blk_cell hk2 1).trans rfl; have g21 := blk_frozen hk2 1; have y22 := (blk_cell hk2 2).trans rfl; have g22 := blk_frozen hk2 2; have y23 := (blk_cell hk2 3).trans rfl; have g23 := blk_frozen hk2 3; have y24 := (blk_cell hk2 4).trans rfl; have g24 := blk_frozen hk2 4; have HK2 := Lib.hid hk2; clear hk2)
 go_end0
 exact ⟨rfl, blk_put HK2.out 4 _ rfl, (((But.refl g w).alloc _).trans hb2).setCell _⟩
set_option maxHeartbeats 1000000 in
set_option maxRecDepth 100000 in
theorem enter_new0 (g : Nat) (n ch cg la xn xw xh p m d : Int) (w : World) (hk : w.heap[g]? = some (.cells #[.int .i64 n, .int .i64 (ch), .int .i64 (cg), .int .i64 (la), .bool false] 118 (0, 0))) (hw : IntKind.i64.wrap (xh - p) = d) (hla : d ≠ la) (hz : d = 0) (h3 : 0 ≤ cg) (h4 : cg ≤ 1000000000) :
  Calls Try.prog 109 #[.pointer (some ⟨g, 0, none⟩), .agg #[.int .i64 xn, .int .i64 xw, .int .i64 1, .int .i64 xh], .int .i64 p, .int .i64 m] w (EnterPost g n (⟨ch, moreI cg, d, decide (m < moreI cg)⟩) w) := by
 have hu1 := Try.underlying118
 have hu2 := Try.underlying71
 have hu3 := Try.underlying78
 have hk0 := blk_alloc hk (.cells #[.int .i64 xn, .int .i64 xw, .int .i64 1, .int .i64 xh] 78)
 have x1 := (blk_cell hk0 1).trans rfl
 have x2 := (blk_cell hk0 2).trans rfl
 have x3 := (blk_cell hk0 3).trans rfl
 have x4 := (blk_cell hk0 4).trans rfl
 have f1 := blk_frozen hk0 1
 have f2 := blk_frozen hk0 2
 have f3 := blk_frozen hk0 3
 have f4 := blk_frozen hk0 4
 have HK := Lib.hid hk0
 clear hk hk0
 have hd2 : (d == la) = false := by simp; omega
 have hd3 : (d == 0) = true := by simp; omega
 clear hla hz
 go_enter Try.func109, Try.ntmps109
 go_wp2_with (go_at_call 123; (with_reducible refine (more_calls g 2 _ _ _ cg _ (HK.out) rfl rfl h3 h4).mono ?_); rintro e w2 ⟨rfl, hk2, hb2⟩; have y21 := (blk_cell hk2 1).trans rfl; have g21 := blk_frozen hk2 1; have y22 := (blk_cell hk2 2).trans rfl; have g22 := blk_frozen hk2 2; have y23 := (blk_cell hk2 3).trans rfl; have g23 := blk_frozen hk2 3; have y24 := (blk_cell hk2 4).trans rfl; have g24 := blk_frozen hk2 4; have HK2 := Lib.hid hk2; clear hk2)
 go_end0
 exact ⟨rfl, blk_put (blk_put HK2.out 3 _ rfl) 4 _ rfl, ((((But.refl g w).alloc _).trans hb2).setCell _).setCell _⟩
set_option maxHeartbeats 1000000 in
set_option maxRecDepth 100000 in
theorem enter_new (g : Nat) (n ch cg la xn xw xh p m d : Int) (w : World) (hk : w.heap[g]? = some (.cells #[.int .i64 n, .int .i64 (ch), .int .i64 (cg), .int .i64 (la), .bool false] 118 (0, 0))) (hw : IntKind.i64.wrap (xh - p) = d) (hla : d ≠ la) (hz : d ≠ 0) (h1 : 0 ≤ ch) (h2 : ch ≤ 1000000000) (h3 : 0 ≤ cg) (h4 : cg ≤ 1000000000) :
  Calls Try.prog 109 #[.pointer (some ⟨g, 0, none⟩), .agg #[.int .i64 xn, .int .i64 xw, .int .i64 1, .int .i64 xh], .int .i64 p, .int .i64 m] w (EnterPost g n (⟨moreI ch, moreI cg, d, decide (m < moreI cg)⟩) w) := by
 have hu1 := Try.underlying118
 have hu2 := Try.underlying71
 have hu3 := Try.underlying78
 have hk0 := blk_alloc hk (.cells #[.int .i64 xn, .int .i64 xw, .int .i64 1, .int .i64 xh] 78)
 have x1 := (blk_cell hk0 1).trans rfl
 have x2 := (blk_cell hk0 2).trans rfl
 have x3 := (blk_cell hk0 3).trans rfl
 have x4 := (blk_cell hk0 4).trans rfl
 have f1 := blk_frozen hk0 1
 have f2 := blk_frozen hk0 2
 have f3 := blk_frozen hk0 3
 have f4 := blk_frozen hk0 4
 have HK := Lib.hid hk0
 clear hk hk0
 have hd2 : (d == la) = false := by simp; omega
 have hd3 : (d == 0) = false := by simp; omega
 clear hla hz
 go_enter Try.func109, Try.ntmps109
 go_wp2_with (first
  | (go_at_call 123; (with_reducible refine (more_calls g 2 _ _ _ cg _ (HK.out) rfl rfl h3 h4).mono ?_); rintro e w2 ⟨rfl, hk2, hb2⟩; have y21 := (blk_cell hk2 1).trans rfl; have g21 := blk_frozen hk2 1; have y22 := (blk_cell hk2 2).trans rfl; have g22 := blk_frozen hk2 2; have y23 := (blk_cell hk2 3).trans rfl; have g23 := blk_frozen hk2 3; have y24 := (blk_cell hk2 4).trans rfl; have g24 := blk_frozen hk2 4; have HK2 := Lib.hid hk2; clear hk2)
  | (go_at_call 123; (with_reducible refine (more_calls g 1 _ _ _ ch _ (blk_put HK2.out 3 _ rfl) rfl rfl h1 h2).mono ?_); rintro e w4 ⟨rfl, hk4, hb4⟩; have y41 := (blk_cell hk4 1).trans rfl; have g41 := blk_frozen hk4 1; have y42 := (blk_cell hk4 2).trans rfl; have g42 := blk_frozen hk4 2; have y43 := (blk_cell hk4 3).trans rfl; have g43 := blk_frozen hk4 3; have y44 := (blk_cell hk4 4).trans rfl; have g44 := blk_frozen hk4 4; have HK4 := Lib.hid hk4; clear hk4))
 go_end0
 exact ⟨rfl, blk_put HK4.out 4 _ rfl, (((((But.refl g w).alloc _).trans hb2).setCell _).trans hb4).setCell _⟩
theorem enter_calls (g : Nat) (n : Int) (a : Acc) (xn xw xk xh p m : Int) (w : World) (hk : w.heap[g]? = some (.cells (a.cells n) 118 (0, 0))) (ha : a.Ok) (hx : HOk xh) (hp : HOk p) :
  Calls Try.prog 109 #[.pointer (some ⟨g, 0, none⟩), .agg #[.int .i64 xn, .int .i64 xw, .int .i64 xk, .int .i64 xh], .int .i64 p, .int .i64 m] w (EnterPost g n (enterA a xk xh p m) w) := by
 obtain ⟨ch, cg, la, fr⟩ := a
 obtain ⟨⟨a1, a2⟩, ⟨a3, a4⟩, a5, a6⟩ := ha
 obtain ⟨b1, b2⟩ := hx
 obtain ⟨b3, b4⟩ := hp
 simp only at a1 a2 a3 a4 a5 a6
 unfold Acc.cells at hk
 simp only at hk
 have hw : IntKind.i64.wrap (xh - p) = xh - p := (i64_w _).trans (wrap_in (by omega) (by omega))
 unfold enterA
 simp only
 cases fr with
 | true =>
  rw [if_pos rfl]
  exact enter_frozen g n ch cg la xn xw xk xh p m w hk
 | false =>
  rw [if_neg (by simp)]
  by_cases c1 : xk = 1
  ·subst c1
   rw [if_pos rfl]
   by_cases c2 : xh - p = la
   ·rw [if_pos c2]
    by_cases c3 : xh - p = 0
    ·rw [if_pos c3]
     exact enter_same0 g n ch cg la xn xw xh p m _ w hk hw c2 c3
    ·rw [if_neg c3]
     exact enter_same g n ch cg la xn xw xh p m _ w hk hw c2 c3 a1 a2
   ·rw [if_neg c2]
    by_cases c3 : xh - p = 0
    ·rw [if_pos c3]
     exact enter_new0 g n ch cg la xn xw xh p m _ w hk hw c2 c3 a3 a4
    ·rw [if_neg c3]
     exact enter_new g n ch cg la xn xw xh p m _ w hk hw c2 c3 a1 a2 a3 a4
  ·rw [if_neg c1]
   by_cases c2 : xk = 2
   ·subst c2
    rw [if_pos rfl]
    exact enter_fail g n ch cg la xn xw xh p m _ w hk hw a1 a2
   ·rw [if_neg c2]
    exact enter_other g n ch cg la xn xw xk xh p m w hk (by simpa using c1) (by simpa using c2)
end Go.Proofs.Ytjpghfjaloglhaa.PContract

