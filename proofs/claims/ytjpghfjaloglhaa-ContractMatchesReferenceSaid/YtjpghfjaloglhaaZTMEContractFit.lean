import Derived.Test.YtjpghfjaloglhaaZTMEContractFit1
import Derived.Test.YtjpghfjaloglhaaZTMEContractFit2
import Derived.Scope
import Derived.Laws.EntriesVeiled
/-
quot.Fit returns the first quotient that fits the values, or says why there is none: at every list of values.
Conditions: none.
-/
namespace Go.Proofs.Ytjpghfjaloglhaa.PContract
open Go.RowKit Go.Shelf Go.Proofs.YtjpghfjaloglhaaW.PrintWords Go.Proofs.YtjpghfjaloglhaaW.PrintLast Go.Proofs.YtjpghfjaloglhaaW.PrintMore
set_option linter.unusedVariables false
set_option linter.unusedSimpArgs false
attribute [local go_sem] Oper.semAt_some
def fitOut (l : List Int) : Int × Int × Int × Bool × Int :=
 if l.length > 4000 then (0, 0, 0, false, 2) else if l.all (fun x => decide (Q.Coord x)) = false then (0, 0, 0, false, 1) else if l.length = 0 then (0, 0, 0, false, 1) else
 match Q.fitL l with
 | none => (0, 0, 0, false, 0)
 | some q => (q.A, q.B, q.D, true, 0)
def quot_Fit.f (l0 : List Int) : Option (Int × Int × Int × Bool × Int) := some (fitOut l0)
def FitPost (w : World) (r1 r2 r3 : Int) (r4 : Bool) (r5 : Int) (e : Ending) (w' : World) : Prop :=
 e = .returned (.tuple #[.agg #[.int .i64 r1, .int .i64 r2, .int .i64 r3], .bool r4, .int .i64 r5]) ∧ Below w.heap.size w w'
set_option maxRecDepth 100000 in
set_option maxHeartbeats 400000 in
theorem fit_long (A : Option Addr) (c len : Nat) (w : World) (hl : 4000 < len) (hm : len ≤ 9223372036854775807) :
  Calls Try.prog 30 #[.slice A len c] w (FitPost w 0 0 0 false 2) := by
 go_enter Try.func30, Try.ntmps30
 go_wp2
 refine wp_scope_straight ?_
 go_wp2
 try rw [Exit.noGoto_ret]
 refine bodyPost_ret (v := .tuple #[.agg #[.int .i64 0, .int .i64 0, .int .i64 0], .bool false, .int .i64 2]) (by simp [results, Try.results30, go_sem]) rfl ⟨rfl, ?_⟩
 exact (((Below.refl _ _).alloc (Nat.le_refl _) _).alloc (by simp) _)
theorem row_cell {w : World} {A : Option Addr} {vs : List Int} (h : Kd.C (Kd.int .i64) w A vs.length vs) {k : Nat} (hk : k < vs.length) : ∃ ad, A = some ad ∧ w.cell? (ad.add k) = some (.int .i64 (rd vs k)) := by
 obtain ⟨ad, e, hc⟩ := Kd.at_int h (k : Int) (by omega) (by omega)
 exact ⟨ad, e, by simpa using hc⟩
theorem row_below {w : World} {A : Option Addr} {vs : List Int} (h : Kd.C (Kd.int .i64) w A vs.length vs) {W : World} (hb : Below w.heap.size w W) : Kd.C (Kd.int .i64) W A vs.length vs := Kd.C_below h hb
set_option maxRecDepth 100000 in
set_option maxHeartbeats 400000 in
theorem fit_empty (A : Option Addr) (c : Nat) (w : World) :
  Calls Try.prog 30 #[.slice A 0 c] w (FitPost w 0 0 0 false 1) := by
 go_enter Try.func30, Try.ntmps30
 go_wp2
 refine wp_scope_straight ?_
 go_wp2
 go_loop [19] (fun i => i = .int .i64 0) (fun _ => 0)
 case atStart => rfl
 case round =>
  obtain rfl := hrel
  go_wp2
  try rw [Exit.noGoto_ret]
  refine bodyPost_ret (v := .tuple #[.agg #[.int .i64 0, .int .i64 0, .int .i64 0], .bool false, .int .i64 1]) (by simp [results, Try.results30, go_sem]) rfl ⟨rfl, ?_⟩
  exact (((Below.refl _ _).alloc (Nat.le_refl _) _).alloc (by simp) _)
set_option maxRecDepth 100000 in
set_option maxHeartbeats 400000 in
theorem fit_bad (A : Option Addr) (c : Nat) (vs : List Int) (w : World) (hrow : Kd.C (Kd.int .i64) w A vs.length vs) (hl : vs.length ≤ 4000) (m : Nat) (hm : m < vs.length) (hbad : ¬ Q.Coord (rd vs m)) (hgood : ∀ i : Nat, i < m → Q.Coord (rd vs i)) :
  Calls Try.prog 30 #[.slice A vs.length c] w (FitPost w 0 0 0 false 1) := by
 have hr1 := row_below hrow ((((Below.refl w.heap.size w).alloc (Nat.le_refl _) (.cells #[.slice A vs.length c] 24)).alloc (by simp) (.cells #[.int .i64 0, .int .i64 0, .int .i64 0] 23)))
 have Hg := Lib.hid hgood
 clear hgood hrow
 go_enter Try.func30, Try.ntmps30
 go_wp2
 refine wp_scope_straight ?_
 go_wp2
 go_loop [19] (fun i => ∃ k : Nat, k ≤ m ∧ i = .int .i64 k) (fun i => m - (intOf i).toNat)
 case atStart => exact ⟨0, Nat.zero_le _, rfl⟩
 case round =>
  obtain ⟨k, hk, rfl⟩ := hrel
  have hkl : k < vs.length := by omega
  obtain ⟨ad, rfl, hc⟩ := row_cell hr1 hkl
  by_cases hkm : k < m
  ·have hcd := Hg.out k hkm
   go_wp2_with (go_at_call 70; (with_reducible refine (isCoord_yes _ _ hcd).mono ?_); rintro e w2 ⟨rfl, rfl⟩)
   go_round
   case rel => exact ⟨k + 1, by omega, by go_num⟩
   case measure => simp [intOf]; omega
  ·obtain rfl : k = m := by omega
   go_wp2_with (go_at_call 70; (with_reducible refine (isCoord_no _ _ hbad).mono ?_); rintro e w2 ⟨rfl, rfl⟩)
   try rw [Exit.noGoto_ret]
   refine bodyPost_ret (v := .tuple #[.agg #[.int .i64 0, .int .i64 0, .int .i64 0], .bool false, .int .i64 1]) (by simp [results, Try.results30, go_sem]) rfl ⟨rfl, ?_⟩
   exact (((Below.refl _ _).alloc (Nat.le_refl _) _).alloc (by simp) _)
def MarksAt (W : World) (Ds : List Nat) (B S : Nat) : Prop := Ds.Nodup ∧ ∀ D ∈ Ds, B ≤ D ∧ D < S ∧ W.heap[D]? = some (.deferred (some []))
def mark (D : Nat) : Deferred := { target := .collected D, args := #[] }
theorem leaves_marks {F : Fence} {n : Nat} {P : Program} {fn : Func} {tmps : Array Value} {R : Ending → World → Prop} (B : Nat) : ∀ (Ds : List Nat) (W : World), Ds.Nodup → (∀ D ∈ Ds, B ≤ D ∧ W.heap[D]? = some (.deferred (some []))) →
  (∀ W', Below B W W' → (∀ k, k ∉ Ds → W'.heap[k]? = W.heap[k]?) → LeavesInM F n P fn tmps R [] .returning W') → LeavesInM F n P fn tmps R (Ds.map mark) .returning W
 | [], W, _, _, h => h W (Below.refl _ _) (fun _ _ => rfl)
 | D :: Ds, W, hn, hd, h => by
  obtain ⟨hB, hD⟩ := hd D (by simp)
  refine ⟨by simp, .inl ⟨D, _, rfl, run_takeDeferred hD, ?_⟩⟩
  have hb1 : Below B W (W.putObj D (.deferred none)) := (Below.refl B W).grown (grownBy_putObj' W D _) (by have := (Array.getElem?_eq_some_iff.1 hD).1; omega) (fun k e => by cases e; omega)
  have hn2 := List.nodup_cons.1 hn
  refine leaves_marks B Ds _ hn2.2 (fun D' h' => ⟨(hd D' (by simp [h'])).1, ?_⟩) fun W' hb hk => h W' (hb1.trans hb) fun k hk' => ?_
  ·rw [World.putObj_heap_other (fun e => hn2.1 (by rw [← e]; exact h'))]
   exact (hd D' (by simp [h'])).2
  ·have h1 : k ≠ D ∧ k ∉ Ds := by simpa using hk'
   rw [hk k h1.2]
   exact World.putObj_heap_other (fun e => h1.1 e)
def best3 (b : Option (Int × Int)) (d : Int) : Array Value :=
 match b with
 | none => #[.int .i64 0, .int .i64 0, .int .i64 0]
 | some p => #[.int .i64 p.1, .int .i64 p.2, .int .i64 d]
structure FitInv (w : World) (A : Option Addr) (c : Nat) (vs : List Int) (b : Option (Int × Int)) (d : Int) (Ds : List Nat) (S : Nat) (W : World) : Prop where
 box : W.heap[w.heap.size]? = some (.cells #[.slice A vs.length c] 24 (0, 0))
 res : W.heap[w.heap.size + 1]? = some (.cells #[.int .i64 0, .int .i64 0, .int .i64 0] 23 (0, 0))
 bef : W.heap[w.heap.size + 1 + 1]? = some (.cells #[.func (.func 72) #[] #[]] 43 (0, 0))
 best : W.heap[w.heap.size + 1 + 1 + 1]? = some (.cells (best3 b d) 23 (0, 0))
 below : Below w.heap.size w W
 marks : MarksAt W Ds (w.heap.size + 4) S
theorem FitInv.dee {w : World} {A : Option Addr} {c : Nat} {vs : List Int} {d : Int} {Ds : List Nat} {S : Nat} {W : World} (h : FitInv w A c vs none d Ds S W) (d' : Int) : FitInv w A c vs none d' Ds S W := ⟨h.box, h.res, h.bef, h.best, h.below, h.marks⟩
theorem FitInv.wide {w : World} {A : Option Addr} {c : Nat} {vs : List Int} {b : Option (Int × Int)} {d : Int} {Ds : List Nat} {S S' : Nat} {W : World} (h : FitInv w A c vs b d Ds S W) (hS : S ≤ S') : FitInv w A c vs b d Ds S' W :=
 ⟨h.box, h.res, h.bef, h.best, h.below, ⟨h.marks.1, fun D hD => ⟨(h.marks.2 D hD).1, Nat.lt_of_lt_of_le (h.marks.2 D hD).2.1 hS, (h.marks.2 D hD).2.2⟩⟩⟩
theorem FitInv.more {w : World} {A : Option Addr} {c : Nat} {vs : List Int} {b : Option (Int × Int)} {d : Int} {Ds : List Nat} {W : World} {D : Nat} (h : FitInv w A c vs b d Ds W.heap.size W) (hK : W.heap[D]? = some (.deferred (some []))) (hD : w.heap.size + 4 ≤ D) (hn : D ∉ Ds) :
  FitInv w A c vs b d (D :: Ds) W.heap.size W :=
 ⟨h.box, h.res, h.bef, h.best, h.below, ⟨List.nodup_cons.2 ⟨hn, h.marks.1⟩, fun D' hD' => by
  rcases List.mem_cons.1 hD' with rfl | h'
  ·exact ⟨hD, blk_lt hK, hK⟩
  ·exact h.marks.2 D' h'⟩⟩
theorem FitInv.move {w : World} {A : Option Addr} {c : Nat} {vs : List Int} {b : Option (Int × Int)} {d : Int} {Ds : List Nat} {S : Nat} {W W' : World} (h : FitInv w A c vs b d Ds S W)
  (hk : ∀ k, k < S → w.heap.size ≤ k → W'.heap[k]? = W.heap[k]?) (hS : w.heap.size + 4 ≤ S) (hb : Below w.heap.size w W') : FitInv w A c vs b d Ds S W' where
 box := (hk _ (by omega) (by omega)).trans h.box
 res := (hk _ (by omega) (by omega)).trans h.res
 bef := (hk _ (by omega) (by omega)).trans h.bef
 best := (hk _ (by omega) (by omega)).trans h.best
 below := hb
 marks := ⟨h.marks.1, fun D hD => ⟨(h.marks.2 D hD).1, (h.marks.2 D hD).2.1, (hk D (h.marks.2 D hD).2.1 (by have := (h.marks.2 D hD).1; omega)).trans (h.marks.2 D hD).2.2⟩⟩
theorem FitInv.put {w : World} {A : Option Addr} {c : Nat} {vs : List Int} {b b' : Option (Int × Int)} {d : Int} {Ds : List Nat} {S : Nat} {W W' : World} (h : FitInv w A c vs b d Ds S W)
  (hk : ∀ k, k ≠ w.heap.size + 1 + 1 + 1 → k < S → w.heap.size ≤ k → W'.heap[k]? = W.heap[k]?) (hS : w.heap.size + 4 ≤ S) (hb : Below w.heap.size w W')
  (hbest : W'.heap[w.heap.size + 1 + 1 + 1]? = some (.cells (best3 b' d) 23 (0, 0))) : FitInv w A c vs b' d Ds S W' where
 box := (hk _ (by omega) (by omega) (by omega)).trans h.box
 res := (hk _ (by omega) (by omega) (by omega)).trans h.res
 bef := (hk _ (by omega) (by omega) (by omega)).trans h.bef
 best := hbest
 below := hb
 marks := ⟨h.marks.1, fun D hD => ⟨(h.marks.2 D hD).1, (h.marks.2 D hD).2.1, (hk D (by have := (h.marks.2 D hD).1; omega) (h.marks.2 D hD).2.1 (by have := (h.marks.2 D hD).1; omega)).trans (h.marks.2 D hD).2.2⟩⟩
theorem FitInv.ownFrom {β : Type} (w : World) (A : Option Addr) (c : Nat) (vs : List Int) (b : β → Option (Int × Int)) (d : Int) (Ds : List Nat) (S : Nat) (hS : w.heap.size + 4 ≤ S) :
  OwnFrom S (fun (s : β) W => FitInv w A c vs (b s) d Ds S W ∧ S ≤ W.heap.size) := by
 intro s X Y row hs hg hr
 have hk : ∀ k, k < S → Y.heap[k]? = X.heap[k]? := fun k hk => hg.block k (by omega) (fun e => by have := (hr k e.symm).1; omega)
 exact ⟨hs.1.move (fun k hk' _ => hk k hk') hS (hs.1.below.grown hg hs.1.below.size (fun k e => by have := (hr k e).1; omega)), Nat.le_trans hs.2 hg.size⟩
theorem blk_new' {W : World} {o : Obj} {n : Nat} (h : W.heap.size = n) : (W.alloc o).heap[n]? = some o := by
 subst h
 exact blk_new W o
theorem heap_alloc_lt (W : World) (o : Obj) {k : Nat} (h : k < W.heap.size) : (W.alloc o).heap[k]? = W.heap[k]? := Below.heap_alloc W o k h
theorem fitInv_q {w : World} {A : Option Addr} {c : Nat} {vs : List Int} {b : Option (Int × Int)} {d : Int} {Ds : List Nat} {S : Nat} {X X2 : World} (h : FitInv w A c vs b d Ds S X) (hS : S ≤ X.heap.size) (hS4 : w.heap.size + 4 ≤ S)
  (hb : Below X.heap.size X X2) (x y z : Int) : FitInv w A c vs b d Ds S (X2.alloc (.cells #[.int .i64 x, .int .i64 y, .int .i64 z] 23)) ∧ X.heap.size ≤ X2.heap.size := by
 refine ⟨h.move (fun k hk _ => ?_) hS4 ?_, hb.size⟩
 ·have := hb.size
  rw [heap_alloc_lt _ _ (by omega)]
  exact hb.block k (by omega)
 ·have := h.below.size
  have := hb.size
  exact (h.below.trans (hb.mono (by omega))).alloc (by omega) _
theorem fit_end {w : World} {A : Option Addr} {c : Nat} {vs : List Int} {b : Option (Int × Int)} {d : Int} {Ds : List Nat} {S : Nat} {X : World} (h : FitInv w A c vs b d Ds S X) (x y z : Int) (r : Bool) (tmps : Array Value)
  (ht2 : tmps.getD 2 undef = .pointer (some ⟨w.heap.size + 1, 0, none⟩)) (ht3 : tmps.getD 3 undef = .bool r) (ht4 : tmps.getD 4 undef = .int .i64 0) (R : Ending → World → Prop) (hR : ∀ e W', FitPost w x y z r 0 e W' → R e W') :
  LeavesInM Fence.wide 9 Try.prog Try.f30 tmps R (Ds.map mark) .returning
   (((X.setCell ⟨w.heap.size + 1, 0, none⟩ (.int .i64 x)).setCell ⟨w.heap.size + 1, 1, none⟩ (.int .i64 y)).setCell ⟨w.heap.size + 1, 2, none⟩ (.int .i64 z)).drew := by
 have hne : ∀ D ∈ Ds, D ≠ w.heap.size + 1 := fun D hD => by have := (h.marks.2 D hD).1; omega
 refine leaves_marks w.heap.size Ds _ h.marks.1 (fun D hD => ⟨by have := (h.marks.2 D hD).1; omega, blk_drew ?_⟩) fun W' hb hk => ?_
 ·rw [Below.heap_setCell _ _ _ _ (hne D hD), Below.heap_setCell _ _ _ _ (hne D hD), Below.heap_setCell _ _ _ _ (hne D hD)]
  exact (h.marks.2 D hD).2.2
 ·have hblk : W'.heap[w.heap.size + 1]? = some (.cells #[.int .i64 x, .int .i64 y, .int .i64 z] 23 (0, 0)) := by
   rw [hk _ (fun hD => hne _ hD rfl)]
   exact blk_drew (blk_put (blk_put (blk_put h.res 0 _ rfl) 1 _ rfl) 2 _ rfl)
  refine ⟨_, results_ctt rfl tmps W' (w.heap.size + 1) 23 #[.int .i64 x, .int .i64 y, .int .i64 z] (0, 0) _ ht2 hblk Try.underlying23 rfl (by kernel_rfl), hR _ _ ⟨by rw [ht3, ht4], ?_⟩⟩
  exact ((((h.below.setCell (p := ⟨w.heap.size + 1, 0, none⟩) (by simp) _).setCell (p := ⟨w.heap.size + 1, 1, none⟩) (by simp) _).setCell (p := ⟨w.heap.size + 1, 2, none⟩) (by simp) _).drew).trans hb
theorem keepsFrom_below {B : Nat} {X Y : World} (h : Below X.heap.size X Y) : KeepsFrom B X Y := ⟨h.size, fun k o _ hk _ => (h.block k (blk_lt hk)).trans hk⟩
theorem fitInv_next {w : World} {A : Option Addr} {c : Nat} {vs : List Int} {b : Option (Int × Int)} {d : Int} {Ds : List Nat} {S : Nat} {Y Z : World} (h : FitInv w A c vs b d Ds S Y) (hS : S ≤ Y.heap.size) (hS4 : w.heap.size + 4 ≤ S) (hb : Below Y.heap.size Y Z) : FitInv w A c vs b d Ds S Z :=
 h.move (fun k hk _ => hb.block k (by omega)) hS4 (h.below.trans (hb.mono h.below.size))
theorem kpc_t {n₀ Bv Bd : Nat} {X Y Z : World} (h : KpC n₀ Bv Bd X Y) (k : KpC n₀ Bv Bd Y Z) : KpC n₀ Bv Bd X Z := ⟨h.1.trans k.1, k.2.1.trans h.2.1, k.2.2.trans h.2.2⟩
theorem kpc_b {n₀ Bv Bd : Nat} {w : World} (hn : n₀ ≤ w.heap.size) (hv : Bv < w.heap.size) (hd : Bd < w.heap.size) (W : World) (l : Nat) (o o' : Obj) (hl : w.heap.size ≤ l) (h : W.heap[l]? = some o) (a : o.isCells = false) (b : o.isWalk = false) : KpC n₀ Bv Bd W (W.putObj l o') :=
 ⟨belowK_b hn W l o o' hl h a b, World.putObj_heap_other (by omega), World.putObj_heap_other (by omega)⟩
theorem fit_put {w : World} {A : Option Addr} {c : Nat} {vs : List Int} {b : Option (Int × Int)} {d : Int} {Ds : List Nat} {S Bv Bd : Nat} {X Y : World} (h : FitInv w A c vs b d Ds S Y) (hXY : Below X.heap.size X Y) (hS : S ≤ X.heap.size) (hw : w.heap.size ≤ X.heap.size)
  (hv : w.heap.size + 4 ≤ Bv) (hv2 : Bv < S) (hd : w.heap.size + 4 ≤ Bd) (hd2 : Bd < S) (x y : Int) :
  KeepsFrom S X (((Y.setCell ⟨w.heap.size + 1 + 1 + 1, 0, none⟩ (.int .i64 x)).setCell ⟨w.heap.size + 1 + 1 + 1, 1, none⟩ (.int .i64 y)).setCell ⟨w.heap.size + 1 + 1 + 1, 2, none⟩ (.int .i64 d)) ∧
  KpC w.heap.size Bv Bd X (((Y.setCell ⟨w.heap.size + 1 + 1 + 1, 0, none⟩ (.int .i64 x)).setCell ⟨w.heap.size + 1 + 1 + 1, 1, none⟩ (.int .i64 y)).setCell ⟨w.heap.size + 1 + 1 + 1, 2, none⟩ (.int .i64 d)) ∧
  FitInv w A c vs (some (x, y)) d Ds S (((Y.setCell ⟨w.heap.size + 1 + 1 + 1, 0, none⟩ (.int .i64 x)).setCell ⟨w.heap.size + 1 + 1 + 1, 1, none⟩ (.int .i64 y)).setCell ⟨w.heap.size + 1 + 1 + 1, 2, none⟩ (.int .i64 d)) ∧
  S ≤ (((Y.setCell ⟨w.heap.size + 1 + 1 + 1, 0, none⟩ (.int .i64 x)).setCell ⟨w.heap.size + 1 + 1 + 1, 1, none⟩ (.int .i64 y)).setCell ⟨w.heap.size + 1 + 1 + 1, 2, none⟩ (.int .i64 d)).heap.size := by
 have hk : ∀ k, k ≠ w.heap.size + 1 + 1 + 1 → (((Y.setCell ⟨w.heap.size + 1 + 1 + 1, 0, none⟩ (.int .i64 x)).setCell ⟨w.heap.size + 1 + 1 + 1, 1, none⟩ (.int .i64 y)).setCell ⟨w.heap.size + 1 + 1 + 1, 2, none⟩ (.int .i64 d)).heap[k]? = Y.heap[k]? := fun k hk => by
  rw [Below.heap_setCell _ _ _ _ hk, Below.heap_setCell _ _ _ _ hk, Below.heap_setCell _ _ _ _ hk]
 have hsz : (((Y.setCell ⟨w.heap.size + 1 + 1 + 1, 0, none⟩ (.int .i64 x)).setCell ⟨w.heap.size + 1 + 1 + 1, 1, none⟩ (.int .i64 y)).setCell ⟨w.heap.size + 1 + 1 + 1, 2, none⟩ (.int .i64 d)).heap.size = Y.heap.size := by simp
 have hb : ∀ B, B ≤ w.heap.size + 1 + 1 + 1 → ∀ {W : World}, Below B W Y → Below B W (((Y.setCell ⟨w.heap.size + 1 + 1 + 1, 0, none⟩ (.int .i64 x)).setCell ⟨w.heap.size + 1 + 1 + 1, 1, none⟩ (.int .i64 y)).setCell ⟨w.heap.size + 1 + 1 + 1, 2, none⟩ (.int .i64 d)) := fun B hB W hW =>
  ((hW.setCell (p := ⟨w.heap.size + 1 + 1 + 1, 0, none⟩) hB _).setCell (p := ⟨w.heap.size + 1 + 1 + 1, 1, none⟩) hB _).setCell (p := ⟨w.heap.size + 1 + 1 + 1, 2, none⟩) hB _
 have hsXY := hXY.size
 refine ⟨⟨by omega, fun k o hk1 hk2 ho => ?_⟩, ⟨hb _ (by omega) (hXY.mono hw), ?_, ?_⟩, ?_, by omega⟩
 ·rw [hk k (by omega)]
  exact (hXY.block k (blk_lt hk2)).trans hk2
 ·rw [hk _ (by omega)]
  exact hXY.block _ (by omega)
 ·rw [hk _ (by omega)]
  exact hXY.block _ (by omega)
 ·refine h.put (fun k hk1 _ _ => hk k hk1) (by omega) (hb _ (by omega) h.below) ?_
  have h1 := h.best
  cases b with
  | none => exact blk_put (blk_put (blk_put h1 0 _ rfl) 1 _ rfl) 2 _ rfl
  | some p => exact blk_put (blk_put (blk_put h1 0 _ rfl) 1 _ rfl) 2 _ rfl
theorem fold_coord {vs : List Int} {d : Int} (pre : List CI) {p : Int × Int} (h : (pre.map Subtype.val).foldl (Q.step vs d) none = some p) : Q.Coord p.1 := by
 have h0 : Q.BestOf vs d [] none := ⟨fun _ a h => by simp at h, fun p e => by simp at e⟩
 have h1 := ((Q.BestOf.fold (pre.map Subtype.val) [] none h0).some p h).1
 simp only [List.nil_append, List.mem_map] at h1
 obtain ⟨x, _, e⟩ := h1
 rw [← e]
 exact x.2
def FitFound (w : World) (o : Option Q.Quo) (e : Ending) (w' : World) : Prop :=
 match o with
 | none => FitPost w 0 0 0 false 0 e w'
 | some q => FitPost w q.A q.B q.D true 0 e w'
set_option maxRecDepth 100000 in
set_option maxHeartbeats 1000000 in
theorem fit_main (A : Option Addr) (c : Nat) (vs : List Int) (w : World) (hrow : Kd.C (Kd.int .i64) w A vs.length vs) (hcap : vs.length ≤ c) (h1 : 1 ≤ vs.length) (hl : vs.length ≤ 4000) (hco : ∀ x ∈ vs, Q.Coord x) :
  Calls Try.prog 30 #[.slice A vs.length c] w (FitFound w (Q.fitL vs)) := by
 have hr1 := row_below hrow ((((Below.refl w.heap.size w).alloc (Nat.le_refl _) (.cells #[.slice A vs.length c] 24)).alloc (by simp) (.cells #[.int .i64 0, .int .i64 0, .int .i64 0] 23)))
 refine callsIn_wide.1 (callsIn_of_wp_marks (n := 9) Try.func30 rfl trivial ?_ rfl)
 refine wpIn_wide.2 ?_
 simp only [Try.ntmps30, List.size_toArray, List.length_cons, List.length_nil, Nat.reduceAdd, Nat.reduceSub, Array.replicate_succ, Array.replicate_zero, List.push_toArray, List.append_toArray, List.nil_append, List.cons_append]
 have Hco := Lib.hid hco
 clear hco
 go_wp2
 refine wp_scope_straight ?_
 go_wp2
 go_loop [19] (fun i => ∃ k : Nat, k ≤ vs.length ∧ i = .int .i64 k) (fun i => vs.length - (intOf i).toNat)
 case atStart => exact ⟨0, Nat.zero_le _, rfl⟩
 case round =>
  obtain ⟨k, hk, rfl⟩ := hrel
  by_cases hkm : k < vs.length
  ·obtain ⟨ad, rfl, hc⟩ := row_cell hr1 hkm
   have hcd := Hco.out _ (rd_mem hkm)
   go_wp2_with (go_at_call 70; (with_reducible refine (isCoord_yes _ _ hcd).mono ?_); rintro e w2 ⟨rfl, rfl⟩)
   go_round
   case rel => exact ⟨k + 1, by omega, by go_num⟩
   case measure => simp [intOf]; omega
  ·obtain rfl : k = vs.length := by omega
   go_wp2
   refine wp_label ?_
   have hI0 : FitInv w A c vs none 1 [] (w.heap.size + 4) ((((w.alloc (.cells #[.slice A vs.length c] 24)).alloc (.cells #[.int .i64 0, .int .i64 0, .int .i64 0] 23)).alloc (.cells #[.func (.func 72) #[] #[]] 43)).alloc (.cells #[.int .i64 0, .int .i64 0, .int .i64 0] 23)) := by
    refine ⟨blk_alloc (blk_alloc (blk_alloc (blk_new' rfl) _) _) _, blk_alloc (blk_alloc (blk_new' (by simp)) _) _, blk_alloc (blk_new' (by simp)) _, blk_new' (by simp), ?_, ⟨by simp, by simp⟩⟩
    exact ((((Below.refl _ _).alloc (Nat.le_refl _) _).alloc (by simp) _).alloc (by simp; omega) _).alloc (by simp; omega) _
   have hS0 : w.heap.size + 4 = ((((w.alloc (.cells #[.slice A vs.length c] 24)).alloc (.cells #[.int .i64 0, .int .i64 0, .int .i64 0] 23)).alloc (.cells #[.func (.func 72) #[] #[]] 43)).alloc (.cells #[.int .i64 0, .int .i64 0, .int .i64 0] 23)).heap.size := by simp
   generalize ((((w.alloc (.cells #[.slice A vs.length c] 24)).alloc (.cells #[.int .i64 0, .int .i64 0, .int .i64 0] 23)).alloc (.cells #[.func (.func 72) #[] #[]] 43)).alloc (.cells #[.int .i64 0, .int .i64 0, .int .i64 0] 23)) = W0 at hI0 hS0 ⊢
   clear hr1
   go_wp2
   refine wp_loop (fun a W => ∃ (d : Int) (Ds : List Nat) (x32 x33 x34 x35 x36 x37 x38 x59 x60 x61 : Value), a = { tmps := #[.slice A vs.length c, .pointer (some ⟨w.heap.size, 0, none⟩), .pointer (some ⟨w.heap.size + 1, 0, none⟩), u3, u4, undef, u6, .pointer (some ⟨w.heap.size + 1 + 1, 0, none⟩), .pointer (some ⟨w.heap.size + 1 + 1 + 1, 0, none⟩), .int .i64 d, undef, undef, undef, .slice A vs.length c, .int .i64 vs.length, .bool (decide (4000 < (vs.length : Int))), undef, .slice A vs.length c, .int .i64 vs.length, .int .i64 vs.length, .bool false, u21, u22, u23, u24, u25, u26, u27, .slice A vs.length c, .int .i64 vs.length, .bool false, undef, x32, x33, x34, x35, x36, x37, x38, undef, undef, undef, undef, undef, undef, undef, undef, undef, undef, undef, undef, undef, undef, undef, undef, undef, undef, undef, undef, x59, x60, x61, undef, undef, undef, undef], defers := Ds.map mark } ∧
    (1 ≤ d ∧ d ≤ 17) ∧ Hid (Q.fitL vs = Q.findD vs (17 - d).toNat d) ∧ FitInv w A c vs none 1 Ds W.heap.size W ∧ w.heap.size + 4 ≤ W.heap.size) (fun a _ => (17 - intOf (a.tmps.getD 9 undef)).toNat) ?_ ?_
   ·exact ⟨1, [], undef, undef, undef, undef, undef, undef, undef, undef, undef, undef, rfl, by omega, Lib.hid rfl, by rw [← hS0]; exact hI0, by omega⟩
   ·rintro a W ⟨d, Ds, x32, x33, x34, x35, x36, x37, x38, x59, x60, x61, rfl, ⟨hd1, hd2⟩, Hf, hI, hsz⟩
    by_cases hd : d ≤ 16
    ·have cBox : W.cell? ⟨w.heap.size, 0, none⟩ = some (.slice A vs.length c) := (blk_cell hI.box 0).trans rfl
     go_wp2_with (go_at_call 75; (with_reducible refine (candidates_calls _ _ _ _ _).mono ?_); rintro e w2 ⟨rfl, rfl⟩)
     have hI1 : FitInv w A c vs none d Ds (W.heap.size + 2) ((W.alloc (.cells #[.slice A vs.length c] 24)).alloc (.cells #[.int .i64 d] 3)) ∧ W.heap.size + 2 ≤ ((W.alloc (.cells #[.slice A vs.length c] 24)).alloc (.cells #[.int .i64 d] 3)).heap.size :=
      ⟨((hI.move (W' := (W.alloc (.cells #[.slice A vs.length c] 24)).alloc (.cells #[.int .i64 d] 3)) (fun k hk _ => by rw [heap_alloc_lt _ _ (by simp; omega), heap_alloc_lt _ _ hk]) hsz ((hI.below.alloc hI.below.size _).alloc (by have := hI.below.size; simp; omega) _)).dee d).wide (by omega), by simp⟩
     have hsz1 : ((W.alloc (.cells #[.slice A vs.length c] 24)).alloc (.cells #[.int .i64 d] 3)).heap.size = W.heap.size + 2 := by simp
     have hv1 : ((W.alloc (.cells #[.slice A vs.length c] 24)).alloc (.cells #[.int .i64 d] 3)).heap[W.heap.size]? = some (.cells #[.slice A vs.length c] 24 (0, 0)) := blk_alloc (blk_new _ _) _
     have hv2 : ((W.alloc (.cells #[.slice A vs.length c] 24)).alloc (.cells #[.int .i64 d] 3)).heap[W.heap.size + 1]? = some (.cells #[.int .i64 d] 3 (0, 0)) := by
      have := blk_new (W.alloc (.cells #[.slice A vs.length c] 24)) (.cells #[.int .i64 d] 3)
      rwa [World.size_alloc] at this
     generalize (W.alloc (.cells #[.slice A vs.length c] 24)).alloc (.cells #[.int .i64 d] 3) = W1 at hI1 hsz1 hv1 hv2 ⊢
     have hrow1 := row_below hrow hI1.1.below
     refine (wpIn_wide (n := 9)).1 ?_
     refine wpIn_rangeFunc_ownH (F := Fence.wide) rfl (by omega) (gf := 117) (lb := #[.pointer (some ⟨W.heap.size, 0, none⟩), .pointer (some ⟨W.heap.size + 1, 0, none⟩)]) rfl trivial (enters_of Try.func117 (by kernel_rfl) rfl)
      (cands_stops 8 (by omega) W.heap.size (W.heap.size + 1) w.heap.size A c vs d hd1 hd h1 hl Hco.out W1 (by omega) (by omega) ((blk_cell hv1 0).trans rfl) ((blk_cell hv2 0).trans rfl) hrow1)
      (kpc_t) (kpc_b (by omega) (by omega) (by omega)) (Below.refl _ _) (fun _ => rfl)
      (fun pre X => FitInv w A c vs ((pre.map Subtype.val).foldl (Q.step vs d) none) d Ds W1.heap.size X ∧ W1.heap.size ≤ X.heap.size)
      (fun _ _ _ => False)
      (FitInv.ownFrom w A c vs (fun (pre : List CI) => (pre.map Subtype.val).foldl (Q.step vs d) none) d Ds W1.heap.size (by omega))
      (fun _ _ _ _ _ hs _ _ => hs)
      (by rw [hsz1]; exact ⟨hI1.1, by omega⟩)
      (fun x a' X => ∃ Bx, W1.heap.size ≤ Bx ∧ X.heap[Bx]? = some (.cells #[.int .i64 x.1, .int .i64 0, .int .i64 d] 23 (0, 0)) ∧ a' = { tmps := #[.slice A vs.length c, .pointer (some ⟨w.heap.size, 0, none⟩), .pointer (some ⟨w.heap.size + 1, 0, none⟩), u3, u4, undef, u6, .pointer (some ⟨w.heap.size + 1 + 1, 0, none⟩), .pointer (some ⟨w.heap.size + 1 + 1 + 1, 0, none⟩), .int .i64 d, .pointer (some ⟨Bx, 0, none⟩), undef, undef, .slice A vs.length c, .int .i64 vs.length, .bool (decide (4000 < (vs.length : Int))), undef, .slice A vs.length c, .int .i64 vs.length, .int .i64 vs.length, .bool false, u21, u22, u23, u24, u25, u26, u27, .slice A vs.length c, .int .i64 vs.length, .bool false, undef, .int .i64 d, .bool true, x34, x35, .slice A vs.length c, .int .i64 d, .func (.func 117) #[] #[.pointer (some ⟨W.heap.size, 0, none⟩), .pointer (some ⟨W.heap.size + 1, 0, none⟩)], .agg #[.int .i64 x.1, .int .i64 0, .int .i64 d], undef, undef, undef, undef, undef, undef, undef, undef, undef, undef, undef, undef, undef, undef, undef, undef, undef, undef, undef, x59, x60, x61, undef, undef, undef, undef], defers := [] })
      (fun x a' => by
       rintro _ X Y row ⟨Bx, g1, g2, g3⟩ hg hr
       refine ⟨Bx, g1, blk_grown g2 hg (fun e => ?_), g3⟩
       obtain ⟨_, o, ho, hc⟩ := hr Bx e.symm
       rw [g2] at ho
       cases ho
       cases hc)
      ?assign ?body ?done ?stop
     case assign =>
      rintro l pre x X K ⟨hi, hs⟩ hK
      gi_wp2
      refine hK _ _ ?_ ?_ ?_ ⟨X.heap.size, by omega, blk_new _ _, rfl⟩
      ·exact (KeepsOthers.alloc _ _).from _
      ·exact ⟨(Below.refl _ _).alloc (by omega) _, heap_alloc_lt _ _ (by omega), heap_alloc_lt _ _ (by omega)⟩
      ·exact ⟨hi.move (fun k hk _ => heap_alloc_lt _ _ (by omega)) (by omega) (hi.below.alloc hi.below.size _), by simp; omega⟩
     case body =>
      rintro l pre x a' X hl' ⟨r, hr⟩ ⟨hI2, hS2⟩ ⟨Bx, hBx, hX, rfl⟩ hlt
      obtain ⟨x, hx⟩ := x
      dsimp only at *
      have hfit := fitting_f vs x d hx ⟨hd1, hd⟩ hl Hco.out
      have hBxl : Bx < X.heap.size := blk_lt hX
      have cX0 : X.cell? ⟨Bx, 0, none⟩ = some (.int .i64 x) := (blk_cell hX 0).trans rfl
      have cX1 : X.cell? ⟨Bx, 1, none⟩ = some (.int .i64 0) := (blk_cell hX 1).trans rfl
      have cX2 : X.cell? ⟨Bx, 2, none⟩ = some (.int .i64 d) := (blk_cell hX 2).trans rfl
      have cBo : X.cell? ⟨w.heap.size, 0, none⟩ = some (.slice A vs.length c) := (blk_cell hI2.box 0).trans rfl
      have hrow2 := row_below hrow hI2.below
      have hstep : ((pre ++ [(⟨x, hx⟩ : CI)]).map Subtype.val).foldl (Q.step vs d) none = Q.step vs d ((pre.map Subtype.val).foldl (Q.step vs d) none) x := by simp
      obtain ⟨b0, hb0⟩ : ∃ b0, (pre.map Subtype.val).foldl (Q.step vs d) none = b0 := ⟨_, rfl⟩
      rw [hb0] at hI2 hstep
      have Hstep := Lib.hid hstep
      have Hb0 := Lib.hid hb0
      clear hstep hb0
      by_cases hbs : (Q.bs vs x d).1 ≤ (Q.bs vs x d).2
      ·have hres : fitRes x d (Q.bs vs x d) = (x, (Q.bs vs x d).1, d, true) := by unfold fitRes; rw [if_pos hbs]
       rw [hres] at hfit
       obtain ⟨lo, hlo⟩ : ∃ lo, (Q.bs vs x d).1 = lo := ⟨_, rfl⟩
       rw [hlo] at hfit
       have hst0 : Q.step vs d none x = some (x, lo) := by unfold Q.step; rw [if_pos hbs, hlo]
       have hst1 : ∀ p : Int × Int, Q.step vs d (some p) x = if Q.better x p.1 then some (x, lo) else some p := fun p => by unfold Q.step; rw [if_pos hbs, hlo]
       have Hst0 := Lib.hid hst0
       have Hst1 := Lib.hid hst1
       clear hlo hres hst0 hst1 hbs
       have hund : undef = Value.tuple #[] := rfl
       cases b0 with
       | none =>
        gi_wp2_with (refine ⟨trivial, ?_⟩; gi_at_call 76; (with_reducible refine (CallsIn.inRound l (callsIn_wide.2 (quot_fitting.calls 5000 x 0 d A c vs x lo d true X hrow2 hcap hfit))).mono ?_); rintro e X2 ⟨rfl, hb2⟩; have hI3 := fitInv_q hI2 hS2 (by omega) hb2 x lo d; have c30 : (X2.alloc (.cells #[.int .i64 x, .int .i64 lo, .int .i64 d] 23)).cell? ⟨w.heap.size + 1 + 1 + 1, 0, none⟩ = some (.int .i64 0) := (blk_cell hI3.1.best 0).trans rfl; have c31 : (X2.alloc (.cells #[.int .i64 x, .int .i64 lo, .int .i64 d] 23)).cell? ⟨w.heap.size + 1 + 1 + 1, 1, none⟩ = some (.int .i64 0) := (blk_cell hI3.1.best 1).trans rfl; have c32 : (X2.alloc (.cells #[.int .i64 x, .int .i64 lo, .int .i64 d] 23)).cell? ⟨w.heap.size + 1 + 1 + 1, 2, none⟩ = some (.int .i64 0) := (blk_cell hI3.1.best 2).trans rfl; have f30 := blk_frozen hI3.1.best 0; have f31 := blk_frozen hI3.1.best 1; have f32 := blk_frozen hI3.1.best 2)
        have hXY := hb2.alloc hb2.size (.cells #[.int .i64 x, .int .i64 lo, .int .i64 d] 23)
        obtain ⟨k1, k2, k3, k4⟩ := fit_put (Bv := W.heap.size) (Bd := W.heap.size + 1) hI3.1 hXY hS2 hI2.below.size (by omega) (by omega) (by omega) (by omega) x lo
        exact ⟨k1, k2, by rw [Hstep.out, Hst0.out]; exact k3, k4⟩
       | some p =>
        have hpc := fold_coord pre Hb0.out
        have hbf := before_f x lo d p.1 p.2 d hx hpc
        have hd0 : (d == 0) = false := by simp; omega
        by_cases hbt : Q.better x p.1
        ·rw [decide_eq_true hbt] at hbf
         gi_wp2_with (first
          | (refine ⟨trivial, ?_⟩; gi_at_call 76; (with_reducible refine (CallsIn.inRound l (callsIn_wide.2 (quot_fitting.calls 5000 x 0 d A c vs x lo d true X hrow2 hcap hfit))).mono ?_); rintro e X2 ⟨rfl, hb2⟩; have hI3 := fitInv_q hI2 hS2 (by omega) hb2 x lo d; have c30 : (X2.alloc (.cells #[.int .i64 x, .int .i64 lo, .int .i64 d] 23)).cell? ⟨w.heap.size + 1 + 1 + 1, 0, none⟩ = some (.int .i64 p.1) := (blk_cell hI3.1.best 0).trans rfl; have c31 : (X2.alloc (.cells #[.int .i64 x, .int .i64 lo, .int .i64 d] 23)).cell? ⟨w.heap.size + 1 + 1 + 1, 1, none⟩ = some (.int .i64 p.2) := (blk_cell hI3.1.best 1).trans rfl; have c32 : (X2.alloc (.cells #[.int .i64 x, .int .i64 lo, .int .i64 d] 23)).cell? ⟨w.heap.size + 1 + 1 + 1, 2, none⟩ = some (.int .i64 d) := (blk_cell hI3.1.best 2).trans rfl; have c33 : (X2.alloc (.cells #[.int .i64 x, .int .i64 lo, .int .i64 d] 23)).cell? ⟨w.heap.size + 1 + 1, 0, none⟩ = some (.func (.func 72) #[] #[]) := (blk_cell hI3.1.bef 0).trans rfl)
          | (refine ⟨trivial, ?_⟩; gi_at_call 72; (with_reducible refine (CallsIn.inRound l (callsIn_wide.2 (quot_Fit_1.calls 5 x lo d p.1 p.2 d true _ hbf))).mono ?_); rintro e X3 ⟨rfl, hb3⟩; have hq3 := blk_below (blk_new X2 (.cells #[.int .i64 x, .int .i64 lo, .int .i64 d] 23)) hb3; have q0 : X3.cell? ⟨X2.heap.size, 0, none⟩ = some (.int .i64 x) := (blk_cell hq3 0).trans rfl; have q1 : X3.cell? ⟨X2.heap.size, 1, none⟩ = some (.int .i64 lo) := (blk_cell hq3 1).trans rfl; have q2 : X3.cell? ⟨X2.heap.size, 2, none⟩ = some (.int .i64 d) := (blk_cell hq3 2).trans rfl; have hI4 := fitInv_next hI3.1 (by simp; omega) (by omega) hb3; have c40 : X3.cell? ⟨w.heap.size + 1 + 1 + 1, 0, none⟩ = some (.int .i64 p.1) := (blk_cell hI4.best 0).trans rfl; have c41 : X3.cell? ⟨w.heap.size + 1 + 1 + 1, 1, none⟩ = some (.int .i64 p.2) := (blk_cell hI4.best 1).trans rfl; have c42 : X3.cell? ⟨w.heap.size + 1 + 1 + 1, 2, none⟩ = some (.int .i64 d) := (blk_cell hI4.best 2).trans rfl; have f40 := blk_frozen hI4.best 0; have f41 := blk_frozen hI4.best 1; have f42 := blk_frozen hI4.best 2))
         have hXY := hb2.alloc hb2.size (.cells #[.int .i64 x, .int .i64 lo, .int .i64 d] 23)
         have hXZ := hXY.trans (hb3.mono hXY.size)
         obtain ⟨k1, k2, k3, k4⟩ := fit_put (Bv := W.heap.size) (Bd := W.heap.size + 1) hI4 hXZ hS2 hI2.below.size (by omega) (by omega) (by omega) (by omega) x lo
         exact ⟨k1, k2, by rw [Hstep.out, Hst1.out, if_pos hbt]; exact k3, k4⟩
        ·rw [decide_eq_false hbt] at hbf
         gi_wp2_with (first
          | (refine ⟨trivial, ?_⟩; gi_at_call 76; (with_reducible refine (CallsIn.inRound l (callsIn_wide.2 (quot_fitting.calls 5000 x 0 d A c vs x lo d true X hrow2 hcap hfit))).mono ?_); rintro e X2 ⟨rfl, hb2⟩; have hI3 := fitInv_q hI2 hS2 (by omega) hb2 x lo d; have c30 : (X2.alloc (.cells #[.int .i64 x, .int .i64 lo, .int .i64 d] 23)).cell? ⟨w.heap.size + 1 + 1 + 1, 0, none⟩ = some (.int .i64 p.1) := (blk_cell hI3.1.best 0).trans rfl; have c31 : (X2.alloc (.cells #[.int .i64 x, .int .i64 lo, .int .i64 d] 23)).cell? ⟨w.heap.size + 1 + 1 + 1, 1, none⟩ = some (.int .i64 p.2) := (blk_cell hI3.1.best 1).trans rfl; have c32 : (X2.alloc (.cells #[.int .i64 x, .int .i64 lo, .int .i64 d] 23)).cell? ⟨w.heap.size + 1 + 1 + 1, 2, none⟩ = some (.int .i64 d) := (blk_cell hI3.1.best 2).trans rfl; have c33 : (X2.alloc (.cells #[.int .i64 x, .int .i64 lo, .int .i64 d] 23)).cell? ⟨w.heap.size + 1 + 1, 0, none⟩ = some (.func (.func 72) #[] #[]) := (blk_cell hI3.1.bef 0).trans rfl)
          | (refine ⟨trivial, ?_⟩; gi_at_call 72; (with_reducible refine (CallsIn.inRound l (callsIn_wide.2 (quot_Fit_1.calls 5 x lo d p.1 p.2 d false _ hbf))).mono ?_); rintro e X3 ⟨rfl, hb3⟩; have hI4 := fitInv_next hI3.1 (by simp; omega) (by omega) hb3))
         have hXY := hb2.alloc hb2.size (.cells #[.int .i64 x, .int .i64 lo, .int .i64 d] 23)
         have hXZ := hXY.trans (hb3.mono hXY.size)
         exact ⟨keepsFrom_below hXZ, ⟨hXZ.mono hI2.below.size, hXZ.block _ (by omega), hXZ.block _ (by omega)⟩, by rw [Hstep.out, Hst1.out, if_neg hbt]; exact hI4, by have := hXZ.size; omega⟩
      ·have hres : fitRes x d (Q.bs vs x d) = (0, 0, 0, false) := by unfold fitRes; rw [if_neg hbs]
       rw [hres] at hfit
       have hst : Q.step vs d b0 x = b0 := by unfold Q.step; rw [if_neg hbs]
       have Hst := Lib.hid hst
       clear hst hres hbs
       have hund : undef = Value.tuple #[] := rfl
       gi_wp2_with (refine ⟨trivial, ?_⟩; gi_at_call 76; (with_reducible refine (CallsIn.inRound l (callsIn_wide.2 (quot_fitting.calls 5000 x 0 d A c vs 0 0 0 false X hrow2 hcap hfit))).mono ?_); rintro e X2 ⟨rfl, hb2⟩; have hI3 := fitInv_q hI2 hS2 (by omega) hb2 0 0 0)
       have hXY := hb2.alloc hb2.size (.cells #[.int .i64 0, .int .i64 0, .int .i64 0] 23)
       exact ⟨keepsFrom_below hXY, ⟨hXY.mono hI2.below.size, hXY.block _ (by omega), hXY.block _ (by omega)⟩, by rw [Hstep.out, Hst.out]; exact hI3.1, by have := hXY.size; omega⟩
     case done =>
      rintro D ys X hD hys ⟨hI2, hS2⟩ hK
      have hbD : (ys.map Subtype.val).foldl (Q.step vs d) none = Q.bestD vs d := by rw [hys]; rfl
      rw [hbD] at hI2
      clear hbD hys
      cases hbd : Q.bestD vs d with
      | none =>
       rw [hbd] at hI2
       have Hbd := Lib.hid hbd
       clear hbd
       have c2 : X.cell? ⟨w.heap.size + 1 + 1 + 1, 2, none⟩ = some (.int .i64 0) := (blk_cell hI2.best 2).trans rfl
       go_wp2
       refine ⟨⟨d + 1, D :: Ds, _, _, _, _, _, _, _, _, _, _, rfl, ⟨by omega, by omega⟩, Lib.hid ?_, ?_, by omega⟩, by simp [intOf]; omega⟩
       ·rw [Hf.out, show (17 - d).toNat = (17 - (d + 1)).toNat + 1 by omega]
        rw [Q.findD, Hbd.out]
       ·exact ((hI2.dee 1).wide hS2).more hK (by omega) (fun h => by have := (hI2.marks.2 D h).2.1; omega)
      | some p =>
       rw [hbd] at hI2
       have Hbd := Lib.hid hbd
       clear hbd
       have c0 : X.cell? ⟨w.heap.size + 1 + 1 + 1, 0, none⟩ = some (.int .i64 p.1) := (blk_cell hI2.best 0).trans rfl
       have c1 : X.cell? ⟨w.heap.size + 1 + 1 + 1, 1, none⟩ = some (.int .i64 p.2) := (blk_cell hI2.best 1).trans rfl
       have c2 : X.cell? ⟨w.heap.size + 1 + 1 + 1, 2, none⟩ = some (.int .i64 d) := (blk_cell hI2.best 2).trans rfl
       have r0 : X.cell? ⟨w.heap.size + 1, 0, none⟩ = some (.int .i64 0) := (blk_cell hI2.res 0).trans rfl
       have r1 : X.cell? ⟨w.heap.size + 1, 1, none⟩ = some (.int .i64 0) := (blk_cell hI2.res 1).trans rfl
       have r2 : X.cell? ⟨w.heap.size + 1, 2, none⟩ = some (.int .i64 0) := (blk_cell hI2.res 2).trans rfl
       have g0 := blk_frozen hI2.res 0
       have g1 := blk_frozen hI2.res 1
       have g2 := blk_frozen hI2.res 2
       go_wp2
       go_region
       all_goals go_wp2
       rw [Exit.noGoto_ret]
       refine fit_end (Ds := D :: Ds) (S := X.heap.size) ((hI2.wide hS2).more hK (by omega) (fun h => by have := (hI2.marks.2 D h).2.1; omega)) p.1 p.2 d true _ rfl rfl rfl _ fun e W' hp => ?_
       have hf : Q.fitL vs = some ⟨p.1, p.2, d⟩ := by
        rw [Hf.out, show (17 - d).toNat = (17 - (d + 1)).toNat + 1 by omega]
        rw [Q.findD, Hbd.out]
       rw [hf]
       exact hp
     case stop =>
      rintro D c' pre X _ _ h _
      exact h.elim
    ·obtain rfl : d = 17 := by omega
     have c0 : W.cell? ⟨w.heap.size + 1 + 1 + 1, 0, none⟩ = some (.int .i64 0) := (blk_cell hI.best 0).trans rfl
     have c1 : W.cell? ⟨w.heap.size + 1 + 1 + 1, 1, none⟩ = some (.int .i64 0) := (blk_cell hI.best 1).trans rfl
     have c2 : W.cell? ⟨w.heap.size + 1 + 1 + 1, 2, none⟩ = some (.int .i64 0) := (blk_cell hI.best 2).trans rfl
     have r0 : W.cell? ⟨w.heap.size + 1, 0, none⟩ = some (.int .i64 0) := (blk_cell hI.res 0).trans rfl
     have r1 : W.cell? ⟨w.heap.size + 1, 1, none⟩ = some (.int .i64 0) := (blk_cell hI.res 1).trans rfl
     have r2 : W.cell? ⟨w.heap.size + 1, 2, none⟩ = some (.int .i64 0) := (blk_cell hI.res 2).trans rfl
     have g0 := blk_frozen hI.res 0
     have g1 := blk_frozen hI.res 1
     have g2 := blk_frozen hI.res 2
     go_wp2
     go_region
     all_goals go_wp2
     try rw [Exit.noGoto_ret]
     refine fit_end (Ds := Ds) (S := W.heap.size) hI 0 0 0 false _ rfl rfl rfl _ fun e W' hp => ?_
     have hf : Q.fitL vs = none := by rw [Hf.out]; rfl
     rw [hf]
     exact hp
theorem quot_Fit.calls (A0 : Option Addr) (c0 : Nat) (l0 : List Int) (r1 : Int) (r2 : Int) (r3 : Int) (r4 : Bool) (r5 : Int) (w : World) (hr0 : Kd.C (Kd.int .i64) w A0 l0.length l0) (hc0 : l0.length ≤ c0) (h : quot_Fit.f l0 = some (r1, r2, r3, r4, r5)) :
  Calls Try.prog 30 #[.slice A0 l0.length c0] w fun e w' => e = .returned (.tuple #[.agg #[.int .i64 r1, .int .i64 r2, .int .i64 r3], .bool r4, .int .i64 r5]) ∧ Below w.heap.size w w' := by
 show Calls Try.prog 30 #[.slice A0 l0.length c0] w (FitPost w r1 r2 r3 r4 r5)
 unfold quot_Fit.f fitOut at h
 by_cases h1 : l0.length > 4000
 ·rw [if_pos h1] at h
  obtain ⟨rfl, rfl, rfl, rfl, rfl⟩ : 0 = r1 ∧ 0 = r2 ∧ 0 = r3 ∧ false = r4 ∧ 2 = r5 := by simpa using h
  exact fit_long A0 c0 l0.length w h1 hr0.2.1
 ·rw [if_neg h1] at h
  by_cases h2 : l0.all (fun x => decide (Q.Coord x)) = false
  ·rw [if_pos h2] at h
   obtain ⟨rfl, rfl, rfl, rfl, rfl⟩ : 0 = r1 ∧ 0 = r2 ∧ 0 = r3 ∧ false = r4 ∧ 1 = r5 := by simpa using h
   have hex : ∃ m, m < l0.length ∧ ¬ Q.Coord (rd l0 (m : Nat)) := by
    rw [List.all_eq_false] at h2
    obtain ⟨x, hx, hn⟩ := h2
    obtain ⟨i, hi, rfl⟩ := List.getElem_of_mem hx
    refine ⟨i, hi, ?_⟩
    unfold rd
    simpa [List.getD_eq_getElem?_getD, hi] using hn
   obtain ⟨m, ⟨hm1, hm2⟩, hmin⟩ := exists_least hex
   exact fit_bad A0 c0 l0 w hr0 (by omega) m hm1 hm2 fun i hi => by
    by_cases hc : Q.Coord (rd l0 (i : Nat))
    ·exact hc
    ·have := hmin i ⟨by omega, hc⟩
     omega
  ·rw [if_neg h2] at h
   by_cases h3 : l0.length = 0
   ·rw [if_pos h3] at h
    obtain ⟨rfl, rfl, rfl, rfl, rfl⟩ : 0 = r1 ∧ 0 = r2 ∧ 0 = r3 ∧ false = r4 ∧ 1 = r5 := by simpa using h
    rw [h3]
    exact fit_empty A0 c0 w
   ·rw [if_neg h3] at h
    have hco : ∀ x ∈ l0, Q.Coord x := by simpa using h2
    refine (fit_main A0 c0 l0 w hr0 hc0 (by omega) (by omega) hco).mono fun e W' hp => ?_
    cases hf : Q.fitL l0 with
    | none =>
     rw [hf] at h hp
     obtain ⟨rfl, rfl, rfl, rfl, rfl⟩ : 0 = r1 ∧ 0 = r2 ∧ 0 = r3 ∧ false = r4 ∧ 0 = r5 := by simpa using h
     exact hp
    | some q =>
     rw [hf] at h hp
     obtain ⟨rfl, rfl, rfl, rfl, rfl⟩ : q.A = r1 ∧ q.B = r2 ∧ q.D = r3 ∧ true = r4 ∧ 0 = r5 := by simpa using h
     exact hp
end Go.Proofs.Ytjpghfjaloglhaa.PContract

