import Derived.Test.YtjpghfjaloglhaaZTMWMore
import Derived.Test.YtjpghfjaloglhaaZTMWLast
import Derived.Test.YtjpghfjaloglhaaZTMWWords
/-
Short names for what the printed walks say again and again (wip/tools/zip.py writes them into a printed text).
Conditions: those that each lemma names.
-/
namespace Go.Proofs.Ytjpghfjaloglhaa.Zip
set_option linter.unusedVariables false
open Go.RowKit Go.Proofs.YtjpghfjaloglhaaW.PrintWords Go.Proofs.YtjpghfjaloglhaaW.PrintLast Go.Proofs.YtjpghfjaloglhaaW.PrintMore
abbrev tt : Bool := true
abbrev ff : Bool := false
theorem bel {w W : World} (h : Below w.heap.size w W := by repeat (first | (with_reducible first | exact Aside0.out (by assumption) | apply below_alloc | apply pw_below_drewN | apply below_drew1 | refine below_set ?_ (Aside0.out (by assumption))) | exact Aside0.out (by assumption))) : Below w.heap.size w W := h
theorem gwl (w : World) {W : World} {g : Nat} (hg : g = W.heap.size) (h : Below w.heap.size w W := by repeat (first | (with_reducible first | exact Aside0.out (by assumption) | apply below_alloc | apply pw_below_drewN | apply below_drew1 | refine below_set ?_ (Aside0.out (by assumption))) | exact Aside0.out (by assumption))) : w.heap.size ≤ g := by
  rw [hg]
  exact h.size
theorem bkl {w W : World} {g : Nat} {o : Obj} (h0 : Aside0 (w.heap[g]? = some o)) (h : W.heap[g]? = some o := by (with_reducible repeat (first | refine blk_drewN ?_ _ | refine blk_drew ?_ | refine blk_alloc ?_ _)); exact Aside0.out (by assumption)) : W.heap[g]? = some o := h
theorem nbl {w W : World} {g g' : Nat} {o : Obj} (h0 : Aside0 (w.heap[g]? = some o)) (hg : g' = W.heap.size) (h : W.heap[g]? = some o := by (with_reducible repeat (first | refine blk_drewN ?_ _ | refine blk_drew ?_ | refine blk_alloc ?_ _)); exact Aside0.out (by assumption)) : g ≠ g' := by
  rw [hg]
  exact Nat.ne_of_lt (blk_lt h)
theorem nbg {w W : World} {g g' : Nat} {o : Obj} (h0 : Aside0 (w.heap[g]? = some o)) (hg : g' = W.heap.size) (h : W.heap[g]? = some o := by (with_reducible repeat (first | refine blk_drewN ?_ _ | refine blk_drew ?_ | refine blk_alloc ?_ _)); exact Aside0.out (by assumption)) : g' ≠ g := by
  rw [hg]
  exact Nat.ne_of_gt (blk_lt h)
theorem krl {α : Type} {d : Kd α} {e base : Nat} {ok : Nat → Prop} {v : Value} {xs : List α} {w W : World} (h0 : Aside0 (d.R e w base ok v xs)) (h : d.R e W base ok v xs := by (with_reducible repeat (first | apply Kd.R_alloc | apply Kd.R_drewN | apply Kd.R_drew)); exact Aside0.out (by assumption)) : d.R e W base ok v xs := h
theorem gla {α : Type} {x y : α} (h : x = y := by (try simp only [List.map_toArray, List.map_cons, List.map_nil]); first | done | rfl | (simp only [List.length_drop, List.length_take]; rfl)) : x = y := h
theorem apt {α : Type} {x y : α} (h : x = y := by simp only [Act.put, List.setIfInBounds_toArray, List.set_cons_zero, List.set_cons_succ, i64_w, i32_w]; rfl) : x = y := h
theorem fne {w : World} {A : Addr} {v : Value} {g b : Nat} (hw : w.cell? A = some v) (hg : Aside0 (w.heap.size ≤ g)) (h : b = A.block := by first | rfl | (simp only [add_block]; done) | (dsimp only; simp only [add_block]; done)) : b ≠ g := by
  rw [h]
  exact Nat.ne_of_lt (Nat.lt_of_lt_of_le (World.block_lt_of_cell? _ _ hw) hg.out)
theorem bkf {w W : World} {g : Nat} {o : Obj} (h0 : Aside0 (w.heap[g]? = some o)) (h : W.heap[g]? = some o := by repeat (first | (with_reducible exact Aside0.out (by assumption)) | (with_reducible first | refine blk_drewN ?_ _ | refine blk_drew ?_ | refine blk_alloc ?_ _) | refine blk_far ?_ (Aside0.out (by assumption)) _ | exact Aside0.out (by assumption))) : W.heap[g]? = some o := h
theorem bka {w W W2 : World} {g : Nat} {o : Obj} (h0 : Aside0 (w.heap[g]? = some o)) (hb : Below W.heap.size W W2) (h : W.heap[g]? = some o := by (with_reducible repeat (first | refine blk_drewN ?_ _ | refine blk_drew ?_ | refine blk_alloc ?_ _)); exact Aside0.out (by assumption)) : Aside0 (W2.heap[g]? = some o) := ⟨blk_below h hb⟩
theorem hba {w W W2 : World} (hb : Below W.heap.size W W2) (h : Below w.heap.size w W := by repeat (first | (with_reducible first | exact Aside0.out (by assumption) | apply below_alloc | apply pw_below_drewN | apply below_drew1 | refine below_set ?_ (Aside0.out (by assumption))) | exact Aside0.out (by assumption))) : Aside0 (Below w.heap.size w W2) := ⟨below_step h hb⟩
theorem hoa {α : Type} {d : Kd α} {e base : Nat} {ok : Nat → Prop} {v : Value} {xs : List α} {w W W2 : World} (h0 : Aside0 (d.R e w base ok v xs)) (hb : Below W.heap.size W W2) (h : d.R e W base ok v xs := by (with_reducible repeat (first | apply Kd.R_alloc | apply Kd.R_drewN | apply Kd.R_drew)); exact Aside0.out (by assumption)) : Aside0 (d.R e W2 base ok v xs) := ⟨Kd.R_below h hb⟩
theorem nal {w W : World} {g g' : Nat} {o : Obj} (h0 : Aside0 (w.heap[g]? = some o)) (hg : g' = W.heap.size) (h : W.heap[g]? = some o := by (with_reducible repeat (first | refine blk_drewN ?_ _ | refine blk_drew ?_ | refine blk_alloc ?_ _)); exact Aside0.out (by assumption)) : Aside0 (g ≠ g') := ⟨nbl h0 hg h⟩
theorem nag {w W : World} {g g' : Nat} {o : Obj} (h0 : Aside0 (w.heap[g]? = some o)) (hg : g' = W.heap.size) (h : W.heap[g]? = some o := by (with_reducible repeat (first | refine blk_drewN ?_ _ | refine blk_drew ?_ | refine blk_alloc ?_ _)); exact Aside0.out (by assumption)) : Aside0 (g' ≠ g) := ⟨nbg h0 hg h⟩
theorem gwa (w : World) {W : World} {g : Nat} (hg : g = W.heap.size) (h : Below w.heap.size w W := by repeat (first | (with_reducible first | exact Aside0.out (by assumption) | apply below_alloc | apply pw_below_drewN | apply below_drew1 | refine below_set ?_ (Aside0.out (by assumption))) | exact Aside0.out (by assumption))) : Aside0 (w.heap.size ≤ g) := ⟨gwl w hg h⟩
theorem kr5c {α : Type} {d : Kd α} {e base : Nat} {ok : Nat → Prop} {v : Value} {xs : List α} {w : World} {g t : Nat} {cells : Array Value} (h0 : d.R e w base ok v xs) (hk : w.heap[g]? = some (.cells cells t (0, 0))) (ht : ∀ q, q ∈ e :: d.E → q ≠ t) {i0 i1 i2 i3 i4 : Nat} {u0 u1 u2 u3 u4 : Value} :
    d.R e (((((w.setCell ⟨g, i0, none⟩ u0).setCell ⟨g, i1, none⟩ u1).setCell ⟨g, i2, none⟩ u2).setCell ⟨g, i3, none⟩ u3).setCell ⟨g, i4, none⟩ u4) base ok v xs :=
  Kd.R_mono (Kd.R_far (p := ⟨g, i4, none⟩) (Kd.R_far (p := ⟨g, i3, none⟩) (Kd.R_far (p := ⟨g, i2, none⟩) (Kd.R_far (p := ⟨g, i1, none⟩) (Kd.R_far (p := ⟨g, i0, none⟩) (Kd.R_types h0 hk ht) (fun _ hk => hk.2) u0) (fun _ hk => hk.2) u1) (fun _ hk => hk.2) u2) (fun _ hk => hk.2) u3) (fun _ hk => hk.2) u4) (fun _ h_ => h_.1)
theorem kr5 {α : Type} {d : Kd α} {e base : Nat} {ok : Nat → Prop} {v : Value} {xs : List α} {w W : World} {g t : Nat} {cells : Array Value} (h0 : Aside0 (d.R e w base ok v xs)) (hk : Aside0 (w.heap[g]? = some (.cells cells t (0, 0)))) (ht : ∀ q, q ∈ e :: d.E → q ≠ t := by decide) (h : d.R e W base ok v xs := by (with_reducible repeat (first | apply Kd.R_alloc | apply Kd.R_drewN | apply Kd.R_drew)); exact kr5c (Aside0.out (by assumption)) (Aside0.out (by assumption)) (by decide)) : d.R e W base ok v xs := h
theorem hxl {w W : World} (hb : Aside0 (Below w.heap.size w W)) {a : Addr} {v : Value} (hc : w.cell? a = some v) : W.cell? a = some v := pw_cell_below hb.out hc
theorem cf5 {w : World} {a : Addr} {v : Value} {g i0 i1 i2 i3 i4 : Nat} {u0 u1 u2 u3 u4 : Value} (h : a.block ≠ g) (hc : w.cell? a = some v) : (((((w.setCell ⟨g, i0, none⟩ u0).setCell ⟨g, i1, none⟩ u1).setCell ⟨g, i2, none⟩ u2).setCell ⟨g, i3, none⟩ u3).setCell ⟨g, i4, none⟩ u4).cell? a = some v :=
  (cell_far (p := ⟨g, i4, none⟩) h _).trans ((cell_far (p := ⟨g, i3, none⟩) h _).trans ((cell_far (p := ⟨g, i2, none⟩) h _).trans ((cell_far (p := ⟨g, i1, none⟩) h _).trans ((cell_far (p := ⟨g, i0, none⟩) h _).trans hc))))
theorem cz3 {w : World} {g : Nat} {t : TypeId} {a b c : Value} (h : Aside0 (w.heap[g]? = some (.cells #[a, b, c] t (0, 0)))) : w.cell? ⟨g, 0, none⟩ = some a ∧ w.cell? ⟨g, 1, none⟩ = some b ∧ w.cell? ⟨g, 2, none⟩ = some c ∧ w.frozen? ⟨g, 0, none⟩ = false ∧ w.frozen? ⟨g, 1, none⟩ = false ∧ w.frozen? ⟨g, 2, none⟩ = false :=
  ⟨(blk_cell h.out 0).trans rfl, (blk_cell h.out 1).trans rfl, (blk_cell h.out 2).trans rfl, blk_frozen h.out 0, blk_frozen h.out 1, blk_frozen h.out 2⟩
theorem cz4 {w : World} {g : Nat} {t : TypeId} {a b c d : Value} (h : Aside0 (w.heap[g]? = some (.cells #[a, b, c, d] t (0, 0)))) : w.cell? ⟨g, 0, none⟩ = some a ∧ w.cell? ⟨g, 1, none⟩ = some b ∧ w.cell? ⟨g, 2, none⟩ = some c ∧ w.cell? ⟨g, 3, none⟩ = some d ∧ w.frozen? ⟨g, 0, none⟩ = false ∧ w.frozen? ⟨g, 1, none⟩ = false ∧ w.frozen? ⟨g, 2, none⟩ = false ∧ w.frozen? ⟨g, 3, none⟩ = false :=
  ⟨(blk_cell h.out 0).trans rfl, (blk_cell h.out 1).trans rfl, (blk_cell h.out 2).trans rfl, (blk_cell h.out 3).trans rfl, blk_frozen h.out 0, blk_frozen h.out 1, blk_frozen h.out 2, blk_frozen h.out 3⟩
theorem cz5 {w : World} {g : Nat} {t : TypeId} {a b c d e : Value} (h : Aside0 (w.heap[g]? = some (.cells #[a, b, c, d, e] t (0, 0)))) : w.cell? ⟨g, 0, none⟩ = some a ∧ w.cell? ⟨g, 1, none⟩ = some b ∧ w.cell? ⟨g, 2, none⟩ = some c ∧ w.cell? ⟨g, 3, none⟩ = some d ∧ w.cell? ⟨g, 4, none⟩ = some e ∧ w.frozen? ⟨g, 0, none⟩ = false ∧ w.frozen? ⟨g, 1, none⟩ = false ∧ w.frozen? ⟨g, 2, none⟩ = false ∧ w.frozen? ⟨g, 3, none⟩ = false ∧ w.frozen? ⟨g, 4, none⟩ = false :=
  ⟨(blk_cell h.out 0).trans rfl, (blk_cell h.out 1).trans rfl, (blk_cell h.out 2).trans rfl, (blk_cell h.out 3).trans rfl, (blk_cell h.out 4).trans rfl, blk_frozen h.out 0, blk_frozen h.out 1, blk_frozen h.out 2, blk_frozen h.out 3, blk_frozen h.out 4⟩
end Go.Proofs.Ytjpghfjaloglhaa.Zip

