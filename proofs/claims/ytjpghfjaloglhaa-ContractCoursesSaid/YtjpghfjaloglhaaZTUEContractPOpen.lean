import Derived.Deep.Slices
import Derived.OpenShut
import Derived.Lib.SmallJoins
import Derived.Test.YtjpghfjaloglhaaZTUEContractCurveM
/-
An argument that is a list of parts: what the walk reads of it.
Conditions: none.
-/
namespace Go.Proofs.Ytjpghfjaloglhaa.PContract
open Go.ChangeShapes Go.WideShapes Go.RowKit Go.Joins Go.Proofs.YtjpghfjaloglhaaW.PrintWords
def partWf (p : SP) : Prop := (Lit.int .i64 p.f0).wf = true ∧ (Lit.int .i64 p.f1).wf = true ∧ (Lit.int .i64 p.f2.f0).wf = true ∧ (Lit.int .i64 p.f2.f1).wf = true ∧ (Lit.int .i64 p.f2.f2).wf = true
section
variable {H : Type} {enc : TypeId × Value → H} {w : World} {base : Nat} {spare : Nat → Bool} {held : Bool}
theorem list3 {α : Type} {l : List α} (h : l.length = 3) : ∃ a b c, l = [a, b, c] := by
  match l, h with
  | [a, b, c], _ => exact ⟨a, b, c, rfl⟩
theorem list5 {α : Type} {l : List α} (h : l.length = 5) : ∃ a b c d e, l = [a, b, c, d, e] := by
  match l, h with
  | [a, b, c, d, e], _ => exact ⟨a, b, c, d, e, rfl⟩
theorem cellsPart : Try.prog.cellsOf 61 = 5 := by kernel_rfl
theorem cellsQuot : Try.prog.cellsOf 23 = 3 := by kernel_rfl
theorem cellsInt : Try.prog.cellsOf 3 = 1 := by kernel_rfl
theorem open_quot {n : Nat} {cs : List Value} {y : DataW H × List MemPlace} (h : DataW.trod enc Try.prog w base spare held n 23 cs = some y) : ∃ q : SQ, cs = [.int .i64 q.f0, .int .i64 q.f1, .int .i64 q.f2] ∧ (Lit.int .i64 q.f0).wf = true ∧ (Lit.int .i64 q.f1).wf = true ∧ (Lit.int .i64 q.f2).wf = true := by
  obtain ⟨xs, k, _, _, hlen, hxl, hf⟩ := DataW.trod_struct Try.underlying23 h
  rw [cellsQuot] at hlen
  replace hxl : xs.length = 3 := hxl
  obtain ⟨y0, y1, y2, rfl⟩ := list3 hxl
  obtain ⟨v0, v1, v2, rfl⟩ := list3 hlen
  have g0 : DataW.trod enc Try.prog w base spare held k 3 ((List.drop 0 [v0, v1, v2]).take (Try.prog.cellsOf 3)) = some y0 := hf 0 _ rfl
  have g1 : DataW.trod enc Try.prog w base spare held k 3 ((List.drop 1 [v0, v1, v2]).take (Try.prog.cellsOf 3)) = some y1 := hf 1 _ rfl
  have g2 : DataW.trod enc Try.prog w base spare held k 3 ((List.drop 2 [v0, v1, v2]).take (Try.prog.cellsOf 3)) = some y2 := hf 2 _ rfl
  rw [cellsInt] at g0 g1 g2
  obtain ⟨a0, e0, -, w0⟩ := DataW.trod_int Try.underlying3 g0
  obtain ⟨a1, e1, -, w1⟩ := DataW.trod_int Try.underlying3 g1
  obtain ⟨a2, e2, -, w2⟩ := DataW.trod_int Try.underlying3 g2
  simp at e0 e1 e2
  subst e0 e1 e2
  exact ⟨⟨a0, a1, a2⟩, rfl, w0, w1, w2⟩
theorem open_part {n : Nat} {cs : List Value} {y : DataW H × List MemPlace} (h : DataW.trod enc Try.prog w base spare held n 61 cs = some y) : ∃ p : SP, cs = [.int .i64 p.f0, .int .i64 p.f1, .int .i64 p.f2.f0, .int .i64 p.f2.f1, .int .i64 p.f2.f2] ∧ partWf p := by
  obtain ⟨xs, k, _, _, hlen, hxl, hf⟩ := DataW.trod_struct Try.underlying61 h
  rw [cellsPart] at hlen
  replace hxl : xs.length = 3 := hxl
  obtain ⟨y0, y1, y2, rfl⟩ := list3 hxl
  obtain ⟨v0, v1, v2, v3, v4, rfl⟩ := list5 hlen
  have g0 : DataW.trod enc Try.prog w base spare held k 3 ((List.drop 0 [v0, v1, v2, v3, v4]).take (Try.prog.cellsOf 3)) = some y0 := hf 0 _ rfl
  have g1 : DataW.trod enc Try.prog w base spare held k 3 ((List.drop 1 [v0, v1, v2, v3, v4]).take (Try.prog.cellsOf 3)) = some y1 := hf 1 _ rfl
  have g2 : DataW.trod enc Try.prog w base spare held k 23 ((List.drop 2 [v0, v1, v2, v3, v4]).take (Try.prog.cellsOf 23)) = some y2 := hf 2 _ rfl
  rw [cellsInt] at g0 g1
  rw [cellsQuot] at g2
  obtain ⟨a0, e0, -, w0⟩ := DataW.trod_int Try.underlying3 g0
  obtain ⟨a1, e1, -, w1⟩ := DataW.trod_int Try.underlying3 g1
  obtain ⟨q, e2, w2, w3, w4⟩ := open_quot g2
  simp at e0 e1 e2
  obtain ⟨rfl, rfl, rfl⟩ := e2
  subst e0 e1
  exact ⟨⟨a0, a1, q⟩, rfl, w0, w1, w2, w3, w4⟩
theorem open_parts {A : Option Addr} {len cap : Nat} {d : DataW H} {ps : List MemPlace} (h : DataW.Trod enc Try.prog w base spare held 51 (.slice A len cap) d ps) : ∃ l : List SP, len = l.length ∧ Kd.C k61 w A l.length l ∧ l.length ≤ cap ∧ ∀ p ∈ l, partWf p := by
  obtain ⟨fuel, hf⟩ := h
  rcases Deep.open_slice Try.underlying51 hf with ⟨hcs, -⟩ | ⟨a, len', cap', m, n, D, Pl, hcs, -, hl, hm, hmm, -, hx⟩
  · simp [Value.cells] at hcs
    obtain ⟨rfl, rfl, rfl⟩ := hcs
    exact ⟨[], rfl, ⟨rfl, by simp, fun h => absurd h (by simp)⟩, by simp, by simp⟩
  · simp [Value.cells] at hcs
    obtain ⟨rfl, rfl, rfl⟩ := hcs
    have hlm : len ≤ m := by rw [hmm]; split <;> omega
    have each : ∀ i, i < len → ∃ p : SP, (∀ j u, [Value.int .i64 p.f0, .int .i64 p.f1, .int .i64 p.f2.f0, .int .i64 p.f2.f1, .int .i64 p.f2.f2][j]? = some u → w.cell? (a.add (i * 5 + j)) = some u) ∧ partWf p := by
      intro i hi
      obtain ⟨cs', h1, h2⟩ := hx i (by omega)
      rw [cellsPart] at h1
      obtain ⟨_, hlen, hcell⟩ := World.cells?_some h1
      obtain ⟨p, rfl, hp⟩ := open_part h2
      refine ⟨p, fun j u hu => ?_, hp⟩
      have hj : j < 5 := by
        obtain ⟨h, -⟩ := List.getElem?_eq_some_iff.1 hu
        simpa using h
      have := hcell j hj
      rw [Deep.add_add] at this
      rw [this, hu]
    have hne : Nonempty SP := ⟨z61⟩
    let f : Nat → SP := fun i => if hi : i < len then Classical.choose (each i hi) else z61
    have hfs : ∀ i, i < len → (∀ j u, [Value.int .i64 (f i).f0, .int .i64 (f i).f1, .int .i64 (f i).f2.f0, .int .i64 (f i).f2.f1, .int .i64 (f i).f2.f2][j]? = some u → w.cell? (a.add (i * 5 + j)) = some u) ∧ partWf (f i) := fun i hi => by
      have := Classical.choose_spec (each i hi)
      simp only [f, dif_pos hi]
      exact this
    have hmax : maxLen = 9223372036854775807 := rfl
    refine ⟨(List.range len).map f, by simp, ⟨rfl, by simp; omega, fun _ => ⟨a, rfl, fun j p hj => ?_⟩⟩, by simp; omega, fun p hp => ?_⟩
    · obtain ⟨h1, h2⟩ := List.getElem?_eq_some_iff.1 hj
      have hjl : j < len := by simpa using h1
      have hp : f j = p := by simpa using h2
      subst hp
      exact ⟨_, rfl, k61_mk w (f j), (hfs j hjl).1⟩
    · obtain ⟨i, hi, rfl⟩ := List.mem_map.1 hp
      exact (hfs i (List.mem_range.1 hi)).2
end
end Go.Proofs.Ytjpghfjaloglhaa.PContract

