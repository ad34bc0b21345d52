import Derived.Test.YtjpghfjaloglhaaZTUEContractPOpen
import Derived.Test.YtjpghfjaloglhaaZTUPContractx0
import Derived.Test.YtjpghfjaloglhaaZTUPContractx7
/-
Arguments that are a contract, an account, an answer, or a list of answers: what the walk reads of them.
Conditions: none.
-/
namespace Go.Proofs.Ytjpghfjaloglhaa.PContract
open Go.ChangeShapes Go.WideShapes Go.RowKit Go.Joins Go.Proofs.YtjpghfjaloglhaaW.PrintWords
section
variable {H : Type} {enc : TypeId × Value → H} {w : World} {base : Nat} {spare : Nat → Bool} {held : Bool}
theorem list4 {α : Type} {l : List α} (h : l.length = 4) : ∃ a b c d, l = [a, b, c, d] := by
  match l, h with
  | [a, b, c, d], _ => exact ⟨a, b, c, d, rfl⟩
theorem cellsContract : Try.prog.cellsOf 69 = 3 := by kernel_rfl
theorem cellsAccount : Try.prog.cellsOf 71 = 5 := by kernel_rfl
theorem cellsAnswer : Try.prog.cellsOf 78 = 4 := by kernel_rfl
theorem cellsBool : Try.prog.cellsOf 4 = 1 := by kernel_rfl
theorem open_parts_cell {n : Nat} {v : Value} {y : DataW H × List MemPlace} (h : DataW.trod enc Try.prog w base spare held n 51 [v] = some y) : ∃ (A : Option Addr) (c : Nat) (l : List S61), v = .slice A l.length c ∧ Kd.C k61 w A l.length l ∧ l.length ≤ c ∧ ∀ p ∈ l, partWf p := by
  rcases Deep.open_slice Try.underlying51 h with ⟨hcs, -⟩ | ⟨a, len', cap', m, n, D, Pl, hcs, -⟩
  · simp at hcs
    subst hcs
    exact ⟨none, 0, [], rfl, ⟨rfl, by simp, fun h => absurd h (by simp)⟩, by simp, by simp⟩
  · simp at hcs
    subst hcs
    obtain ⟨l, rfl, h1, h2, h3⟩ := open_parts (d := y.1) (ps := y.2) ⟨_, h⟩
    exact ⟨_, _, l, rfl, h1, h2, h3⟩
set_option maxRecDepth 100000 in
theorem open_contract {r : Reach} {b0 : Nat} {v : Value} {d : DataW H} {p : List MemPlace} (hv : Value.okWide Try.prog w r b0 69 v) (h : DataW.Trod enc Try.prog w base spare held 69 v d p) :
    ∃ (n m : Int) (A : Option Addr) (c : Nat) (l : List S61), v = .agg #[.int .i64 n, .int .i64 m, .slice A l.length c] ∧ Kd.C k61 w A l.length l ∧ l.length ≤ c := by
  obtain ⟨c0, c1, c2, y0, y1, y2, k, rfl, -, -, h0, h1, h2⟩ := open_agg3 Try.underlying69 (by kernel_rfl) cellsContract hv h
  obtain ⟨a0, e0, -, -⟩ := DataW.trod_int Try.underlying3 h0
  obtain ⟨a1, e1, -, -⟩ := DataW.trod_int Try.underlying3 h1
  obtain ⟨A, c, l, rfl, g1, g2, -⟩ := open_parts_cell h2
  simp at e0 e1
  subst e0 e1
  exact ⟨a0, a1, A, c, l, rfl, g1, g2⟩
set_option maxRecDepth 100000 in
theorem open_account {r : Reach} {b0 : Nat} {v : Value} {d : DataW H} {p : List MemPlace} (hv : Value.okWide Try.prog w r b0 71 v) (h : DataW.Trod enc Try.prog w base spare held 71 v d p) :
    ∃ (n ch cg la : Int) (fr : Bool), v = .agg #[.int .i64 n, .int .i64 ch, .int .i64 cg, .int .i64 la, .bool fr] := by
  obtain ⟨cs, rfl, hsz⟩ := okWide_struct Try.underlying71 hv
  obtain ⟨fuel, hf⟩ := h
  obtain ⟨xs, k, _, _, hlen, hxl, hf⟩ := DataW.trod_struct Try.underlying71 hf
  replace hxl : xs.length = 5 := hxl
  obtain ⟨y0, y1, y2, y3, y4, rfl⟩ := list5 hxl
  rw [cellsAccount] at hsz
  obtain ⟨l, hl⟩ : ∃ l, cs = l.toArray := ⟨cs.toList, by simp⟩
  subst hl
  obtain ⟨v0, v1, v2, v3, v4, rfl⟩ := list5 (l := l) (by simpa using hsz)
  have g0 : DataW.trod enc Try.prog w base spare held k 3 ((List.drop 0 [v0, v1, v2, v3, v4]).take (Try.prog.cellsOf 3)) = some y0 := hf 0 _ rfl
  have g1 : DataW.trod enc Try.prog w base spare held k 3 ((List.drop 1 [v0, v1, v2, v3, v4]).take (Try.prog.cellsOf 3)) = some y1 := hf 1 _ rfl
  have g2 : DataW.trod enc Try.prog w base spare held k 3 ((List.drop 2 [v0, v1, v2, v3, v4]).take (Try.prog.cellsOf 3)) = some y2 := hf 2 _ rfl
  have g3 : DataW.trod enc Try.prog w base spare held k 3 ((List.drop 3 [v0, v1, v2, v3, v4]).take (Try.prog.cellsOf 3)) = some y3 := hf 3 _ rfl
  have g4 : DataW.trod enc Try.prog w base spare held k 4 ((List.drop 4 [v0, v1, v2, v3, v4]).take (Try.prog.cellsOf 4)) = some y4 := hf 4 _ rfl
  rw [cellsInt] at g0 g1 g2 g3
  rw [cellsBool] at g4
  obtain ⟨a0, e0, -, -⟩ := DataW.trod_int Try.underlying3 g0
  obtain ⟨a1, e1, -, -⟩ := DataW.trod_int Try.underlying3 g1
  obtain ⟨a2, e2, -, -⟩ := DataW.trod_int Try.underlying3 g2
  obtain ⟨a3, e3, -, -⟩ := DataW.trod_int Try.underlying3 g3
  obtain ⟨a4, e4, -⟩ := DataW.trod_bool Try.underlying4 g4
  simp at e0 e1 e2 e3 e4
  subst e0 e1 e2 e3 e4
  exact ⟨_, _, _, _, _, rfl⟩
theorem open_answer_cells {n : Nat} {cs : List Value} {y : DataW H × List MemPlace} (h : DataW.trod enc Try.prog w base spare held n 78 cs = some y) : ∃ p : S78, cs = [.int .i64 p.f0, .int .i64 p.f1, .int .i64 p.f2, .int .i64 p.f3] := by
  obtain ⟨xs, k, _, _, hlen, hxl, hf⟩ := DataW.trod_struct Try.underlying78 h
  rw [cellsAnswer] at hlen
  replace hxl : xs.length = 4 := hxl
  obtain ⟨y0, y1, y2, y3, rfl⟩ := list4 hxl
  obtain ⟨v0, v1, v2, v3, rfl⟩ := list4 hlen
  have g0 : DataW.trod enc Try.prog w base spare held k 3 ((List.drop 0 [v0, v1, v2, v3]).take (Try.prog.cellsOf 3)) = some y0 := hf 0 _ rfl
  have g1 : DataW.trod enc Try.prog w base spare held k 3 ((List.drop 1 [v0, v1, v2, v3]).take (Try.prog.cellsOf 3)) = some y1 := hf 1 _ rfl
  have g2 : DataW.trod enc Try.prog w base spare held k 3 ((List.drop 2 [v0, v1, v2, v3]).take (Try.prog.cellsOf 3)) = some y2 := hf 2 _ rfl
  have g3 : DataW.trod enc Try.prog w base spare held k 3 ((List.drop 3 [v0, v1, v2, v3]).take (Try.prog.cellsOf 3)) = some y3 := hf 3 _ rfl
  rw [cellsInt] at g0 g1 g2 g3
  obtain ⟨a0, e0, -, -⟩ := DataW.trod_int Try.underlying3 g0
  obtain ⟨a1, e1, -, -⟩ := DataW.trod_int Try.underlying3 g1
  obtain ⟨a2, e2, -, -⟩ := DataW.trod_int Try.underlying3 g2
  obtain ⟨a3, e3, -, -⟩ := DataW.trod_int Try.underlying3 g3
  simp at e0 e1 e2 e3
  subst e0 e1 e2 e3
  exact ⟨⟨a0, a1, a2, a3⟩, rfl⟩
set_option maxRecDepth 100000 in
theorem open_answer {r : Reach} {b0 : Nat} {v : Value} {d : DataW H} {p : List MemPlace} (hv : Value.okWide Try.prog w r b0 78 v) (h : DataW.Trod enc Try.prog w base spare held 78 v d p) :
    ∃ (n ww k hh : Int), v = .agg #[.int .i64 n, .int .i64 ww, .int .i64 k, .int .i64 hh] := by
  obtain ⟨cs, rfl, hsz⟩ := okWide_struct Try.underlying78 hv
  obtain ⟨fuel, hf⟩ := h
  obtain ⟨l, hl⟩ : ∃ l, cs = l.toArray := ⟨cs.toList, by simp⟩
  subst hl
  obtain ⟨q, hq⟩ := open_answer_cells hf
  have hq2 : l = [.int .i64 q.f0, .int .i64 q.f1, .int .i64 q.f2, .int .i64 q.f3] := by simpa [Value.cells] using hq
  subst hq2
  exact ⟨_, _, _, _, rfl⟩
theorem open_answers {A : Option Addr} {len cap : Nat} {d : DataW H} {ps : List MemPlace} (h : DataW.Trod enc Try.prog w base spare held 72 (.slice A len cap) d ps) : ∃ l : List S78, len = l.length ∧ Kd.C k78 w A l.length l ∧ l.length ≤ cap := by
  obtain ⟨fuel, hf⟩ := h
  rcases Deep.open_slice Try.underlying72 hf with ⟨hcs, -⟩ | ⟨a, len', cap', m, n, D, Pl, hcs, -, hl, hm, hmm, -, hx⟩
  · simp [Value.cells] at hcs
    obtain ⟨rfl, rfl, rfl⟩ := hcs
    exact ⟨[], rfl, ⟨rfl, by simp, fun h => absurd h (by simp)⟩, by simp⟩
  · simp [Value.cells] at hcs
    obtain ⟨rfl, rfl, rfl⟩ := hcs
    have hlm : len ≤ m := by rw [hmm]; split <;> omega
    have each : ∀ i, i < len → ∃ p : S78, ∀ j u, [Value.int .i64 p.f0, .int .i64 p.f1, .int .i64 p.f2, .int .i64 p.f3][j]? = some u → w.cell? (a.add (i * 4 + j)) = some u := by
      intro i hi
      obtain ⟨cs', h1, h2⟩ := hx i (by omega)
      rw [cellsAnswer] at h1
      obtain ⟨_, hlen, hcell⟩ := World.cells?_some h1
      obtain ⟨p, rfl⟩ := open_answer_cells h2
      refine ⟨p, fun j u hu => ?_⟩
      have hj : j < 4 := by
        obtain ⟨h, -⟩ := List.getElem?_eq_some_iff.1 hu
        simpa using h
      have := hcell j hj
      rw [Deep.add_add] at this
      rw [this, hu]
    have hne : Nonempty S78 := ⟨z78⟩
    let f : Nat → S78 := fun i => if hi : i < len then Classical.choose (each i hi) else z78
    have hfs : ∀ i, i < len → ∀ j u, [Value.int .i64 (f i).f0, .int .i64 (f i).f1, .int .i64 (f i).f2, .int .i64 (f i).f3][j]? = some u → w.cell? (a.add (i * 4 + j)) = some u := fun i hi => by
      have := Classical.choose_spec (each i hi)
      simp only [f, dif_pos hi]
      exact this
    have hmax : maxLen = 9223372036854775807 := rfl
    refine ⟨(List.range len).map f, by simp, ⟨rfl, by simp; omega, fun _ => ⟨a, rfl, fun j p hj => ?_⟩⟩, by simp; omega⟩
    obtain ⟨h1, h2⟩ := List.getElem?_eq_some_iff.1 hj
    have hjl : j < len := by simpa using h1
    have hp : f j = p := by simpa using h2
    subst hp
    exact ⟨_, rfl, k78_mk w (f j), hfs j hjl⟩
end
end Go.Proofs.Ytjpghfjaloglhaa.PContract

