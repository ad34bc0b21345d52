/-
QuotMoves is true: if all values are moved by a number, the first quotient that fits is moved by Add.
Conditions: none.
-/
import Derived.Test.YtjpghfjaloglhaaEQuotPuQuotFits
import Derived.Test.YtjpghfjaloglhaaPQuotx0
import Derived.Test.YtjpghfjaloglhaaPQuotx12
namespace Go.Proofs.Ytjpghfjaloglhaa.PQuot
open Go.RowKit Go.Proofs.YtjpghfjaloglhaaW.PrintWords

theorem fitsAt_move (A B D y : Int) : ∀ (l : List Int) (i : Int), Q.FitsAt A B D i l ↔ Q.FitsAt A (B + y * D) D i (l.map (· + y))
  | [], i => Iff.rfl
  | v :: l, i => by
    simp only [List.map_cons, Q.FitsAt]
    rw [fitsAt_move A B D y l (i + 1)]
    have e : D * (v + y) = D * v + y * D := by rw [Int.mul_add, Int.mul_comm D y]
    rw [e]
    constructor
    · rintro ⟨⟨h1, h2⟩, h3⟩
      exact ⟨⟨by omega, by omega⟩, h3⟩
    · rintro ⟨⟨h1, h2⟩, h3⟩
      exact ⟨⟨by omega, by omega⟩, h3⟩
/-- B lies near the first value. -/
theorem fits_B {q : Q.Quo} {v : Int} {l : List Int} {M : Int} (h : q.Ok) (hf : q.Fits (v :: l)) (h1 : -M ≤ v) (h2 : v ≤ M) : -(16 * M) ≤ q.B ∧ q.B ≤ 16 * M + 16 := by
  have h3 := hf.1
  have h4 := h.1
  have p := mul_le (a := q.D) (b := v) (A := 16) (B := M) (by omega) (by omega) h1 h2
  rw [Int.mul_zero] at h3
  omega
def moved (q : Q.Quo) (y : Int) : Q.Quo := ⟨q.A, q.B + y * q.D, q.D⟩
theorem move_B {q : Q.Quo} (h : q.Ok) {y : Int} (hy : -10000000 ≤ y ∧ y ≤ 10000000) : -160000000 ≤ y * q.D ∧ y * q.D ≤ 160000000 := by
  have h4 := h.1
  have := mul_le (a := y) (b := q.D) (A := 10000000) (B := 16) (by omega) (by omega) (by omega) (by omega)
  omega

theorem first_moved {l : List Int} {y : Int} (h1 : 1 ≤ l.length) (hl : ∀ x ∈ l, -10000000 ≤ x ∧ x ≤ 10000000) (hy : -10000000 ≤ y ∧ y ≤ 10000000) : Q.fitL (l.map (· + y)) = (Q.fitL l).map (moved · y) ∧ ∀ q, Q.fitL l = some q → Q.Coord (q.B + y * q.D) := by
  match l, h1, hl with
  | v :: t, h1, hl =>
    obtain ⟨hv1, hv2⟩ := hl v (by simp)
    have h1m : 1 ≤ ((v :: t).map (· + y)).length := by simp
    have back : ∀ r : Q.Quo, r.Ok → r.Fits ((v :: t).map (· + y)) → (moved r (-y)).Ok ∧ (moved r (-y)).Fits (v :: t) := fun r hr hf => by
      have hb := fits_B (M := 20000000) (v := v + y) hr hf (by omega) (by omega)
      have hm := move_B hr (y := -y) (by omega)
      refine ⟨⟨hr.1, hr.2.1, ?_⟩, ?_⟩
      · show Q.Coord (r.B + -y * r.D)
        unfold Q.Coord
        omega
      · show Q.FitsAt r.A (r.B + -y * r.D) r.D 0 (v :: t)
        rw [fitsAt_move _ _ _ y, show r.B + -y * r.D + y * r.D = r.B by rw [Int.neg_mul]; omega]
        exact hf
    cases ho : Q.fitL (v :: t) with
    | none =>
      refine ⟨?_, fun q e => by simp at e⟩
      cases hm : Q.fitL ((v :: t).map (· + y)) with
      | none => rfl
      | some r =>
        have hr := Q.fitL_first h1m hm
        obtain ⟨g1, g2⟩ := back r hr.ok hr.fits
        exact absurd g2 (Q.fitL_none h1 ho _ g1)
    | some q =>
      have hq := Q.fitL_first h1 ho
      have hb := fits_B (M := 10000000) hq.ok hq.fits (by omega) (by omega)
      have hm := move_B hq.ok hy
      have hc : Q.Coord (q.B + y * q.D) := by unfold Q.Coord; omega
      refine ⟨?_, fun q' e => by obtain rfl : q = q' := by simpa using e
                                 exact hc⟩
      refine Q.fitL_of_first h1m ⟨⟨hq.ok.1, hq.ok.2.1, hc⟩, (fitsAt_move _ _ _ y _ _).1 hq.fits, fun r hr hf hbf => ?_⟩
      obtain ⟨g1, g2⟩ := back r hr hf
      refine hq.least _ g1 g2 ?_
      unfold Q.Quo.Before moved at *
      simp only at hbf ⊢
      by_cases e : r.D = q.D
      · rw [e] at hbf ⊢
        rw [Int.neg_mul]
        omega
      · omega

def inMoves (l : List Int) : Bool := l.all fun v => decide (-10000000 ≤ v ∧ v ≤ 10000000)

theorem moves_j2 (k : Nat) {y : Int} (hy : -10000000 ≤ y ∧ y ≤ 10000000) (o : Option Q.Quo) (hok : ∀ q, o = some q → q.Ok ∧ Q.Coord (q.B + y * q.D)) :
    formelaw01_QuotMoves.j2 (k + 2) y true (foundOut o).2.2.2.1 ((foundOut o).2.2.2.1 != (foundOut (o.map (moved · y))).2.2.2.1) (foundOut o).1 (foundOut o).2.1 (foundOut o).2.2.1 (foundOut (o.map (moved · y))).1 (foundOut (o.map (moved · y))).2.1 (foundOut (o.map (moved · y))).2.2.1 = some true := by
  rw [formelaw01_QuotMoves.j2]
  cases o with
  | none => simp [foundOut]
  | some q =>
    obtain ⟨h1, h2⟩ := hok q rfl
    have hvb : VB q.A q.B q.D = true := VB_iff.2 h1
    have hyc : Q.Coord y := by unfold Q.Coord; omega
    simp only [foundOut, Option.map_some, bne_self_eq_false, Bool.false_eq_true, if_false, if_true]
    rw [add_f]
    simp [addOut, hvb, hyc, h2, moved]

theorem moves_l0 {y : Int} (hy : -10000000 ≤ y ∧ y ≤ 10000000) (l : List Int) (hl : l.length ≤ 300) (h1 : 1 ≤ l.length) (hco : ∀ x ∈ l, Q.Coord x) : ∀ (m k i : Nat), i + m = l.length → m + 10 < k → inMoves (l.take i) = true →
    formelaw01_QuotMoves.l0 k y true l ((l.take i).map (· + y)) l (l.length : Int) (i : Int) = some true
  | 0, k, i, hm, hk, hin => by
    obtain ⟨k, rfl⟩ : ∃ m, k = m + 1 := ⟨k - 1, by omega⟩
    rw [formelaw01_QuotMoves.l0, if_neg (by omega)]
    have e : l.take i = l := List.take_of_length_le (by omega)
    rw [e] at hin ⊢
    have hb : ∀ x ∈ l, -10000000 ≤ x ∧ x ≤ 10000000 := by simpa [inMoves] using hin
    obtain ⟨g1, g2⟩ := first_moved h1 hb hy
    have f1 : fitOut l = foundOut (Q.fitL l) := by
      unfold fitOut
      rw [if_neg (by omega), if_neg (by simpa using hco), if_neg (by omega)]
      rfl
    have f2 : fitOut (l.map (· + y)) = foundOut ((Q.fitL l).map (moved · y)) := by
      unfold fitOut
      rw [if_neg (by simp; omega), if_neg (by
        simp only [List.all_map, Bool.not_eq_false, List.all_eq_true, Function.comp, decide_eq_true_eq]
        intro x hx
        have := hb x hx
        unfold Q.Coord
        omega), if_neg (by rw [List.length_map]; omega), g1]
      rfl
    simp only [quot_Fit.f, Option.bind_some, f1, f2]
    have z1 : ∀ o, (foundOut o).2.2.2.2 = 0 := fun o => by cases o <;> rfl
    rw [z1, z1]
    simp only [if_true]
    obtain ⟨k, rfl⟩ : ∃ m, k = m + 2 := ⟨k - 2, by omega⟩
    exact moves_j2 k hy (Q.fitL l) fun q e => ⟨(Q.fitL_first h1 e).ok, g2 q e⟩
  | m + 1, k, i, hm, hk, hin => by
    obtain ⟨k, rfl⟩ : ∃ m, k = m + 1 := ⟨k - 1, by omega⟩
    have hi : i < l.length := by omega
    rw [formelaw01_QuotMoves.l0]
    rw [if_pos (by omega), if_pos (by omega), if_pos (by omega)]
    by_cases c1 : rd l (i : Int) < -10000000
    · rw [if_pos c1]
    · rw [if_neg c1]
      by_cases c2 : rd l (i : Int) > 10000000
      · rw [if_pos c2]
      · rw [if_neg c2, if_pos (by simp; omega), wrap_in (x := rd l (i : Int) + y) (by omega) (by omega), wrap_in (x := (i : Int) + 1) (by omega) (by omega)]
        have et : l.take (i + 1) = l.take i ++ [rd l (i : Int)] := by
          rw [List.take_succ_eq_append_getElem hi]
          congr 2
          unfold rd
          simp [List.getD_eq_getElem?_getD, hi]
        have e1 : (i : Int) + 1 = ((i + 1 : Nat) : Int) := by omega
        have h := moves_l0 hy l hl h1 hco m k (i + 1) (by omega) (by omega) (by
          rw [et]
          unfold inMoves at *
          rw [List.all_append, hin]
          simp
          omega)
        rw [et, List.map_append] at h
        rw [e1]
        exact h

theorem QuotMoves_true (l : List Int) (y : Int) (_ : l.length * 8 ≤ 140737488351232) (_ : ∀ x ∈ l, (Lit.int .i64 x).wf = true) (_ : (Lit.int .i64 y).wf = true) : ∃ k, formelaw01_QuotMoves.f k l y = some true := by
  refine ⟨10000, ?_⟩
  unfold formelaw01_QuotMoves.f formelaw01_head.f
  rw [cut_f (by omega)]
  simp only [Option.bind_some]
  cases hv : valuesB (l.take 300) with
  | false => simp [formelaw01_QuotMoves.j0]
  | true =>
    obtain ⟨_, hco, h1, hl⟩ := valuesB_facts hv
    simp only [if_true]
    by_cases c1 : y < -10000000
    · rw [if_pos c1]
      simp [formelaw01_QuotMoves.j0]
    · rw [if_neg c1]
      by_cases c2 : y > 10000000
      · rw [decide_eq_true c2]
        simp [formelaw01_QuotMoves.j0]
      · rw [decide_eq_false c2, formelaw01_QuotMoves.j0]
        simp only [Bool.false_eq_true, if_false]
        exact moves_l0 (by omega) (l.take 300) (by simp; omega) h1 hco (l.take 300).length 9999 0 (by omega) (by simp; omega) rfl

end Go.Proofs.Ytjpghfjaloglhaa.PQuot
