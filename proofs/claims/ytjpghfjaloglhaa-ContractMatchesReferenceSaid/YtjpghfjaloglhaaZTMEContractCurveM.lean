import Derived.Test.YtjpghfjaloglhaaZTMEContractFit
import Derived.Test.YtjpghfjaloglhaaZTMPContractx0
import Derived.Test.YtjpghfjaloglhaaZTMPContractx6
/-
The parts of values: from each place on as long as a quotient fits; what split computes.
Conditions: those that each lemma names.
-/
namespace Go.Proofs.Ytjpghfjaloglhaa.PContract
open Go.RowKit Go.Proofs.YtjpghfjaloglhaaW.PrintWords
abbrev SP := S61
abbrev SQ := S23
def toS (q : Q.Quo) : SQ := ⟨q.A, q.B, q.D⟩
def coordsB (l : List Int) : Bool := l.all fun x => decide (Q.Coord x)
theorem coordsB_iff {l : List Int} : coordsB l = true ↔ ∀ x ∈ l, Q.Coord x := by unfold coordsB; simp
def grow (l : List Int) : Nat → Nat → Nat
 | 0, n => n
 | f + 1, n => if n < l.length ∧ (Q.fitL (l.take (n + 1))).isSome = true then grow l f (n + 1) else n
def longN (l : List Int) : Nat := grow l l.length 1
structure IsLong (l : List Int) (n : Nat) : Prop where
 one : 1 ≤ n
 le : n ≤ l.length
 fits : (Q.fitL (l.take n)).isSome = true
 most : n < l.length → Q.fitL (l.take (n + 1)) = none
def partsF : Nat → Int → List Int → List SP
 | 0, _, _ => []
 | f + 1, a, l => if l.length = 0 then [] else ⟨a, a + (longN l : Int), toS ((Q.fitL (l.take (longN l))).getD ⟨0, 0, 0⟩)⟩ :: partsF f (a + (longN l : Int)) (l.drop (longN l))
def parts (a : Int) (l : List Int) : List SP := partsF l.length a l
theorem takes_coord {l : List Int} (h : ∀ x ∈ l, Q.Coord x) (n : Nat) : ∀ x ∈ l.take n, Q.Coord x := fun x hx => h x (List.mem_of_mem_take hx)
theorem drops_coord {l : List Int} (h : ∀ x ∈ l, Q.Coord x) (n : Nat) : ∀ x ∈ l.drop n, Q.Coord x := fun x hx => h x (List.mem_of_mem_drop hx)
theorem fitsAt_takes {A B D : Int} : ∀ (l : List Int) (i : Int) (k : Nat), Q.FitsAt A B D i l → Q.FitsAt A B D i (l.take k)
 | [], _, _, _ => by simp [Q.FitsAt]
 | _ :: _, _, 0, _ => trivial
 | _ :: l, i, k + 1, h => ⟨h.1, fitsAt_takes l (i + 1) k h.2⟩
theorem fit_less {l : List Int} {m n : Nat} (hm : 1 ≤ m) (hmn : m ≤ n) (hn : n ≤ l.length) (h : (Q.fitL (l.take n)).isSome = true) : (Q.fitL (l.take m)).isSome = true := by
 cases e : Q.fitL (l.take n) with
 | none => rw [e] at h; cases h
 | some q =>
  have hq := Q.fitL_first (by rw [List.length_take]; omega) e
  have hf : q.Fits (l.take m) := by
   have := fitsAt_takes _ 0 m hq.fits
   rwa [List.take_take, Nat.min_eq_left hmn] at this
  cases e2 : Q.fitL (l.take m) with
  | none => exact absurd hf (Q.fitL_none (by rw [List.length_take]; omega) e2 q hq.ok)
  | some r => rfl
theorem IsLong.unique {l : List Int} {m n : Nat} (hm : IsLong l m) (hn : IsLong l n) : m = n := by
 have key : ∀ {m n : Nat}, IsLong l m → IsLong l n → ¬ m < n := fun {m n} hm hn hlt => by
  have h1 := hm.most (by have := hn.le; omega)
  have h2 := fit_less (m := m + 1) (by omega) hlt hn.le hn.fits
  rw [h1] at h2
  cases h2
 have h1 := key hm hn
 have h2 := key hn hm
 omega
theorem grow_long {l : List Int} : ∀ (f n : Nat), l.length ≤ n + f → 1 ≤ n → n ≤ l.length → (Q.fitL (l.take n)).isSome = true → IsLong l (grow l f n)
 | 0, n, h, h1, h2, h3 => ⟨h1, h2, h3, fun h4 => by unfold grow at h4; omega⟩
 | f + 1, n, h, h1, h2, h3 => by
  unfold grow
  by_cases c : n < l.length ∧ (Q.fitL (l.take (n + 1))).isSome = true
  ·rw [if_pos c]
   exact grow_long f (n + 1) (by omega) (by omega) (by omega) c.2
  ·rw [if_neg c]
   refine ⟨h1, h2, h3, fun h4 => ?_⟩
   cases e : Q.fitL (l.take (n + 1)) with
   | none => rfl
   | some q => exact absurd ⟨h4, by rw [e]; rfl⟩ c
theorem fit_one {v : Int} (h : Q.Coord v) : Q.fitL [v] = some ⟨0, v, 1⟩ := by
 refine Q.fitL_of_first (by simp) ⟨⟨by simp, (show Q.Coord 0 by unfold Q.Coord; omega), h⟩, ?_, fun r hr hf hb => ?_⟩
 ·show Q.FitsAt 0 v 1 0 [v]
  exact ⟨⟨by omega, by omega⟩, trivial⟩
 ·have h1 := hr.1
  have h2 := hf.1
  rw [Int.mul_zero] at h2
  unfold Q.Quo.Before Q.iabs at hb
  simp only at hb
  by_cases e : r.D = 1
  ·rw [e] at h2
   omega
  ·omega
theorem take_one {l : List Int} (h : 1 ≤ l.length) : l.take 1 = [rd l 0] := by
 match l, h with
 | v :: _, _ => rfl
theorem fit_first {l : List Int} (h : 1 ≤ l.length) (hco : ∀ x ∈ l, Q.Coord x) : (Q.fitL (l.take 1)).isSome = true := by
 rw [take_one h, fit_one (v := rd l 0) (hco _ (rd_mem (i := 0) (by omega)))]
 rfl
theorem longN_long {l : List Int} (h : 1 ≤ l.length) (hco : ∀ x ∈ l, Q.Coord x) : IsLong l (longN l) := grow_long _ 1 (by omega) (Nat.le_refl _) h (fit_first h hco)
def foQ (o : Option Q.Quo) : Int × Int × Int × Bool × Int :=
 match o with
 | none => (0, 0, 0, false, 0)
 | some q => (q.A, q.B, q.D, true, 0)
theorem fit_out {l : List Int} (h1 : 1 ≤ l.length) (hl : l.length ≤ 4000) (hco : ∀ x ∈ l, Q.Coord x) : quot_Fit.f l = some (foQ (Q.fitL l)) := by
 unfold quot_Fit.f fitOut
 rw [if_neg (by omega), if_neg (by simpa using hco), if_neg (by omega)]
 rfl
theorem longest_l0 {l : List Int} (h1 : 1 ≤ l.length) (hl : l.length ≤ 4000) (hco : ∀ x ∈ l, Q.Coord x) : ∀ (m k g b : Nat) (s : Int) (q : Q.Quo), b - g ≤ m → m < k → 1 ≤ g → g < b → b ≤ l.length + 1 → 1 ≤ s → s ≤ 20000 → (g + 1 < b → s ≤ 9000) →
  Q.fitL (l.take g) = some q → (b ≤ l.length → Q.fitL (l.take b) = none) →
  ∃ n r, IsLong l n ∧ Q.fitL (l.take n) = some r ∧ curve_longest.l0 k l (g : Int) (b : Int) s q.A q.B q.D = some ((n : Int), r.A, r.B, r.D)
 | 0, k, g, b, s, q, hm, hk, hg, hgb, hb, hs1, hs2, hs3, hq, hn => by omega
 | m + 1, k, g, b, s, q, hm, hk, hg, hgb, hb, hs1, hs2, hs3, hq, hn => by
  obtain ⟨k, rfl⟩ : ∃ m, k = m + 1 := ⟨k - 1, by omega⟩
  rw [curve_longest.l0, wrap_in (x := (g : Int) + 1) (by omega) (by omega)]
  by_cases c : (g : Int) + 1 < (b : Int)
  ·have hs4 := hs3 (by omega)
   rw [if_pos c, wrap_in (x := (g : Int) + s) (by omega) (by omega), wrap_in (x := (b : Int) - 1) (by omega) (by omega), mn_min]
   obtain ⟨n, hnn⟩ : ∃ n : Nat, min ((g : Int) + s) ((b : Int) - 1) = (n : Int) := ⟨(min ((g : Int) + s) ((b : Int) - 1)).toNat, by omega⟩
   rw [hnn, if_pos (by omega), if_pos (by omega), Int.toNat_natCast]
   have hn1 : g < n ∧ n < b ∧ (n : Int) ≤ (g : Int) + s := by omega
   rw [fit_out (by rw [List.length_take]; omega) (by rw [List.length_take]; omega) (takes_coord hco n)]
   simp only [Option.bind_some]
   cases e : Q.fitL (l.take n) with
   | some r =>
    simp only [foQ, if_true]
    rw [wrap_in (x := 2 * s) (by omega) (by omega)]
    exact longest_l0 h1 hl hco m k n b (2 * s) r (by omega) (by omega) (by omega) (by omega) hb (by omega) (by omega) (by omega) e hn
   | none =>
    simp only [foQ, Bool.false_eq_true, if_false]
    rw [wrap_in (x := (n : Int) - (g : Int)) (by omega) (by omega), Int.tdiv_eq_ediv_of_nonneg (by omega), wrap_in (x := ((n : Int) - (g : Int)) / 2) (by omega) (by omega), mx_max]
    exact longest_l0 h1 hl hco m k g n _ q (by omega) (by omega) hg (by omega) (by omega) (by omega) (by omega) (by omega) hq (fun _ => e)
  ·rw [if_neg c]
   have hbg : b = g + 1 := by omega
   subst hbg
   exact ⟨g, q, ⟨hg, by omega, by rw [hq]; rfl, fun h => hn (by omega)⟩, hq, rfl⟩
theorem longest_f {k : Nat} (hk : 5000 ≤ k) {l : List Int} (h1 : 1 ≤ l.length) (hl : l.length ≤ 4000) (hco : ∀ x ∈ l, Q.Coord x) :
  ∃ r, Q.fitL (l.take (longN l)) = some r ∧ curve_longest.f k l = some ((longN l : Int), r.A, r.B, r.D) := by
 unfold curve_longest.f
 rw [if_pos (by omega), fit_out (by rw [List.length_take]; omega) (by rw [List.length_take]; omega) (takes_coord hco 1)]
 simp only [Option.bind_some]
 cases e : Q.fitL (l.take 1) with
 | none =>
  have := fit_first h1 hco
  rw [e] at this
  cases this
 | some q =>
  simp only [foQ]
  rw [wrap_in (x := (l.length : Int) + 1) (by omega) (by omega)]
  obtain ⟨n, r, g1, g2, g3⟩ := longest_l0 h1 hl hco l.length k 1 (l.length + 1) 2 q (by omega) (by omega) (by omega) (by omega) (by omega) (by omega) (by omega) (by omega) e (fun h => by omega)
  have hn := g1.unique (longN_long h1 hco)
  subst hn
  exact ⟨r, g2, g3⟩
theorem split_l0 : ∀ (m k : Nat) (a : Int) (l : List Int) (acc : List SP), l.length ≤ m → m + 6000 < k → l.length ≤ 4000 → (∀ x ∈ l, Q.Coord x) → 0 ≤ a → a ≤ 10000 → a + l.length ≤ 10000 → acc.length + l.length ≤ 10000 →
  curve_split.l0 k a l acc = some (acc ++ partsF m a l)
 | 0, k, a, l, acc, hm, hk, hl, hco, ha, ha2, ha3, hac => by
  obtain ⟨k, rfl⟩ : ∃ m, k = m + 1 := ⟨k - 1, by omega⟩
  rw [curve_split.l0, if_neg (by omega), partsF, List.append_nil]
 | m + 1, k, a, l, acc, hm, hk, hl, hco, ha, ha2, ha3, hac => by
  obtain ⟨k, rfl⟩ : ∃ m, k = m + 1 := ⟨k - 1, by omega⟩
  rw [curve_split.l0, partsF]
  by_cases c : l.length = 0
  ·rw [if_neg (by omega), if_pos c, List.append_nil]
  ·rw [if_pos (by omega), if_neg c]
   obtain ⟨r, hr, hf⟩ := longest_f (k := k) (by omega) (by omega) hl hco
   have hlong := longN_long (l := l) (by omega) hco
   have h1 := hlong.one
   have h2 := hlong.le
   rw [hf]
   simp only [Option.bind_some]
   rw [if_pos (by omega), if_pos (by omega), if_pos (by omega), wrap_in (x := a + (longN l : Int)) (by omega) (by omega), Int.toNat_natCast]
   rw [split_l0 m k (a + (longN l : Int)) (l.drop (longN l)) _ (by rw [List.length_drop]; omega) (by omega) (by rw [List.length_drop]; omega) (drops_coord hco _) (by omega) (by omega) (by rw [List.length_drop]; omega) (by rw [List.length_append, List.length_drop]; simp; omega)]
   rw [List.append_assoc, hr]
   rfl
theorem split_f {k : Nat} (hk : 12000 ≤ k) {a : Int} {l : List Int} (hl : l.length ≤ 4000) (hco : ∀ x ∈ l, Q.Coord x) (ha : 0 ≤ a) (ha2 : a ≤ 4001) : curve_split.f k a l = some (parts a l) := by
 unfold curve_split.f parts
 rw [split_l0 l.length k a l [] (Nat.le_refl _) (by omega) hl hco ha (by omega) (by omega) (by simp; omega)]
 rfl
def makeOut (a : Int) (l : List Int) : List SP × Int :=
 if l.length > 4000 then ([], 2) else if l.length = 0 ∨ a < 0 ∨ a > 4001 - (l.length : Int) ∨ coordsB l = false then ([], 1) else (parts a l, 0)
def qval (q : SQ) (n : Int) : Int := (q.f0 * n + q.f1) / q.f2
def valsOf (l : List SP) : List Int := l.flatMap fun p => (List.range (p.f1 - p.f0).toNat).map fun (i : Nat) => qval p.f2 (i : Int)
def okPart (p : SP) : Bool := decide ((1 ≤ p.f2.f2 ∧ p.f2.f2 ≤ 16) ∧ Q.Coord p.f2.f0 ∧ Q.Coord p.f2.f1) && decide (0 ≤ p.f0 ∧ p.f0 < p.f1 ∧ p.f1 ≤ 4001)
def chain : Int → List SP → Option Int
 | a, [] => some a
 | a, p :: l => if okPart p = true ∧ p.f0 = a then chain p.f1 l else none
def joinedB (l : List SP) : Bool :=
 match l with
 | [] => false
 | p :: _ => match chain p.f0 l with
  | none => false
  | some e => decide (e - p.f0 ≤ 4000)
deriving instance DecidableEq for S23, S61
def validB (l : List SP) : Bool := joinedB l && decide (makeOut (l.getD 0 z61).f0 (valsOf l) = (l, 0))
end Go.Proofs.Ytjpghfjaloglhaa.PContract

