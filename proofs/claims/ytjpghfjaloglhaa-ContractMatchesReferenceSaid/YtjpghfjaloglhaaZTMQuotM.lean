/-
Plain facts about quotients that fit a list of values: the first quotient that fits is found by going through D from 1 to 16 and, for each D, through the candidates for A.
Conditions: none beyond those that each lemma names.
-/
namespace Go.Proofs.Ytjpghfjaloglhaa.Q
def Coord (n : Int) : Prop := -1000000000 ≤ n ∧ n ≤ 1000000000
instance (n : Int) : Decidable (Coord n) := inferInstanceAs (Decidable (_ ∧ _))
def iabs (n : Int) : Int := max n (-n)
def lohi (a d : Int) : Int → Int × Int → List Int → Int × Int
 | _, p, [] => p
 | i, p, v :: l => lohi a d (i + 1) (max p.1 (d * v - a * i), min p.2 (d * v - a * i + d - 1)) l
def FitsAt (A B D : Int) : Int → List Int → Prop
 | _, [] => True
 | i, v :: l => (D * v ≤ A * i + B ∧ A * i + B < D * v + D) ∧ FitsAt A B D (i + 1) l
theorem lohi_spec (a d B : Int) : ∀ (l : List Int) (i : Int) (p : Int × Int),
  ((lohi a d i p l).1 ≤ B ∧ B ≤ (lohi a d i p l).2) ↔ ((p.1 ≤ B ∧ B ≤ p.2) ∧ FitsAt a B d i l)
 | [], i, p => by simp [lohi, FitsAt]
 | v :: l, i, p => by
  simp only [lohi, FitsAt]
  rw [lohi_spec a d B l (i + 1) _]
  constructor
  ·rintro ⟨⟨h1, h2⟩, h3⟩
   refine ⟨⟨by omega, by omega⟩, ⟨by omega, by omega⟩, h3⟩
  ·rintro ⟨⟨h1, h2⟩, ⟨h3, h4⟩, h5⟩
   exact ⟨⟨by omega, by omega⟩, h5⟩
theorem lohi_mono (a d : Int) : ∀ (l : List Int) (i : Int) (p : Int × Int), p.1 ≤ (lohi a d i p l).1 ∧ (lohi a d i p l).2 ≤ p.2
 | [], i, p => by simp [lohi]
 | v :: l, i, p => by
  simp only [lohi]
  have h := lohi_mono a d l (i + 1) (max p.1 (d * v - a * i), min p.2 (d * v - a * i + d - 1))
  simp only at h
  omega
theorem fitsAt_get {A B D : Int} : ∀ {l : List Int} {i : Int}, FitsAt A B D i l → ∀ (j : Nat) (h : j < l.length), D * l[j] ≤ A * (i + j) + B ∧ A * (i + j) + B < D * l[j] + D
 | v :: l, i, hf, 0, _ => by
  have := hf.1
  simpa using this
 | v :: l, i, hf, j + 1, h => by
  have h2 := fitsAt_get hf.2 j (by simpa using h)
  simp only [List.getElem_cons_succ]
  have e : i + 1 + (j : Int) = i + ((j + 1 : Nat) : Int) := by omega
  rw [e] at h2
  exact h2
structure Quo where
 A : Int
 B : Int
 D : Int
deriving DecidableEq
def Quo.Ok (q : Quo) : Prop := (1 ≤ q.D ∧ q.D ≤ 16) ∧ Coord q.A ∧ Coord q.B
def Quo.Fits (q : Quo) (l : List Int) : Prop := FitsAt q.A q.B q.D 0 l
def Quo.Before (q r : Quo) : Prop :=
 q.D < r.D ∨ q.D = r.D ∧ (iabs q.A < iabs r.A ∨ iabs q.A = iabs r.A ∧ (q.A < r.A ∨ q.A = r.A ∧ q.B < r.B))
theorem Quo.total {q r : Quo} (h1 : ¬ q.Before r) (h2 : ¬ r.Before q) : q = r := by
 cases q with
 | mk a b d =>
  cases r with
  | mk a' b' d' =>
   simp only [Quo.Before] at h1 h2
   have : a = a' ∧ b = b' ∧ d = d' := by omega
   obtain ⟨rfl, rfl, rfl⟩ := this
   rfl
structure First (l : List Int) (q : Quo) : Prop where
 ok : q.Ok
 fits : q.Fits l
 least : ∀ r : Quo, r.Ok → r.Fits l → ¬ r.Before q
theorem First.unique {l : List Int} {q r : Quo} (hq : First l q) (hr : First l r) : q = r :=
 Quo.total (hr.least q hq.ok hq.fits) (hq.least r hr.ok hr.fits)
def better (a : Int) (b : Int) : Prop := iabs a < iabs b ∨ iabs a = iabs b ∧ a < b
instance (a b : Int) : Decidable (better a b) := inferInstanceAs (Decidable (_ ∨ _))
def bs (l : List Int) (a d : Int) : Int × Int := lohi a d 0 (-1000000000, 1000000000) l
def step (l : List Int) (d : Int) (best : Option (Int × Int)) (a : Int) : Option (Int × Int) :=
 if (bs l a d).1 ≤ (bs l a d).2 then
  match best with
  | none => some (a, (bs l a d).1)
  | some b => if better a b.1 then some (a, (bs l a d).1) else some b
 else best
def ints (lo hi : Int) : List Int := (List.range (hi + 1 - lo).toNat).map fun (i : Nat) => lo + (i : Int)
def rise (l : List Int) (d : Int) : Int := d * (l.getD (l.length - 1) 0 - l.getD 0 0)
def loA (l : List Int) (d : Int) : Int := -((d - 1 - rise l d) / ((l.length : Int) - 1))
def hiA (l : List Int) (d : Int) : Int := (rise l d + d - 1) / ((l.length : Int) - 1)
def cands (l : List Int) (d : Int) : List Int := if l.length = 1 then [0] else (ints (loA l d) (hiA l d)).filter fun a => decide (Coord a)
def bestD (l : List Int) (d : Int) : Option (Int × Int) := (cands l d).foldl (step l d) none
def findD (l : List Int) : Nat → Int → Option Quo
 | 0, _ => none
 | f + 1, d => match bestD l d with
  | some p => some ⟨p.1, p.2, d⟩
  | none => findD l f (d + 1)
def fitL (l : List Int) : Option Quo := findD l 16 1
theorem mem_ints {lo hi a : Int} : a ∈ ints lo hi ↔ lo ≤ a ∧ a ≤ hi := by
 unfold ints
 simp only [List.mem_map, List.mem_range]
 constructor
 ·rintro ⟨i, hi, rfl⟩
  omega
 ·rintro ⟨h1, h2⟩
  exact ⟨(a - lo).toNat, by omega, by omega⟩
theorem bs_fits {l : List Int} {a d : Int} (h : (bs l a d).1 ≤ (bs l a d).2) : FitsAt a (bs l a d).1 d 0 l ∧ Coord (bs l a d).1 := by
 have := (lohi_spec a d (bs l a d).1 l 0 (-1000000000, 1000000000)).1 ⟨Int.le_refl _, h⟩
 exact ⟨this.2, this.1.1, this.1.2⟩
theorem bs_least {l : List Int} {a d B : Int} (hB : Coord B) (h : FitsAt a B d 0 l) : (bs l a d).1 ≤ (bs l a d).2 ∧ (bs l a d).1 ≤ B := by
 have := (lohi_spec a d B l 0 (-1000000000, 1000000000)).2 ⟨hB, h⟩
 exact ⟨Int.le_trans this.1 this.2, this.1⟩
structure BestOf (l : List Int) (d : Int) (as : List Int) (r : Option (Int × Int)) : Prop where
 none : r = none → ∀ a ∈ as, ¬ (bs l a d).1 ≤ (bs l a d).2
 some : ∀ p, r = some p → p.1 ∈ as ∧ (bs l p.1 d).1 ≤ (bs l p.1 d).2 ∧ p.2 = (bs l p.1 d).1 ∧ ∀ a ∈ as, (bs l a d).1 ≤ (bs l a d).2 → ¬ better a p.1
theorem BestOf.step {l : List Int} {d : Int} {as : List Int} {r : Option (Int × Int)} (h : BestOf l d as r) (a : Int) : BestOf l d (as ++ [a]) (step l d r a) := by
 unfold Q.step
 by_cases c : (bs l a d).1 ≤ (bs l a d).2
 ·rw [if_pos c]
  cases r with
  | none =>
   refine ⟨fun e => by simp at e, fun p e => ?_⟩
   obtain rfl : (a, (bs l a d).1) = p := by simpa using e
   refine ⟨by simp, c, rfl, fun b hb hc => ?_⟩
   rcases List.mem_append.1 hb with hb | hb
   ·exact absurd hc (h.none rfl b hb)
   ·obtain rfl : b = a := by simpa using hb
    unfold better
    simp only
    omega
  | some q =>
   obtain ⟨h1, h2, h3, h4⟩ := h.some q rfl
   by_cases hbt : better a q.1
   ·simp only [if_pos hbt]
    refine ⟨fun e => by simp at e, fun p e => ?_⟩
    obtain rfl : (a, (bs l a d).1) = p := by simpa using e
    refine ⟨by simp, c, rfl, fun b hb hc => ?_⟩
    rcases List.mem_append.1 hb with hb | hb
    ·have := h4 b hb hc
     unfold better at *
     simp only
     omega
    ·obtain rfl : b = a := by simpa using hb
     unfold better
     simp only
     omega
   ·simp only [if_neg hbt]
    refine ⟨fun e => by simp at e, fun p e => ?_⟩
    obtain rfl : q = p := by simpa using e
    refine ⟨List.mem_append_left _ h1, h2, h3, fun b hb hc => ?_⟩
    rcases List.mem_append.1 hb with hb | hb
    ·exact h4 b hb hc
    ·obtain rfl : b = a := by simpa using hb
     exact hbt
 ·rw [if_neg c]
  refine ⟨fun e b hb => ?_, fun p e => ?_⟩
  ·rcases List.mem_append.1 hb with hb | hb
   ·exact h.none e b hb
   ·obtain rfl : b = a := by simpa using hb
    exact c
  ·obtain ⟨h1, h2, h3, h4⟩ := h.some p e
   refine ⟨List.mem_append_left _ h1, h2, h3, fun b hb hc => ?_⟩
   rcases List.mem_append.1 hb with hb | hb
   ·exact h4 b hb hc
   ·obtain rfl : b = a := by simpa using hb
    exact absurd hc c
theorem BestOf.fold {l : List Int} {d : Int} : ∀ (bs as : List Int) (r : Option (Int × Int)), BestOf l d as r → BestOf l d (as ++ bs) (bs.foldl (Q.step l d) r)
 | [], as, r, h => by simpa using h
 | b :: bs, as, r, h => by
  have := BestOf.fold bs (as ++ [b]) _ (h.step b)
  simpa using this
theorem bestD_spec (l : List Int) (d : Int) : BestOf l d (cands l d) (bestD l d) := by
 have h0 : BestOf l d [] none := ⟨fun _ a h => by simp at h, fun p e => by simp at e⟩
 exact BestOf.fold (cands l d) [] none h0
theorem fits_range {l : List Int} {A B D : Int} (h2 : 2 ≤ l.length) (hf : FitsAt A B D 0 l) : loA l D ≤ A ∧ A ≤ hiA l D := by
 have h0 := fitsAt_get hf 0 (by omega)
 have hn := fitsAt_get hf (l.length - 1) (by omega)
 unfold loA hiA
 have e0 : l.getD 0 0 = l[0] := by simp [List.getD, List.getElem?_eq_getElem (show 0 < l.length by omega)]
 have en : l.getD (l.length - 1) 0 = l[l.length - 1] := by simp [List.getD, List.getElem?_eq_getElem (show l.length - 1 < l.length by omega)]
 have er : rise l D = D * l[l.length - 1] - D * l[0] := by unfold rise; rw [e0, en, Int.mul_sub]
 have em : A * (0 + ((l.length - 1 : Nat) : Int)) = A * ((l.length : Int) - 1) := by
  congr 1
  omega
 rw [em] at hn
 have ez : A * (0 + ((0 : Nat) : Int)) = 0 := by simp
 rw [ez] at h0
 generalize l[l.length - 1] = y at *
 generalize l[0] = x at *
 rw [er]
 have hpos : 0 < (l.length : Int) - 1 := by omega
 refine ⟨?_, ?_⟩
 ·have : -A ≤ (D - 1 - (D * y - D * x)) / ((l.length : Int) - 1) := by
   rw [Int.le_ediv_iff_mul_le hpos, Int.neg_mul]
   omega
  omega
 ·rw [Int.le_ediv_iff_mul_le hpos]
  omega
theorem bestD_none {l : List Int} {d : Int} (h1 : 1 ≤ l.length) (h : bestD l d = none) (hd : 1 ≤ d ∧ d ≤ 16) (q : Quo) (hq : q.Ok) (e : q.D = d) : ¬ q.Fits l := by
 intro hf
 have hs := bestD_spec l d
 subst e
 by_cases hl : l.length = 1
 ·have hc : cands l q.D = [0] := by unfold cands; rw [if_pos hl]
  have := hs.none h 0 (by rw [hc]; simp)
  apply this
  match l, hl with
  | [v], _ =>
   have hg := hf.1
   have hA := hq.2.1
   have hB := hq.2.2
   have e0 : q.A * 0 = 0 := Int.mul_zero _
   rw [e0] at hg
   have := (bs_least (l := [v]) (a := 0) (d := q.D) (B := q.B) hB ⟨by rw [Int.zero_mul]; exact hg, trivial⟩).1
   exact this
 ·have hr := fits_range (by omega) hf
  have hc : q.A ∈ cands l q.D := by
   unfold cands
   rw [if_neg hl]
   exact List.mem_filter.2 ⟨mem_ints.2 hr, by simpa using hq.2.1⟩
  exact hs.none h q.A hc (bs_least hq.2.2 hf).1
theorem cands_coord {l : List Int} {d a : Int} (h : a ∈ cands l d) : Coord a := by
 unfold cands at h
 split at h
 ·obtain rfl : a = 0 := by simpa using h
  unfold Coord
  omega
 ·have := (List.mem_filter.1 h).2
  simpa using this
theorem bestD_some {l : List Int} {d : Int} {p : Int × Int} (h1 : 1 ≤ l.length) (h : bestD l d = some p) (hd : 1 ≤ d ∧ d ≤ 16) :
  (Quo.mk p.1 p.2 d).Ok ∧ (Quo.mk p.1 p.2 d).Fits l ∧ ∀ r : Quo, r.Ok → r.Fits l → r.D = d → ¬ r.Before ⟨p.1, p.2, d⟩ := by
 obtain ⟨hm, hle, hb, hbest⟩ := (bestD_spec l d).some p h
 have hf := bs_fits hle
 rw [← hb] at hf
 refine ⟨⟨hd, cands_coord hm, hf.2⟩, hf.1, fun r hr hfr e hbf => ?_⟩
 unfold Quo.Before at hbf
 simp only at hbf
 subst e
 have hl := bs_least hr.2.2 hfr
 by_cases hl1 : l.length = 1
 ·have hc : cands l r.D = [0] := by unfold cands; rw [if_pos hl1]
  have hp0 : p.1 = 0 := by rw [hc] at hm; simpa using hm
  rw [hp0] at hbf hb hle
  have : r.A = 0 ∧ r.B < p.2 := by
   unfold iabs at hbf
   omega
  obtain ⟨ea, hlt⟩ := this
  rw [ea] at hl
  omega
 ·have hrg := fits_range (by omega) hfr
  have hc : r.A ∈ cands l r.D := by
   unfold cands
   rw [if_neg hl1]
   exact List.mem_filter.2 ⟨mem_ints.2 hrg, by simpa using hr.2.1⟩
  have hnb := hbest r.A hc hl.1
  unfold better at hnb
  have : r.A = p.1 ∧ r.B < p.2 := by omega
  obtain ⟨ea, hlt⟩ := this
  rw [ea] at hl
  omega
theorem findD_spec {l : List Int} (h1 : 1 ≤ l.length) : ∀ (f : Nat) (d : Int), 1 ≤ d → d + f = 17 → (∀ r : Quo, r.Ok → r.D < d → ¬ r.Fits l) →
  (∀ q, findD l f d = some q → First l q) ∧ (findD l f d = none → ∀ r : Quo, r.Ok → ¬ r.Fits l)
 | 0, d, _, hf, hlt => ⟨fun q e => by simp [findD] at e, fun _ r hr => hlt r hr (by have := hr.1.2; omega)⟩
 | f + 1, d, hd, hf, hlt => by
  unfold findD
  cases hb : bestD l d with
  | none =>
   simp only
   refine findD_spec h1 f (d + 1) (by omega) (by omega) fun r hr hr1 => ?_
   by_cases e : r.D = d
   ·exact bestD_none h1 hb ⟨hd, by omega⟩ r hr e
   ·exact hlt r hr (by omega)
  | some p =>
   simp only
   obtain ⟨g1, g2, g3⟩ := bestD_some h1 hb ⟨hd, by omega⟩
   refine ⟨fun q e => ?_, fun e => by simp at e⟩
   obtain rfl : Quo.mk p.1 p.2 d = q := by simpa using e
   refine ⟨g1, g2, fun r hr hfr hbf => ?_⟩
   by_cases e : r.D = d
   ·exact g3 r hr hfr e hbf
   ·have : r.D < d := by
     unfold Quo.Before at hbf
     simp only at hbf
     omega
    exact hlt r hr this hfr
theorem fitL_first {l : List Int} (h1 : 1 ≤ l.length) {q : Quo} (h : fitL l = some q) : First l q :=
 (findD_spec h1 16 1 (by omega) (by omega) fun r hr h => absurd hr.1.1 (by omega)).1 q h
theorem fitL_none {l : List Int} (h1 : 1 ≤ l.length) (h : fitL l = none) (r : Quo) (hr : r.Ok) : ¬ r.Fits l :=
 (findD_spec h1 16 1 (by omega) (by omega) fun r hr h => absurd hr.1.1 (by omega)).2 h r hr
theorem fitL_of_first {l : List Int} (h1 : 1 ≤ l.length) {q : Quo} (h : First l q) : fitL l = some q := by
 cases e : fitL l with
 | none => exact absurd h.fits (fitL_none h1 e q h.ok)
 | some r => rw [(fitL_first h1 e).unique h]
end Go.Proofs.Ytjpghfjaloglhaa.Q

