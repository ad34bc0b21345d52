import Derived.Test.YtjpghfjaloglhaaZTMEContractCurveF
import Derived.Test.YtjpghfjaloglhaaZTMEContractEnter
import Derived.Test.YtjpghfjaloglhaaZTMPContractx0
import Derived.Test.YtjpghfjaloglhaaZTMPContractx8
import Derived.Test.YtjpghfjaloglhaaZTMPContractx7
/-
Contracts in plain terms: well-formed accounts and answers, what is promised, what Judge and Course return.
Conditions: those that each lemma names.
-/
namespace Go.Proofs.Ytjpghfjaloglhaa.PContract
open Go.RowKit Go.Proofs.YtjpghfjaloglhaaW.PrintWords
set_option linter.unusedVariables false
set_option linter.unusedSimpArgs false
abbrev SA := S78
def ansB (n w k h : Int) : Bool := decide (1 ≤ n ∧ n ≤ 1000000) && decide (HOk w) && (if k = 1 then decide (HOk h) else if k = 2 ∨ k = 3 then decide (h = 0) else false)
theorem rightAnswer_f (n w k h : Int) : contract_rightAnswer.f 5 n w k h = some (ansB n w k h) := by
 unfold contract_rightAnswer.f ansB
 rw [isNode_f, isHeight_f]
 simp only [Option.bind_some]
 by_cases c1 : 1 ≤ n ∧ n ≤ 1000000
 ·rw [decide_eq_true c1, if_pos rfl]
  unfold contract_rightAnswer.j0
  by_cases c2 : HOk w
  ·rw [decide_eq_true c2]
   simp only [Bool.not_true, Bool.false_eq_true, if_false, Bool.true_and, Bool.and_self]
   rw [isHeight_f]
   simp only [Option.bind_some]
   by_cases c3 : k = 1
   ·rw [if_pos c3, if_pos c3]
   ·rw [if_neg c3, if_neg c3]
    by_cases c4 : k = 2
    ·rw [if_pos c4, if_pos (.inl c4)]
     rfl
    ·rw [if_neg c4]
     by_cases c5 : k = 3
     ·rw [if_pos c5, if_pos (.inr c5)]
      rfl
     ·rw [if_neg c5, if_neg (by omega)]
  ·rw [decide_eq_false c2]
   simp
 ·rw [decide_eq_false c1, if_neg (by simp)]
  unfold contract_rightAnswer.j0
  simp
def accB (n : Int) (a : Acc) : Bool := decide (1 ≤ n ∧ n ≤ 1000000) && decide a.Ok
theorem rightAccount_f (n : Int) (a : Acc) : contract_rightAccount.f n a.ch a.cg a.la a.fr = some (accB n a) := by
 unfold contract_rightAccount.f accB
 rw [isNode_f, within_f, within_f, within_f]
 simp only [Option.bind_some]
 by_cases c1 : 1 ≤ n ∧ n ≤ 1000000
 ·rw [decide_eq_true c1, if_pos rfl]
  by_cases c2 : 0 ≤ a.ch ∧ a.ch ≤ 1000000000
  ·rw [decide_eq_true c2, if_pos rfl]
   by_cases c3 : 0 ≤ a.cg ∧ a.cg ≤ 1000000000
   ·rw [decide_eq_true c3, if_pos rfl]
    congr 1
    simp only [Bool.true_and]
    refine decide_eq_decide.2 ⟨fun h => ⟨c2, c3, h⟩, fun h => h.2.2⟩
   ·rw [decide_eq_false c3, if_neg (by simp), decide_eq_false (fun h => c3 h.2.1)]
    rfl
  ·rw [decide_eq_false c2, if_neg (by simp), decide_eq_false (fun h => c2 h.1)]
   rfl
 ·rw [decide_eq_false c1, if_neg (by simp)]
  rfl
def spot (a : Int) (len : Nat) (w : Int) : Nat := (min (max (w - a) 0) ((len : Int) - 1)).toNat
def promI (l : List SP) (w : Int) : Int := (valsOf l).getD (spot (rd_T61 l 0).f0 (valsOf l).length w) 0
theorem chain_last : ∀ (l : List SP) (a e : Int), chain a l = some e → 0 < l.length → (rd_T61 l ((l.length : Int) - 1)).f1 = e
 | [p], a, e, h, _ => by
  unfold chain at h
  by_cases c : okPart p = true ∧ p.f0 = a
  ·rw [if_pos c] at h
   unfold chain at h
   injection h
  ·rw [if_neg c] at h
   cases h
 | p :: q :: l, a, e, h, _ => by
  unfold chain at h
  by_cases c : okPart p = true ∧ p.f0 = a
  ·rw [if_pos c] at h
   have ih := chain_last (q :: l) _ e h (by simp)
   rw [← ih]
   unfold rd_T61
   simp only [List.length_cons]
   have e1 : ((((l.length + 1 + 1 : Nat) : Int) - 1).toNat) = l.length + 1 := by omega
   have e2 : ((((l.length + 1 : Nat) : Int) - 1).toNat) = l.length := by omega
   rw [e1, e2]
   simp
  ·rw [if_neg c] at h
   cases h
theorem valid_first {l : List SP} (h : validB l = true) : 0 < l.length := (joined_facts (valid_joined h)).1
theorem valid_last {l : List SP} (h : validB l = true) : (rd_T61 l ((l.length : Int) - 1)).f1 = (rd_T61 l 0).f0 + (valsOf l).length := by
 obtain ⟨g, e⟩ := valid_parts h
 have hs := (parts_spec g.co g.zero g.far).1
 rw [← e] at hs
 exact chain_last l _ _ hs (valid_first h)
theorem promised_f {n m : Int} {l : List SP} (h : validB l = true) (w : Int) : contract_promised.f n m l w = some (promI l w) := by
 obtain ⟨g, e⟩ := valid_parts h
 have h1 := valid_first h
 have h2 := valid_last h
 have h3 := g.one
 have h4 := g.few
 have h5 := g.zero
 have h6 := g.far
 have h7 := (joined_facts (valid_joined h)).2.2.2.2.2.1
 unfold contract_promised.f
 rw [if_pos (by omega), wrap_in (x := (l.length : Int) - 1) (by omega) (by omega), if_pos (by omega), if_pos (by omega), h2]
 rw [wrap_in (x := (rd_T61 l 0).f0 + ((valsOf l).length : Int) - 1) (by omega) (by omega), mx_max, mn_min]
 unfold curve_At.f promI
 simp only [Option.bind_some]
 generalize hF : (rd_T61 l 0).f0 = a at *
 generalize hV : valsOf l = vs at *
 have hs : min (max w a) (a + (vs.length : Int) - 1) = a + (spot a vs.length w : Nat) := by
  unfold spot
  omega
 have hi : spot a vs.length w < vs.length := by
  unfold spot
  omega
 rw [hs]
 have k := at_in g hi
 rw [← e] at k
 rw [k]
theorem prom_ok {n m : Int} {l : List SP} (h : cvalidB n m l = true) (w : Int) : HOk (promI l w) := by
 unfold cvalidB at h
 simp only [Bool.and_eq_true] at h
 obtain ⟨⟨⟨hv, _⟩, _⟩, hh⟩ := h
 obtain ⟨g, e⟩ := valid_parts hv
 have h3 := g.one
 have hi : spot (rd_T61 l 0).f0 (valsOf l).length w < (valsOf l).length := by
  unfold spot
  omega
 unfold promI
 refine hgtsB_iff.1 hh _ ?_
 rw [List.getD_eq_getElem?_getD, List.getElem?_eq_getElem hi]
 exact List.getElem_mem hi
theorem cvalid_valid {n m : Int} {l : List SP} (h : cvalidB n m l = true) : validB l = true := by
 unfold cvalidB at h
 simp only [Bool.and_eq_true] at h
 exact h.1.1.1
theorem moreI_ok {n : Int} (h1 : 0 ≤ n) (h2 : n ≤ 1000000000) : 0 ≤ moreI n ∧ moreI n ≤ 1000000000 ∧ n ≤ moreI n := by
 unfold moreI
 split <;> omega
theorem enter_ok {a : Acc} {k h p m : Int} (ha : a.Ok) (hh : HOk h) (hp : HOk p) : (enterA a k h p m).Ok := by
 obtain ⟨ch, cg, la, fr⟩ := a
 obtain ⟨⟨a1, a2⟩, ⟨a3, a4⟩, a5, a6⟩ := ha
 obtain ⟨b1, b2⟩ := hh
 obtain ⟨b3, b4⟩ := hp
 simp only at a1 a2 a3 a4 a5 a6
 have k1 := moreI_ok a1 a2
 have k2 := moreI_ok a3 a4
 unfold enterA
 simp only
 repeat' split
 all_goals (unfold Acc.Ok; simp only; omega)
def judgeOut (n m : Int) (l : List SP) (an : Int) (a : Acc) (x : SA) : Int × Acc × Int × Bool × Int :=
 if cvalidB n m l = true ∧ accB an a = true ∧ ansB x.f0 x.f1 x.f2 x.f3 = true ∧ an = n ∧ x.f0 = n then (n, enterA a x.f2 x.f3 (promI l x.f1) m, promI l x.f1, decide (promI l x.f1 < x.f3), 0)
 else (0, ⟨0, 0, 0, false⟩, 0, false, 1)
def contract_Judge.f (n m : Int) (l : List SP) (an ch cg la : Int) (fr : Bool) (xn xw xk xh : Int) : Option (Int × Int × Int × Int × Bool × Int × Bool × Int) :=
 match judgeOut n m l an ⟨ch, cg, la, fr⟩ ⟨xn, xw, xk, xh⟩ with
 | (bn, b, h, cut, er) => some (bn, b.ch, b.cg, b.la, b.fr, h, cut, er)
def strangeB (n : Int) (x : SA) : Bool := !(ansB x.f0 x.f1 x.f2 x.f3) || decide (x.f0 ≠ n)
def runA (m : Int) (l : List SP) (a : Acc) (xs : List SA) : Acc := xs.foldl (fun a x => enterA a x.f2 x.f3 (promI l x.f1) m) a
def courseOut (n m : Int) (l : List SP) (xs : List SA) : Int × Acc × List Int × Int :=
 if cvalidB n m l = false then (0, ⟨0, 0, 0, false⟩, [], 1)
 else if xs.length > 500 then (0, ⟨0, 0, 0, false⟩, [], 2)
 else if xs.any (strangeB n) = true then (0, ⟨0, 0, 0, false⟩, [], 1)
 else (n, runA m l ⟨0, 0, 0, false⟩ xs, xs.map fun x => promI l x.f1, 0)
def contract_Course.f (n m : Int) (l : List SP) (xs : List SA) : Option (Int × Int × Int × Int × Bool × List Int × Int) :=
 match courseOut n m l xs with
 | (bn, b, hs, er) => some (bn, b.ch, b.cg, b.la, b.fr, hs, er)
end Go.Proofs.Ytjpghfjaloglhaa.PContract

