import Derived.Test.YtjpghfjaloglhaaZMRECurveRefD
import Derived.Test.YtjpghfjaloglhaaZMRECurveCurveS
import Derived.Test.YtjpghfjaloglhaaZMRPCurvex0
import Derived.Test.YtjpghfjaloglhaaZMRPCurvex17
import Derived.Test.YtjpghfjaloglhaaZMRPCurvex18
import Derived.Test.YtjpghfjaloglhaaZMRPCurvex19
import Derived.Test.YtjpghfjaloglhaaZMRPCurvex20
/-
The reference's Valid, At, Values, Sum and Max on curves are the program's.
Conditions: those that each lemma names.
-/
namespace Go.Proofs.Ytjpghfjaloglhaa.PCurve
set_option linter.unusedSimpArgs false
open Go.RowKit Go.Proofs.YtjpghfjaloglhaaW.PrintWords
theorem rall_f {k : Nat} (hk : 250000 ≤ k) {ps : List SP} (h : ps.length < 50) : formeref02_all.f k ps = some (allFin [] ps (rd_T61 ps 0).f0) := by
  unfold formeref02_all.f
  have := rall_l0 h ps.length k 0 [] (rd_T61 ps 0).f0 (by omega) (by simp) (by omega) (fun _ => rfl) (fun h => by omega)
  simpa using this
theorem joinedB_eq {ps : List SP} (h : 0 < ps.length) : joinedB ps = (match chain (rd_T61 ps 0).f0 ps with | none => false | some e => decide (e - (rd_T61 ps 0).f0 ≤ 4000)) := by
  match ps, h with
  | p :: l, _ => rfl
theorem rvalid_c {k : Nat} (hk : 300000 ≤ k) {ps : List SP} (h : ps.length < 50) : formeref02_Valid.f k ps = some (validB ps) := by
  unfold formeref02_Valid.f
  rw [rall_f (by omega) h]
  simp only [Option.bind_some]
  by_cases h0 : ps.length = 0
  · obtain rfl : ps = [] := List.eq_nil_of_length_eq_zero h0
    rfl
  · have hj := joinedB_eq (ps := ps) (by omega)
    have hv : validB ps = (joinedB ps && decide (makeOut (rd_T61 ps 0).f0 (valsOf ps) = (ps, 0))) := rfl
    unfold allFin
    cases hc : chain (rd_T61 ps 0).f0 ps with
    | none =>
      rw [hc] at hj
      rw [hv, hj]
      rfl
    | some e =>
      obtain ⟨g1, g2, g3, g4, g5⟩ := chain_facts _ _ _ hc
      have hok := g1 (rd_T61 ps 0) (by unfold rd_T61; rw [List.getD_eq_getElem?_getD, List.getElem?_eq_getElem (by simp; omega), Option.getD_some]; exact List.getElem_mem _)
      unfold okPart at hok
      simp only [Bool.and_eq_true, decide_eq_true_eq] at hok
      rw [hc] at hj
      simp only at hj
      simp only [List.nil_append]
      cases hb : coordsB (valsOf ps) with
      | false =>
        simp only [Bool.false_eq_true, if_false]
        rw [hv, decide_eq_false, Bool.and_false]
        intro he
        have := (make_ok_good (a := (rd_T61 ps 0).f0) (l := valsOf ps) (by rw [he])).co
        rw [coordsB_iff.2 this] at hb
        cases hb
      | true =>
        rw [if_pos rfl]
        by_cases c1 : 1 ≤ (valsOf ps).length ∧ (valsOf ps).length ≤ 4000
        · simp only [decide_eq_true c1, if_true]
          have hg : Good (rd_T61 ps 0).f0 (valsOf ps) := ⟨c1.1, c1.2, by omega, by have := g4 (by omega); omega, coordsB_iff.1 hb⟩
          rw [if_pos (by omega), rsplit_f (by omega) c1.2 hg.co (by omega)]
          simp only [Option.bind_some]
          have hlen := (joined_facts (parts_joined hg)).2.2
          rw [(parts_spec hg.co hg.zero hg.far).2] at hlen
          rw [same_f (by omega) (by omega)]
          simp only [Option.bind_some]
          rw [hv, hj, make_good hg, decide_eq_true (show e - (rd_T61 ps 0).f0 ≤ 4000 by omega), Bool.true_and]
          congr 1
          exact decide_eq_decide.2 ⟨fun e => by rw [e], fun e => by injection e⟩
        · simp only [decide_eq_false c1, Bool.false_eq_true, if_false]
          rw [hv]
          cases hjj : joinedB ps with
          | false => rfl
          | true =>
            have := joined_facts hjj
            exact absurd ⟨this.2.2.2.1, this.2.2.1⟩ c1
theorem rat_l0 {ps : List SP} (hok : ∀ p ∈ ps, okPart p = true) (n : Int) (hl : ps.length ≤ 100000) : ∀ (m k i : Nat), i + m = ps.length → m < k →
    formeref02_At.l0 k ps n (i : Int) = some (match (ps.drop i).find? (hasN n) with | none => (0, 1) | some p => (qval p.f2 (n - p.f0), 0))
  | m, k, i, hm, hk => by
    obtain ⟨k, rfl⟩ : ∃ t, k = t + 1 := ⟨k - 1, by omega⟩
    rw [formeref02_At.l0]
    by_cases c : i < ps.length
    · obtain ⟨m, rfl⟩ : ∃ t, m = t + 1 := ⟨m - 1, by omega⟩
      have hp := hok (rd_T61 ps (i : Int)) (by unfold rd_T61; rw [List.getD_eq_getElem?_getD, List.getElem?_eq_getElem (by simpa using c), Option.getD_some]; exact List.getElem_mem _)
      rw [if_pos (by omega), if_pos (by omega), rdP_drop c, wrap_in (x := (i : Int) + 1) (by omega) (by omega)]
      have ih := rat_l0 hok n hl m k (i + 1) (by omega) (by omega)
      rw [show (i : Int) + 1 = ((i + 1 : Nat) : Int) by omega, ih]
      generalize rd_T61 ps (i : Int) = p at *
      unfold okPart at hp
      simp only [Bool.and_eq_true, decide_eq_true_eq] at hp
      by_cases c1 : p.f0 ≤ n
      · rw [if_pos c1]
        by_cases c2 : n < p.f1
        · rw [if_pos c2, wrap_in (x := n - p.f0) (by omega) (by omega), rvalue_f (by unfold VB; exact decide_eq_true hp.1) (by omega), List.find?_cons_of_pos (by unfold hasN; simp [c1, c2])]
          rfl
        · rw [if_neg c2, List.find?_cons_of_neg (by unfold hasN; simp; omega)]
      · rw [if_neg c1, List.find?_cons_of_neg (by unfold hasN; simp; omega)]
    · rw [if_neg (by omega), List.drop_eq_nil_of_le (by omega)]
      rfl
theorem rat_f {k : Nat} (hk : 300000 ≤ k) {ps : List SP} (h : ps.length < 50) (n : Int) : formeref02_At.f k ps n = some (atOut ps n) := by
  unfold formeref02_At.f atOut
  rw [rvalid_c hk h]
  simp only [Option.bind_some]
  cases hv : validB ps with
  | false =>
    rw [if_neg (by simp)]
    cases ps.find? (hasN n) with
    | none => rfl
    | some p => simp
  | true =>
    rw [if_pos rfl]
    have := rat_l0 (joined_facts (valid_joined hv)).2.1 n (by omega) ps.length k 0 (by omega) (by omega)
    rw [show ((0 : Nat) : Int) = 0 from rfl, List.drop_zero] at this
    rw [this]
    cases ps.find? (hasN n) with
    | none => rfl
    | some p => simp
theorem rvals_f {k : Nat} (hk : 300000 ≤ k) {ps : List SP} (h : ps.length < 50) : formeref02_Values.f k ps = some (valuesOut ps) := by
  unfold formeref02_Values.f valuesOut
  rw [rvalid_c hk h]
  simp only [Option.bind_some]
  cases hv : validB ps with
  | false => simp
  | true =>
    obtain ⟨hg, he⟩ := valid_parts hv
    have hs := (parts_spec hg.co hg.zero hg.far).1
    rw [← he] at hs
    rw [if_pos rfl, if_pos rfl, rall_f (by omega) h]
    unfold allFin
    rw [hs]
    simp only [Option.bind_some]
    rw [coordsB_iff.2 hg.co, if_pos rfl]
    rfl
def okBoth (a b : List SP) : Prop := validB a = true ∧ validB b = true ∧ (rd_T61 a 0).f0 = (rd_T61 b 0).f0 ∧ (valsOf a).length = (valsOf b).length
instance (a b : List SP) : Decidable (okBoth a b) := inferInstanceAs (Decidable (_ ∧ _))
theorem rboth_f {k : Nat} (hk : 300000 ≤ k) {a b : List SP} (ha : a.length < 50) (hb : b.length < 50) : formeref02_both.f k a b = some (if okBoth a b then (valsOf a, valsOf b, true) else ([], [], false)) := by
  unfold formeref02_both.f
  rw [rvals_f hk ha, rvals_f hk hb]
  simp only [Option.bind_some]
  have hbad : ∀ l, validB l = false → valuesOut l = ([], 1) := fun l h => by unfold valuesOut; rw [h]; rfl
  have hgood : ∀ l, validB l = true → valuesOut l = (valsOf l, 0) := fun l h => by unfold valuesOut; rw [h]; rfl
  cases hva : validB a with
  | false =>
    rw [hbad a hva, if_neg (by simp), if_neg (fun h => by have := h.1; rw [hva] at this; cases this)]
  | true =>
    cases hvb : validB b with
    | false =>
      rw [hgood a hva, hbad b hvb, if_pos rfl, if_neg (by simp), if_neg (fun h => by have := h.2.1; rw [hvb] at this; cases this)]
    | true =>
      have ja := (joined_facts (valid_joined hva)).1
      have jb := (joined_facts (valid_joined hvb)).1
      rw [hgood a hva, hgood b hvb, if_pos rfl, if_pos rfl, if_pos (by omega), if_pos (by omega)]
      by_cases c1 : (rd_T61 a 0).f0 = (rd_T61 b 0).f0
      · rw [if_pos c1]
        by_cases c2 : (valsOf a).length = (valsOf b).length
        · rw [if_pos (by simp only; omega), if_pos ⟨hva, hvb, c1, c2⟩]
        · rw [if_neg (by simp only; omega), if_neg (fun h => c2 h.2.2.2)]
      · rw [if_neg c1, if_neg (fun h => c1 h.2.2.1)]
theorem rsum_l0 {F : Int} {a : List SP} (ha : 0 < a.length) (hF : (rd_T61 a 0).f0 = F) {x y z : List Int} (hl : x.length = y.length) (hx : Good F x) (hy : Good F y) (hz : z = List.zipWith opSum x y) : ∀ (m k i : Nat), i + m = x.length → 30001 + m ≤ k → (∀ v ∈ z.take i, Q.Coord v) →
    formeref02_Sum.l0 k a x y (z.take i) (i : Int) = some (if coordsB z = true then (parts F z, 0) else ([], 3))
  | m, k, i, hm, hk, hpre => by
    obtain ⟨k, rfl⟩ : ∃ t, k = t + 1 := ⟨k - 1, by omega⟩
    have b1 := hx.few
    have b2 := hx.zero
    have b3 := hx.far
    have hzl : z.length = x.length := by rw [hz, List.length_zipWith]; omega
    rw [formeref02_Sum.l0]
    by_cases c : i < x.length
    · obtain ⟨m, rfl⟩ : ∃ t, m = t + 1 := ⟨m - 1, by omega⟩
      have hzi : z[i]'(by omega) = rd x (i : Int) + rd y (i : Int) := by
        subst hz
        rw [List.getElem_zipWith]
        unfold rd opSum
        simp [c, show i < y.length by omega]
      have c1 := hx.co _ (rd_mem c)
      have c2 := hy.co _ (rd_mem (show i < y.length by omega))
      unfold Q.Coord at c1 c2
      rw [if_pos (by omega), if_pos (by omega), if_pos (by omega), wrap_in (x := rd x (i : Int) + rd y (i : Int)) (by omega) (by omega), rcoord_f, ← hzi]
      simp only [Option.bind_some]
      by_cases cc : Q.Coord (z[i]'(by omega))
      · rw [decide_eq_true cc, if_pos rfl, if_pos (by rw [List.length_take]; omega), wrap_in (x := (i : Int) + 1) (by omega) (by omega), ← List.take_succ_eq_append_getElem]
        refine rsum_l0 ha hF hl hx hy hz m k (i + 1) (by omega) (by omega) fun v hv => ?_
        rw [List.take_succ_eq_append_getElem (by omega)] at hv
        rcases List.mem_append.1 hv with hv | hv
        · exact hpre v hv
        · rw [List.mem_singleton.1 hv]
          exact cc
      · rw [decide_eq_false cc, if_neg (by simp), if_neg]
        intro h
        exact cc (coordsB_iff.1 h _ (List.getElem_mem _))
    · rw [List.take_of_length_le (by omega)] at hpre ⊢
      rw [if_neg (by omega), if_pos (by omega), hF, rsplit_f (by omega) (by omega) hpre (by omega), if_pos (coordsB_iff.2 hpre)]
      rfl
theorem rmax_l0 {F : Int} {a : List SP} (ha : 0 < a.length) (hF : (rd_T61 a 0).f0 = F) {x y z : List Int} (hl : x.length = y.length) (hx : Good F x) (hg : Good F z) (hz : z = List.zipWith opMax x y) : ∀ (m k i : Nat), i + m = x.length → 30001 + m ≤ k →
    formeref02_Max.l0 k a x y (z.take i) (i : Int) = some (parts F z, 0)
  | m, k, i, hm, hk => by
    obtain ⟨k, rfl⟩ : ∃ t, k = t + 1 := ⟨k - 1, by omega⟩
    have b1 := hx.few
    have b2 := hx.zero
    have b3 := hx.far
    have hzl : z.length = x.length := by rw [hz, List.length_zipWith]; omega
    rw [formeref02_Max.l0]
    by_cases c : i < x.length
    · obtain ⟨m, rfl⟩ : ∃ t, m = t + 1 := ⟨m - 1, by omega⟩
      have hzi : z[i]'(by omega) = max (rd x (i : Int)) (rd y (i : Int)) := by
        subst hz
        rw [List.getElem_zipWith]
        unfold rd opMax
        simp [c, show i < y.length by omega]
      rw [if_pos (by omega), if_pos (by omega), if_pos (by omega), if_pos (by rw [List.length_take]; omega), mx_max, ← hzi, wrap_in (x := (i : Int) + 1) (by omega) (by omega), ← List.take_succ_eq_append_getElem]
      exact rmax_l0 ha hF hl hx hg hz m k (i + 1) (by omega) (by omega)
    · rw [List.take_of_length_le (by omega), if_neg (by omega), if_pos (by omega), hF, rsplit_f (by omega) (by omega) hg.co (by omega)]
      rfl
theorem rsum_f {k : Nat} (hk : 300000 ≤ k) {a b : List SP} (ha : a.length < 50) (hb : b.length < 50) : formeref02_Sum.f k a b = some (joinSum a b) := by
  unfold formeref02_Sum.f
  rw [rboth_f hk ha hb]
  simp only [Option.bind_some]
  by_cases h : okBoth a b
  · obtain ⟨hva, hvb, h3, h4⟩ := h
    obtain ⟨ga, ea⟩ := valid_parts hva
    obtain ⟨gb, eb⟩ := valid_parts hvb
    rw [if_pos (show okBoth a b from ⟨hva, hvb, h3, h4⟩)]
    simp only [if_true]
    rw [← h3] at gb eb
    have hs := sum_out ga gb h4
    rw [← ea, ← eb] at hs
    rw [hs]
    have := rsum_l0 (joined_facts (valid_joined hva)).1 rfl h4 ga gb rfl (valsOf a).length k 0 (by omega) (by have := ga.few; omega) (by simp)
    rw [List.take_zero] at this
    exact this
  · rw [if_neg h]
    simp only [Bool.false_eq_true, if_false]
    rw [show joinSum a b = ([], 1) from if_neg h]
theorem rmax_f {k : Nat} (hk : 300000 ≤ k) {a b : List SP} (ha : a.length < 50) (hb : b.length < 50) : formeref02_Max.f k a b = some (joinMax a b) := by
  unfold formeref02_Max.f
  rw [rboth_f hk ha hb]
  simp only [Option.bind_some]
  by_cases h : okBoth a b
  · obtain ⟨hva, hvb, h3, h4⟩ := h
    obtain ⟨ga, ea⟩ := valid_parts hva
    obtain ⟨gb, eb⟩ := valid_parts hvb
    rw [if_pos (show okBoth a b from ⟨hva, hvb, h3, h4⟩)]
    simp only [if_true]
    rw [← h3] at gb eb
    obtain ⟨hg, hs⟩ := max_out ga gb h4
    rw [← ea, ← eb] at hs
    rw [hs]
    have := rmax_l0 (joined_facts (valid_joined hva)).1 rfl h4 ga hg rfl (valsOf a).length k 0 (by omega) (by have := ga.few; omega)
    rw [List.take_zero] at this
    exact this
  · rw [if_neg h]
    simp only [Bool.false_eq_true, if_false]
    rw [show joinMax a b = ([], 1) from if_neg h]
end Go.Proofs.Ytjpghfjaloglhaa.PCurve

