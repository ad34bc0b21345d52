import Derived.WalkKit
import Derived.Lib.Hide
import Derived.Test.YtjpghfjaloglhaaZTMEContractVals
import Derived.Test.YtjpghfjaloglhaaZTMEContractMake
import Derived.Test.YtjpghfjaloglhaaZTMPContractx0
import Derived.Test.YtjpghfjaloglhaaZTMPContractx6
import Derived.Test.YtjpghfjaloglhaaZTMPContractx7
import Derived.Test.YtjpghfjaloglhaaZTMPContractx3
/-
curve.Valid reports whether parts are joined and are those that Make makes of their values: at every list of parts.
Conditions: none.
-/
namespace Go.Proofs.Ytjpghfjaloglhaa.PContract
open Go.RowKit Go.Proofs.YtjpghfjaloglhaaW.PrintWords Go.Proofs.YtjpghfjaloglhaaW.PrintLast Go.Proofs.YtjpghfjaloglhaaW.PrintMore
set_option linter.unusedVariables false
set_option linter.unusedSimpArgs false
theorem qvalid_f (a b d : Int) : quot_Valid.f a b d = some (decide ((1 ≤ d ∧ d ≤ 16) ∧ Q.Coord a ∧ Q.Coord b)) := by
 unfold quot_Valid.f
 by_cases c1 : 1 ≤ d
 ·by_cases c2 : d ≤ 16
  ·by_cases c3 : Q.Coord a <;> by_cases c4 : Q.Coord b <;> simp [c1, c2, c3, c4, coord_f]
  ·simp [c1, c2]
 ·simp [c1]
theorem chain_facts : ∀ (l : List SP) (a e : Int), chain a l = some e → (∀ p ∈ l, okPart p = true) ∧ ((valsOf l).length : Int) = e - a ∧ a ≤ e ∧ (a ≤ 4001 → e ≤ 4001) ∧ (l.length : Int) ≤ e - a
 | [], a, e, h => by
  obtain rfl : a = e := by simpa [chain] using h
  simp [valsOf]
 | p :: l, a, e, h => by
  unfold chain at h
  by_cases c : okPart p = true ∧ p.f0 = a
  ·rw [if_pos c] at h
   obtain ⟨h1, h2, h3, h4, h5⟩ := chain_facts l _ e h
   have c1 := c.1
   unfold okPart at c1
   simp only [Bool.and_eq_true, decide_eq_true_eq] at c1
   have hv : valsOf (p :: l) = valsP p (cntOf p) ++ valsOf l := by
    unfold valsOf valsP cntOf
    rw [List.flatMap_cons]
   have hl : (valsP p (cntOf p)).length = cntOf p := by unfold valsP; simp
   refine ⟨?_, ?_, by omega, fun _ => h4 (by omega), by simp only [List.length_cons]; omega⟩
   ·intro q hq
    rcases List.mem_cons.1 hq with rfl | hq
    ·exact c.1
    ·exact h1 q hq
   ·rw [hv, List.length_append, hl]
    unfold cntOf
    omega
  ·rw [if_neg c] at h
   cases h
theorem rdP_drop {l : List SP} {i : Nat} (h : i < l.length) : l.drop i = rd_T61 l (i : Int) :: l.drop (i + 1) := by
 rw [List.drop_eq_getElem_cons h]
 unfold rd_T61
 simp [h]
theorem joined_l0 (l : List SP) (h0 : 0 < l.length) (hl : l.length ≤ 9223372036854775807) (F : Int) (hF : (rd_T61 l 0).f0 = F) : ∀ (m k i : Nat) (a : Int), l.length - i ≤ m → m < k → i ≤ l.length → (i = 0 ∧ a = F ∨ 0 < i ∧ 0 ≤ F ∧ F ≤ a ∧ a ≤ 4001) →
  curve_joined.l0 k l a l (l.length : Int) (i : Int) = some (match chain a (l.drop i) with | none => false | some e => decide (e - F ≤ 4000))
 | m, k, i, a, hm, hk, hi, hinv => by
  obtain ⟨k, rfl⟩ : ∃ n, k = n + 1 := ⟨k - 1, by omega⟩
  rw [curve_joined.l0]
  by_cases c : i < l.length
  ·obtain ⟨m, rfl⟩ : ∃ n, m = n + 1 := ⟨m - 1, by omega⟩
   rw [if_pos (by omega), if_pos (by omega), if_pos (by omega), rdP_drop c, chain]
   have hF0 : i = 0 → (rd_T61 l (i : Int)).f0 = F := fun e => by subst e; exact hF
   generalize rd_T61 l (i : Int) = p at *
   rw [qvalid_f]
   simp only [Option.bind_some]
   unfold okPart
   by_cases c1 : (1 ≤ p.f2.f2 ∧ p.f2.f2 ≤ 16) ∧ Q.Coord p.f2.f0 ∧ Q.Coord p.f2.f1
   ·rw [decide_eq_true c1, if_pos rfl]
    by_cases c2 : p.f0 = a
    ·rw [if_pos c2]
     by_cases c3 : p.f0 < 0
     ·rw [if_pos c3, if_neg (by simp; omega)]
     ·rw [if_neg c3]
      by_cases c4 : p.f1 ≤ p.f0
      ·rw [if_pos c4, if_neg (by simp; omega)]
      ·rw [if_neg c4]
       by_cases c5 : p.f1 > 4001
       ·rw [if_pos c5, if_neg (by simp; omega)]
       ·rw [if_neg c5, if_pos (by simp; omega), wrap_in (x := (i : Int) + 1) (by omega) (by omega)]
        exact joined_l0 l h0 hl F hF m k (i + 1) p.f1 (by omega) (by omega) (by omega) (.inr (by omega))
    ·rw [if_neg c2, if_neg (fun h => c2 h.2)]
   ·rw [decide_eq_false c1, if_neg (by simp), if_neg (by simp)]
  ·rw [if_neg (by omega), if_pos (by omega), List.drop_eq_nil_of_le (by omega), chain, hF]
   rw [wrap_in (x := a - F) (by omega) (by omega)]
theorem joined_f (l : List SP) (hl : l.length ≤ 9223372036854775807) : curve_joined.f (l.length + 1) l = some (joinedB l) := by
 unfold curve_joined.f joinedB
 match l with
 | [] => rfl
 | p :: l =>
  rw [if_neg (by simp; omega), if_pos (by simp)]
  exact joined_l0 (p :: l) (by simp) hl _ rfl (p :: l).length _ 0 _ (by simp) (by simp) (by simp) (.inl ⟨rfl, rfl⟩)
theorem joined_facts {l : List SP} (h : joinedB l = true) : 0 < l.length ∧ (∀ p ∈ l, okPart p = true) ∧ (valsOf l).length ≤ 4000 ∧ 1 ≤ (valsOf l).length ∧ 0 ≤ (rd_T61 l 0).f0 ∧ l.length ≤ (valsOf l).length ∧ (rd_T61 l 0).f0 + (valsOf l).length ≤ 4001 := by
 match l, h with
 | p :: l, h =>
  unfold joinedB at h
  simp only at h
  cases e : chain p.f0 (p :: l) with
  | none => rw [e] at h; cases h
  | some x =>
   rw [e] at h
   simp only [decide_eq_true_eq] at h
   obtain ⟨h1, h2, h3, h4, h5⟩ := chain_facts _ _ _ e
   have hp := h1 p (by simp)
   unfold okPart at hp
   simp only [Bool.and_eq_true, decide_eq_true_eq] at hp
   have hr : (rd_T61 (p :: l) 0) = p := rfl
   rw [hr]
   simp only [List.length_cons] at h5 ⊢
   exact ⟨by omega, h1, by omega, by omega, by omega, by omega, by omega⟩
theorem equal_l0 (l m : List SP) (he : l.length = m.length) (hl : l.length ≤ 9223372036854775807) : ∀ (f k i : Nat), l.length - i ≤ f → f < k → i ≤ l.length →
  api_Part.l0 k l m (l.length : Int) (i : Int) = some (decide (l.drop i = m.drop i))
 | f, k, i, hf, hk, hi => by
  obtain ⟨k, rfl⟩ : ∃ n, k = n + 1 := ⟨k - 1, by omega⟩
  rw [api_Part.l0]
  by_cases c : i < l.length
  ·obtain ⟨f, rfl⟩ : ∃ n, f = n + 1 := ⟨f - 1, by omega⟩
   rw [if_pos (by omega), if_pos (by omega), if_pos (by omega), if_pos (by omega), rdP_drop c, rdP_drop (show i < m.length by omega)]
   rw [wrap_in (x := (i : Int) + 1) (by omega) (by omega)]
   have ih := equal_l0 l m he hl f k (i + 1) (by omega) (by omega) (by omega)
   rw [show ((i : Int) + 1) = ((i + 1 : Nat) : Int) by omega, ih]
   generalize rd_T61 l (i : Int) = p
   generalize rd_T61 m (i : Int) = q
   obtain ⟨p0, p1, ⟨a0, a1, a2⟩⟩ := p
   obtain ⟨q0, q1, ⟨b0, b1, b2⟩⟩ := q
   by_cases e : (⟨p0, p1, ⟨a0, a1, a2⟩⟩ : SP) = ⟨q0, q1, ⟨b0, b1, b2⟩⟩
   ·injection e with e1 e2 e3
    injection e3 with e3 e4 e5
    subst e1 e2 e3 e4 e5
    simp
   ·have e' : ¬ (p0 = q0 ∧ p1 = q1 ∧ a0 = b0 ∧ a1 = b1 ∧ a2 = b2) := by
     rintro ⟨rfl, rfl, rfl, rfl, rfl⟩
     exact e rfl
    rw [if_pos]
    ·rw [decide_eq_false]
     intro h
     injection h with h _
     exact e h
    ·simp only [Bool.or_eq_true, Bool.not_eq_true', beq_eq_false_iff_ne, ne_eq]
     omega
  ·rw [if_neg (by omega), List.drop_eq_nil_of_le (by omega), List.drop_eq_nil_of_le (by omega)]
   rfl
theorem equal_f (l m : List SP) (hl : l.length ≤ 9223372036854775807) : api_Part.f (l.length + 1) l m = some (decide (l = m)) := by
 unfold api_Part.f
 by_cases c : l.length = m.length
 ·rw [if_pos (by omega)]
  have := equal_l0 l m c hl l.length (l.length + 1) 0 (by omega) (by omega) (by omega)
  simpa using this
 ·rw [if_neg (by omega), decide_eq_false (fun e => c (by rw [e]))]
theorem values_box (A : Option Addr) (len c : Nat) (w : World) :
  Calls Try.prog 85 #[.slice A len c] w fun e w' => ∃ B, e = .returned (.func (.func 122) #[] #[.pointer (some ⟨B, 0, none⟩)]) ∧ B < w'.heap.size ∧ w'.cell? ⟨B, 0, none⟩ = some (.slice A len c) ∧ Below w.heap.size w w' :=
 (values_calls A len c w).mono fun e w' ⟨h1, h2⟩ => ⟨_, h1, by rw [h2]; simp, by rw [h2]; exact (blk_cell (blk_new w _) 0).trans rfl, by rw [h2]; exact (Below.refl _ _).alloc (Nat.le_refl _) _⟩
def curve_Valid.f (l0 : List SP) : Option Bool := some (validB l0)
theorem valid_no (A : Option Addr) (c : Nat) (l : List SP) (w : World) (hr : Kd.C k61 w A l.length l) (hc : l.length ≤ c) (h : joinedB l = false) :
  Calls Try.prog 44 #[.slice A l.length c] w fun e w' => e = .returned (.bool false) ∧ Below w.heap.size w w' := by
 have hj := joined_f l hr.2.1
 rw [h] at hj
 clear h
 go_enter Try.func44, Try.ntmps44
 go_wp2_with (go_at_call 86; (with_reducible refine (curve_joined.calls _ _ _ l false _ hr hc hj).mono ?_); rintro e w2 ⟨rfl, hb⟩)
 go_ret
 exact ⟨rfl, hb⟩
set_option maxHeartbeats 1000000 in
theorem valid_go (A : Option Addr) (c : Nat) (l : List SP) (w : World) (hr : Kd.C k61 w A l.length l) (hc : l.length ≤ c) (h : joinedB l = true) (m : List SP) (er : Int) (hm : makeOut (rd_T61 l 0).f0 (valsOf l) = (m, er)) (her : er = 0) :
  Calls Try.prog 44 #[.slice A l.length c] w fun e w' => e = .returned (.bool (decide (l = m))) ∧ Below w.heap.size w w' := by
 have hj := joined_f l hr.2.1
 obtain ⟨f1, f2, f3, f4, f5, f6, f7⟩ := joined_facts h
 rw [h] at hj
 clear h
 have hm2 : curve_Make.f (rd_T61 l 0).f0 (valsOf l) = some (m, er) := by unfold curve_Make.f; rw [hm]
 clear hm
 have HM := Aside0.mk hm2
 have HJ := Aside0.mk hj
 clear hm2 hj
 subst her
 obtain ⟨ad, rfl, x0, -⟩ := at_T61 hr 0 (by omega) (by omega)
 rw [show ((0 : Int).toNat * 5) = 0 from rfl, Addr.add_zero'] at x0
 generalize hF : (rd_T61 l 0).f0 = F at *
 have HF := Aside0.mk hF
 clear hF
 go_enter Try.func44, Try.ntmps44
 go_wp2_with (go_at_call 86; (with_reducible refine (curve_joined.calls _ _ _ l true _ hr hc HJ.out).mono ?_); rintro e w2 ⟨rfl, hb⟩)
 have x2 := pw_cell_below hb x0
 clear x0
 go_region_held3 (fun w' => w'.cell? ad = some (.int .i64 F)) (first | assumption) (first
  | (go_at_call 85; (with_reducible refine (values_box _ _ _ _).mono ?_); rintro e w3 ⟨B, rfl, hB1, hB2, hb3⟩; have x3 := pw_cell_below hb3 x2; have B3 : Below w.heap.size w w3 := hb.drew.trans (hb3.mono hb.drew.size))
  | (go_at_call 84; (with_reducible refine (collect_calls B w _ _ l f2 (by omega) _ hB1 hB2 hr B3).mono ?_); rintro e w4 ⟨v4, rfl, hR4, hb4⟩; have x4 := pw_cell_below hb4 x3; obtain ⟨A4, c4, rfl, hc4, hC4⟩ := Kd.R_reads hR4)
  | (go_at_call 42; (with_reducible refine (curve_Make.calls _ _ _ (valsOf l) _ _ _ hC4 hc4 HM.out).mono ?_); rintro e w5 ⟨v5, rfl, hR5, hb5⟩; have x5 := pw_cell_below hb5 x4; obtain ⟨A5, c5, rfl, hc5, hC5⟩ := Kd.R_reads hR5))
 have B4 := B3.trans (hb4.mono B3.size)
 have B5 := B4.trans (hb5.mono B4.size)
 have hr5 := Kd.C_below hr B5
 have he := equal_f l m (by omega)
 have HE := Aside0.mk he
 clear he
 go_wp2_with (go_at_call 87; (with_reducible refine (api_Part.calls _ _ _ l _ _ m _ _ hr5 hc hC5 hc5 HE.out).mono ?_); rintro e w6 ⟨rfl, ⟨nd, rfl⟩⟩)
 go_ret
 exact ⟨rfl, pw_below_drewN B5 nd⟩
set_option maxHeartbeats 1000000 in
theorem valid_err (A : Option Addr) (c : Nat) (l : List SP) (w : World) (hr : Kd.C k61 w A l.length l) (hc : l.length ≤ c) (h : joinedB l = true) (m : List SP) (er : Int) (hm : makeOut (rd_T61 l 0).f0 (valsOf l) = (m, er)) (her : er ≠ 0) :
  Calls Try.prog 44 #[.slice A l.length c] w fun e w' => e = .returned (.bool false) ∧ Below w.heap.size w w' := by
 have hj := joined_f l hr.2.1
 obtain ⟨f1, f2, f3, f4, f5, f6, f7⟩ := joined_facts h
 rw [h] at hj
 clear h
 have hm2 : curve_Make.f (rd_T61 l 0).f0 (valsOf l) = some (m, er) := by unfold curve_Make.f; rw [hm]
 clear hm
 have HM := Aside0.mk hm2
 have HJ := Aside0.mk hj
 clear hm2 hj
 have her2 : (er == 0) = false := beq_eq_false_iff_ne.2 her
 clear her
 obtain ⟨ad, rfl, x0, -⟩ := at_T61 hr 0 (by omega) (by omega)
 rw [show ((0 : Int).toNat * 5) = 0 from rfl, Addr.add_zero'] at x0
 generalize hF : (rd_T61 l 0).f0 = F at *
 have HF := Aside0.mk hF
 clear hF
 have hund : undef = Value.tuple #[] := rfl
 go_enter Try.func44, Try.ntmps44
 go_wp2_with (go_at_call 86; (with_reducible refine (curve_joined.calls _ _ _ l true _ hr hc HJ.out).mono ?_); rintro e w2 ⟨rfl, hb⟩)
 have x2 := pw_cell_below hb x0
 clear x0
 go_region_held3 (fun w' => w'.cell? ad = some (.int .i64 F)) (first | assumption) (first
  | (go_at_call 85; (with_reducible refine (values_box _ _ _ _).mono ?_); rintro e w3 ⟨B, rfl, hB1, hB2, hb3⟩; have x3 := pw_cell_below hb3 x2; have B3 : Below w.heap.size w w3 := hb.drew.trans (hb3.mono hb.drew.size))
  | (go_at_call 84; (with_reducible refine (collect_calls B w _ _ l f2 (by omega) _ hB1 hB2 hr B3).mono ?_); rintro e w4 ⟨v4, rfl, hR4, hb4⟩; have x4 := pw_cell_below hb4 x3; obtain ⟨A4, c4, rfl, hc4, hC4⟩ := Kd.R_reads hR4)
  | (go_at_call 42; (with_reducible refine (curve_Make.calls _ _ _ (valsOf l) _ _ _ hC4 hc4 HM.out).mono ?_); rintro e w5 ⟨v5, rfl, hR5, hb5⟩; have x5 := pw_cell_below hb5 x4; obtain ⟨A5, c5, rfl, hc5, hC5⟩ := Kd.R_reads hR5))
 have B4 := B3.trans (hb4.mono B3.size)
 have B5 := B4.trans (hb5.mono B4.size)
 go_wp2
 go_ret
 exact ⟨rfl, B5⟩
theorem curve_Valid.calls (A0 : Option Addr) (c0 : Nat) (l0 : List SP) (r : Bool) (w : World) (hr0 : Kd.C k61 w A0 l0.length l0) (hc0 : l0.length ≤ c0) (h : curve_Valid.f l0 = some r) :
  Calls Try.prog 44 #[.slice A0 l0.length c0] w fun e w' => e = .returned (.bool r) ∧ Below w.heap.size w w' := by
 unfold curve_Valid.f validB at h
 cases hj : joinedB l0 with
 | false =>
  rw [hj] at h
  obtain rfl : false = r := by simpa using h
  exact valid_no A0 c0 l0 w hr0 hc0 hj
 | true =>
  rw [hj] at h
  have hrd : l0.getD 0 z61 = rd_T61 l0 0 := rfl
  rw [hrd] at h
  obtain ⟨m, er, hm⟩ : ∃ m er, makeOut (rd_T61 l0 0).f0 (valsOf l0) = (m, er) := ⟨_, _, rfl⟩
  rw [hm] at h
  by_cases he : er = 0
  ·have hd : decide (l0 = m) = r := by
    by_cases hl : l0 = m
    ·subst hl he
     simpa using h
    ·have : ¬ ((m, er) = (l0, (0 : Int))) := fun e => hl (by injection e with e1 e2; exact e1.symm)
     rw [decide_eq_false this] at h
     rw [decide_eq_false hl]
     simpa using h
   rw [← hd]
   exact valid_go A0 c0 l0 w hr0 hc0 hj m er hm he
  ·have : ¬ ((m, er) = (l0, (0 : Int))) := fun e => he (by injection e with e1 e2)
   rw [decide_eq_false this] at h
   obtain rfl : false = r := by simpa using h
   exact valid_err A0 c0 l0 w hr0 hc0 hj m er hm he
end Go.Proofs.Ytjpghfjaloglhaa.PContract

