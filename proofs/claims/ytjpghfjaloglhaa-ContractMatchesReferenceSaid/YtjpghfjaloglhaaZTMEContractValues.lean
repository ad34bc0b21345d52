import Derived.WalkKit
import Derived.Lib.Hide
import Derived.Test.YtjpghfjaloglhaaZTMEContractValid
/-
curve.Values returns the values of a function, or says that the parts are none: at every list of parts.
Conditions: none.
-/
namespace Go.Proofs.Ytjpghfjaloglhaa.PContract
open Go.RowKit Go.Proofs.YtjpghfjaloglhaaW.PrintWords Go.Proofs.YtjpghfjaloglhaaW.PrintLast Go.Proofs.YtjpghfjaloglhaaW.PrintMore
set_option linter.unusedVariables false
set_option linter.unusedSimpArgs false
theorem valid_joined {l : List SP} (h : validB l = true) : joinedB l = true := by
 unfold validB at h
 simp only [Bool.and_eq_true] at h
 exact h.1
def valuesOut (l : List SP) : List Int × Int := if validB l = true then (valsOf l, 0) else ([], 1)
def curve_Values.f (l0 : List SP) : Option (List Int × Int) := some (valuesOut l0)
def ValuesPost (w : World) (r1 : List Int) (r2 : Int) (e : Ending) (w' : World) : Prop :=
 ∃ v0_ : Value, e = .returned (.tuple #[v0_, .int .i64 r2]) ∧ Kd.R (Kd.int .i64) 3 w' w.heap.size (fun _ => True) v0_ r1 ∧ Below w.heap.size w w'
theorem values_no (A : Option Addr) (c : Nat) (l : List SP) (w : World) (hr : Kd.C k61 w A l.length l) (hc : l.length ≤ c) (h : curve_Valid.f l = some false) :
  Calls Try.prog 43 #[.slice A l.length c] w (ValuesPost w [] 1) := by
 go_enter Try.func43, Try.ntmps43
 go_wp2_with (go_at_call 44; (with_reducible refine (curve_Valid.calls _ _ l false _ hr hc h).mono ?_); rintro e w2 ⟨rfl, hb⟩)
 go_ret2
 exact ⟨_, rfl, Kd.R_nil _ _ _ _ _, hb⟩
theorem values_yes (A : Option Addr) (c : Nat) (l : List SP) (w : World) (hr : Kd.C k61 w A l.length l) (hc : l.length ≤ c) (h : curve_Valid.f l = some true) (hj : joinedB l = true) :
  Calls Try.prog 43 #[.slice A l.length c] w (ValuesPost w (valsOf l) 0) := by
 obtain ⟨f1, f2, f3, f4, f5, f6, f7⟩ := joined_facts hj
 clear hj
 go_enter Try.func43, Try.ntmps43
 go_wp2_with (first
  | (go_at_call 44; (with_reducible refine (curve_Valid.calls _ _ l true _ hr hc h).mono ?_); rintro e w2 ⟨rfl, hb⟩)
  | (go_at_call 85; (with_reducible refine (values_box _ _ _ _).mono ?_); rintro e w3 ⟨B, rfl, hB1, hB2, hb3⟩; have B3 : Below w.heap.size w w3 := hb.trans (hb3.mono hb.size))
  | (go_at_call 84; (with_reducible refine (collect_calls B w _ _ l f2 (by omega) _ hB1 hB2 hr B3).mono ?_); rintro e w4 ⟨v4, rfl, hR4, hb4⟩; obtain ⟨A4, c4, rfl, hc4, hC4⟩ := Kd.R_reads hR4))
 go_ret2
 exact ⟨_, rfl, Kd.R_lower hR4 B3.size, B3.trans (hb4.mono B3.size)⟩
theorem curve_Values.calls (A0 : Option Addr) (c0 : Nat) (l0 : List SP) (r1 : List Int) (r2 : Int) (w : World) (hr0 : Kd.C k61 w A0 l0.length l0) (hc0 : l0.length ≤ c0) (h : curve_Values.f l0 = some (r1, r2)) :
  Calls Try.prog 43 #[.slice A0 l0.length c0] w fun e w' => ∃ v0_ : Value, e = .returned (.tuple #[v0_, .int .i64 r2]) ∧ Kd.R (Kd.int .i64) 3 w' w.heap.size (fun _ => True) v0_ r1 ∧ Below w.heap.size w w' := by
 show Calls Try.prog 43 #[.slice A0 l0.length c0] w (ValuesPost w r1 r2)
 unfold curve_Values.f valuesOut at h
 cases hv : validB l0 with
 | false =>
  rw [hv] at h
  obtain ⟨rfl, rfl⟩ : [] = r1 ∧ 1 = r2 := by simpa using h
  exact values_no A0 c0 l0 w hr0 hc0 (by unfold curve_Valid.f; rw [hv])
 | true =>
  rw [hv] at h
  obtain ⟨rfl, rfl⟩ : valsOf l0 = r1 ∧ 0 = r2 := by simpa using h
  exact values_yes A0 c0 l0 w hr0 hc0 (by unfold curve_Valid.f; rw [hv]) (valid_joined hv)
end Go.Proofs.Ytjpghfjaloglhaa.PContract

