import Derived.WalkKit
import Derived.Lib.Hide
import Derived.IntWalk
import Derived.Test.YtjpghfjaloglhaaZTMEContractValues
import Derived.Test.YtjpghfjaloglhaaZTMPContractx0
import Derived.Test.YtjpghfjaloglhaaZTMPContractx7
/-
contract.Valid reports whether a contract is well-formed: at every contract.
Conditions: none.
-/
namespace Go.Proofs.Ytjpghfjaloglhaa.PContract
open Go.RowKit Go.Proofs.YtjpghfjaloglhaaW.PrintWords Go.Proofs.YtjpghfjaloglhaaW.PrintLast Go.Proofs.YtjpghfjaloglhaaW.PrintMore
set_option linter.unusedVariables false
set_option linter.unusedSimpArgs false
def HOk (h : Int) : Prop := 0 ≤ h ∧ h ≤ 1000000
instance (h : Int) : Decidable (HOk h) := by unfold HOk; infer_instance
def hgtsB (l : List Int) : Bool := l.all fun h => decide (HOk h)
theorem within_f (n a b : Int) : contract_within.f n a b = some (decide (a ≤ n ∧ n ≤ b)) := by
 unfold contract_within.f
 by_cases c : a ≤ n <;> simp [c]
theorem isHeight_f (a : Int) : contract_isHeight.f a = some (decide (HOk a)) := by
 unfold contract_isHeight.f HOk
 rw [within_f]
 rfl
theorem isNode_f (a : Int) : contract_isNode.f a = some (decide (1 ≤ a ∧ a ≤ 1000000)) := by
 unfold contract_isNode.f
 rw [within_f]
 rfl
theorem cvalid1_f (a : Int) : contract_Valid_1.f a = some (!decide (HOk a)) := by
 unfold contract_Valid_1.f
 rw [isHeight_f]
 rfl
set_option maxHeartbeats 400000 in
theorem idxVal_none (A : Option Addr) (c : Nat) (l : List Int) (w : World) (hr : Kd.C (Kd.int .i64) w A l.length l) (hl : l.length ≤ 9223372036854775807) (hall : ∀ i : Nat, i < l.length → HOk (rd l i)) :
  Calls Try.prog 119 #[.slice A l.length c, .func (.func 102) #[] #[]] w fun e w' => e = .returned (.int .i64 (-1)) ∧ Drawn0 w w' := by
 have Hall := Lib.hid hall
 clear hall
 go_enter Try.func119, Try.ntmps119
 go_wp2
 go_loopw [8] (fun i wr => ∃ k : Nat, k ≤ l.length ∧ i = .int .i64 k ∧ Drawn0 w wr) (fun i _ => l.length - (intOf i).toNat)
 case atStart => exact ⟨0, Nat.zero_le _, rfl, Drawn0.refl _⟩
 case round =>
  obtain ⟨k, hk, rfl, hd⟩ := hrel
  obtain ⟨nd0, rfl⟩ := hd.out
  by_cases hkm : k < l.length
  ·obtain ⟨ad, rfl, hc⟩ := row_cell hr hkm
   have hc1 : (w.drewN nd0).cell? (ad.add k) = some (.int .i64 (rd l (k : Int))) := hc
   have hf := cvalid1_f (rd l (k : Int))
   rw [decide_eq_true (Hall.out k hkm)] at hf
   clear hd
   go_wp2_with (go_at_call 102; (with_reducible refine (contract_Valid_1.calls _ false _ hf).mono ?_); rintro e w2 ⟨rfl, ⟨nd, rfl⟩⟩)
   go_roundw
   case rel => exact ⟨k + 1, by omega, by go_num, by repeat (first | exact Drawn0.refl _ | apply Drawn0.step)⟩
   case measure => simp [intOf]; omega
  ·obtain rfl : k = l.length := by omega
   go_wp2
   go_ret
   exact ⟨rfl, hd⟩
set_option maxHeartbeats 400000 in
theorem idxVal_some (A : Option Addr) (c : Nat) (l : List Int) (w : World) (hr : Kd.C (Kd.int .i64) w A l.length l) (hl : l.length ≤ 9223372036854775807) (m : Nat) (hm : m < l.length) (hbad : ¬ HOk (rd l m)) (hall : ∀ i : Nat, i < m → HOk (rd l i)) :
  Calls Try.prog 119 #[.slice A l.length c, .func (.func 102) #[] #[]] w fun e w' => e = .returned (.int .i64 m) ∧ Drawn0 w w' := by
 have Hall := Lib.hid hall
 clear hall
 go_enter Try.func119, Try.ntmps119
 go_wp2
 go_loopw [8] (fun i wr => ∃ k : Nat, k ≤ m ∧ i = .int .i64 k ∧ Drawn0 w wr) (fun i _ => m - (intOf i).toNat)
 case atStart => exact ⟨0, Nat.zero_le _, rfl, Drawn0.refl _⟩
 case round =>
  obtain ⟨k, hk, rfl, hd⟩ := hrel
  obtain ⟨nd0, rfl⟩ := hd.out
  have hkl : k < l.length := by omega
  obtain ⟨ad, rfl, hc⟩ := row_cell hr hkl
  have hc1 : (w.drewN nd0).cell? (ad.add k) = some (.int .i64 (rd l (k : Int))) := hc
  have hf := cvalid1_f (rd l (k : Int))
  by_cases hkm : k < m
  ·rw [decide_eq_true (Hall.out k hkm)] at hf
   clear hd
   go_wp2_with (go_at_call 102; (with_reducible refine (contract_Valid_1.calls _ false _ hf).mono ?_); rintro e w2 ⟨rfl, ⟨nd, rfl⟩⟩)
   go_roundw
   case rel => exact ⟨k + 1, by omega, by go_num, by repeat (first | exact Drawn0.refl _ | apply Drawn0.step)⟩
   case measure => simp [intOf]; omega
  ·obtain rfl : k = m := by omega
   rw [decide_eq_false hbad] at hf
   clear hd
   go_wp2_with (go_at_call 102; (with_reducible refine (contract_Valid_1.calls _ true _ hf).mono ?_); rintro e w2 ⟨rfl, ⟨nd, rfl⟩⟩)
   go_ret
   exact ⟨rfl, by repeat (first | exact Drawn0.refl _ | apply Drawn0.step)⟩
theorem hgtsB_iff {l : List Int} : hgtsB l = true ↔ ∀ x ∈ l, HOk x := by
 unfold hgtsB
 simp
theorem hasVal (A : Option Addr) (c : Nat) (l : List Int) (w : World) (hr : Kd.C (Kd.int .i64) w A l.length l) (r : Bool) (h : r = !hgtsB l) :
  Calls Try.prog 82 #[.slice A l.length c, .func (.func 102) #[] #[]] w fun e w' => e = .returned (.bool r) ∧ Drawn0 w w' := by
 have hl := hr.2.1
 by_cases hall : ∀ i : Nat, i < l.length → HOk (rd l i)
 ·obtain rfl : r = false := by
   have : hgtsB l = true := hgtsB_iff.2 fun x hx => by
    obtain ⟨i, hi, rfl⟩ := List.getElem_of_mem hx
    have := hall i hi
    unfold rd at this
    simpa [List.getD_eq_getElem?_getD, hi] using this
   rw [h, this]
   rfl
  clear h
  go_enter Try.func82, Try.ntmps82
  go_wp2_with (go_at_call 119; (with_reducible refine (idxVal_none _ _ l _ hr hl hall).mono ?_); rintro e w2 ⟨rfl, ⟨nd, rfl⟩⟩)
  go_ret
  exact ⟨rfl, by repeat (first | exact Drawn0.refl _ | apply Drawn0.step)⟩
 ·have hex : ∃ m, m < l.length ∧ ¬ HOk (rd l (m : Nat)) := by
   false_or_by_contra
   rename_i hno
   exact hall fun i hi => by
    false_or_by_contra
    rename_i hc
    exact hno ⟨i, hi, hc⟩
  obtain ⟨m, ⟨hm1, hm2⟩, hmin⟩ := exists_least hex
  obtain rfl : r = true := by
   have : ¬ hgtsB l = true := fun hc => hm2 (hgtsB_iff.1 hc _ (rd_mem hm1))
   rw [h]
   simpa using this
  have hbef : ∀ i : Nat, i < m → HOk (rd l i) := fun i hi => by
   by_cases hc : HOk (rd l (i : Nat))
   ·exact hc
   ·have := hmin i ⟨by omega, hc⟩
    omega
  clear hall hex hmin h
  go_enter Try.func82, Try.ntmps82
  go_wp2_with (go_at_call 119; (with_reducible refine (idxVal_some _ _ l _ hr hl m hm1 hm2 hbef).mono ?_); rintro e w2 ⟨rfl, ⟨nd, rfl⟩⟩)
  go_ret
  exact ⟨rfl, by repeat (first | exact Drawn0.refl _ | apply Drawn0.step)⟩
def cvalidB (n m : Int) (l : List SP) : Bool := validB l && decide (1 ≤ n ∧ n ≤ 1000000) && decide (0 ≤ m ∧ m ≤ 100) && hgtsB (valsOf l)
def contract_Valid.f (n m : Int) (l : List SP) : Option Bool := some (cvalidB n m l)
def CVPost (w : World) (r : Bool) (e : Ending) (w' : World) : Prop := e = .returned (.bool r) ∧ Below w.heap.size w w'
set_option maxHeartbeats 1000000 in
theorem cvalid_err (n m : Int) (A : Option Addr) (c : Nat) (l : List SP) (w : World) (hr : Kd.C k61 w A l.length l) (hc : l.length ≤ c) (h : curve_Values.f l = some ([], 1)) :
  Calls Try.prog 61 #[.agg #[.int .i64 n, .int .i64 m, .slice A l.length c]] w (CVPost w false) := by
 have hund : undef = Value.tuple #[] := rfl
 have hu69 := Try.underlying69
 have B1 := (Below.refl w.heap.size w).alloc (Nat.le_refl _) (.cells #[.int .i64 n, .int .i64 m, .slice A l.length c] 69)
 have hr1 := Kd.C_below hr B1
 go_enter Try.func61, Try.ntmps61
 go_wp2_with (go_at_call 43; (with_reducible refine (curve_Values.calls _ _ l _ _ _ hr1 hc h).mono ?_); rintro e w2 ⟨v2, rfl, hR2, hb2⟩)
 go_ret
 exact ⟨rfl, B1.trans (hb2.mono B1.size)⟩
set_option maxHeartbeats 1000000 in
theorem cvalid_node (n m : Int) (A : Option Addr) (c : Nat) (l : List SP) (v : List Int) (w : World) (hr : Kd.C k61 w A l.length l) (hc : l.length ≤ c) (h : curve_Values.f l = some (v, 0)) (hn : contract_isNode.f n = some false) :
  Calls Try.prog 61 #[.agg #[.int .i64 n, .int .i64 m, .slice A l.length c]] w (CVPost w false) := by
 have hund : undef = Value.tuple #[] := rfl
 have hu69 := Try.underlying69
 have B1 := (Below.refl w.heap.size w).alloc (Nat.le_refl _) (.cells #[.int .i64 n, .int .i64 m, .slice A l.length c] 69)
 have hr1 := Kd.C_below hr B1
 have hk := blk_new w (.cells #[.int .i64 n, .int .i64 m, .slice A l.length c] 69)
 have x0 := (blk_cell hk 0).trans rfl
 go_enter Try.func61, Try.ntmps61
 go_wp2_with (first
  | (go_at_call 43; (with_reducible refine (curve_Values.calls _ _ l _ _ _ hr1 hc h).mono ?_); rintro e w2 ⟨v2, rfl, hR2, hb2⟩; have y0 := pw_cell_below hb2 x0)
  | (go_at_call 103; (with_reducible refine (contract_isNode.calls _ _ _ hn).mono ?_); rintro e w3 ⟨rfl, ⟨nd3, rfl⟩⟩))
 go_ret
 exact ⟨rfl, by repeat (first | apply pw_below_drewN | apply below_drew1 | exact B1.trans (hb2.mono B1.size))⟩
set_option maxHeartbeats 1000000 in
theorem cvalid_most (n m : Int) (A : Option Addr) (c : Nat) (l : List SP) (v : List Int) (w : World) (hr : Kd.C k61 w A l.length l) (hc : l.length ≤ c) (h : curve_Values.f l = some (v, 0)) (hn : contract_isNode.f n = some true) (hm : contract_within.f m 0 100 = some false) :
  Calls Try.prog 61 #[.agg #[.int .i64 n, .int .i64 m, .slice A l.length c]] w (CVPost w false) := by
 have hund : undef = Value.tuple #[] := rfl
 have hu69 := Try.underlying69
 have B1 := (Below.refl w.heap.size w).alloc (Nat.le_refl _) (.cells #[.int .i64 n, .int .i64 m, .slice A l.length c] 69)
 have hr1 := Kd.C_below hr B1
 have hk := blk_new w (.cells #[.int .i64 n, .int .i64 m, .slice A l.length c] 69)
 have x0 := (blk_cell hk 0).trans rfl
 have x1 := (blk_cell hk 1).trans rfl
 go_enter Try.func61, Try.ntmps61
 go_wp2_with (first
  | (go_at_call 43; (with_reducible refine (curve_Values.calls _ _ l _ _ _ hr1 hc h).mono ?_); rintro e w2 ⟨v2, rfl, hR2, hb2⟩; have y0 := pw_cell_below hb2 x0; have y1 := pw_cell_below hb2 x1; obtain ⟨A2, c2, rfl, hc2, hC2⟩ := Kd.R_reads hR2)
  | (go_at_call 103; (with_reducible refine (contract_isNode.calls _ _ _ hn).mono ?_); rintro e w3 ⟨rfl, ⟨nd3, rfl⟩⟩)
  | (go_at_call 104; (with_reducible refine (contract_within.calls _ _ _ _ _ hm).mono ?_); rintro e w4 ⟨rfl, ⟨nd4, rfl⟩⟩))
 go_ret
 exact ⟨rfl, by repeat (first | apply pw_below_drewN | apply below_drew1 | exact B1.trans (hb2.mono B1.size))⟩
set_option maxHeartbeats 1000000 in
theorem cvalid_go (n m : Int) (A : Option Addr) (c : Nat) (l : List SP) (v : List Int) (w : World) (hr : Kd.C k61 w A l.length l) (hc : l.length ≤ c) (h : curve_Values.f l = some (v, 0)) (hn : contract_isNode.f n = some true) (hm : contract_within.f m 0 100 = some true) :
  Calls Try.prog 61 #[.agg #[.int .i64 n, .int .i64 m, .slice A l.length c]] w (CVPost w (hgtsB v)) := by
 have hund : undef = Value.tuple #[] := rfl
 have hu69 := Try.underlying69
 have B1 := (Below.refl w.heap.size w).alloc (Nat.le_refl _) (.cells #[.int .i64 n, .int .i64 m, .slice A l.length c] 69)
 have hr1 := Kd.C_below hr B1
 have hk := blk_new w (.cells #[.int .i64 n, .int .i64 m, .slice A l.length c] 69)
 have x0 := (blk_cell hk 0).trans rfl
 have x1 := (blk_cell hk 1).trans rfl
 go_enter Try.func61, Try.ntmps61
 go_wp2_with (first
  | (go_at_call 43; (with_reducible refine (curve_Values.calls _ _ l _ _ _ hr1 hc h).mono ?_); rintro e w2 ⟨v2, rfl, hR2, hb2⟩; have y0 := pw_cell_below hb2 x0; have y1 := pw_cell_below hb2 x1; obtain ⟨A2, c2, rfl, hc2, hC2⟩ := Kd.R_reads hR2)
  | (go_at_call 103; (with_reducible refine (contract_isNode.calls _ _ _ hn).mono ?_); rintro e w3 ⟨rfl, ⟨nd3, rfl⟩⟩)
  | (go_at_call 104; (with_reducible refine (contract_within.calls _ _ _ _ _ hm).mono ?_); rintro e w4 ⟨rfl, ⟨nd4, rfl⟩⟩)
  | (go_at_call 82; (with_reducible refine (hasVal _ _ v _ (by repeat (first | exact hC2 | apply Kd.C_drewN | apply Kd.C_drew)) _ rfl).mono ?_); rintro e w5 ⟨rfl, ⟨nd5, rfl⟩⟩))
 go_ret
 exact ⟨rfl, by repeat (first | apply pw_below_drewN | apply below_drew1 | exact B1.trans (hb2.mono B1.size))⟩
theorem contract_Valid.calls (a0_0 a0_1 : Int) (A0_2 : Option Addr) (c0_2 : Nat) (l0_2 : List SP) (r : Bool) (w : World) (hr0_2 : Kd.C k61 w A0_2 l0_2.length l0_2) (hc0_2 : l0_2.length ≤ c0_2) (h : contract_Valid.f a0_0 a0_1 l0_2 = some r) :
  Calls Try.prog 61 #[.agg #[.int .i64 a0_0, .int .i64 a0_1, .slice A0_2 l0_2.length c0_2]] w fun e w' => e = .returned (.bool r) ∧ Below w.heap.size w w' := by
 show Calls Try.prog 61 _ w (CVPost w r)
 unfold contract_Valid.f cvalidB at h
 have e : curve_Values.f l0_2 = some (valuesOut l0_2) := rfl
 unfold valuesOut at e
 cases hv : validB l0_2 with
 | false =>
  rw [hv] at h e
  obtain rfl : false = r := by simpa using h
  exact cvalid_err _ _ _ _ _ w hr0_2 hc0_2 e
 | true =>
  rw [hv, if_pos rfl] at e
  rw [hv] at h
  by_cases c1 : 1 ≤ a0_0 ∧ a0_0 ≤ 1000000
  ·have hn := isNode_f a0_0
   rw [decide_eq_true c1] at h hn
   by_cases c2 : 0 ≤ a0_1 ∧ a0_1 ≤ 100
   ·have hm := within_f a0_1 0 100
    rw [decide_eq_true c2] at h hm
    obtain rfl : hgtsB (valsOf l0_2) = r := by simpa using h
    exact cvalid_go _ _ _ _ _ _ w hr0_2 hc0_2 e hn hm
   ·have hm := within_f a0_1 0 100
    rw [decide_eq_false c2] at h hm
    obtain rfl : false = r := by simpa using h
    exact cvalid_most _ _ _ _ _ _ w hr0_2 hc0_2 e hn hm
  ·have hn := isNode_f a0_0
   rw [decide_eq_false c1] at h hn
   obtain rfl : false = r := by simpa using h
   exact cvalid_node _ _ _ _ _ _ w hr0_2 hc0_2 e hn
end Go.Proofs.Ytjpghfjaloglhaa.PContract

