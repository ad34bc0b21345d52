import Derived.WalkKit
import Derived.Lib.Hide
import Derived.IntWalk
import Derived.Laws.EntriesVeiled
import Derived.Deep.RegionWith
import Derived.Deep.RegionHeld3
import Derived.Test.YtjpghfjaloglhaaZMRECurveValues
import Derived.Test.YtjpghfjaloglhaaZMRECurveMake
/-
curve.Sum joins two functions value by value, or says why not: at every pair of lists of parts.
Conditions: none.
-/
namespace Go.Proofs.Ytjpghfjaloglhaa.PCurve
open Go.RowKit Go.Proofs.YtjpghfjaloglhaaW.PrintWords Go.Proofs.YtjpghfjaloglhaaW.PrintLast Go.Proofs.YtjpghfjaloglhaaW.PrintMore
set_option linter.unusedVariables false
set_option linter.unusedSimpArgs false
theorem qval_le {p : SP} (h : okPart p = true) {n : Int} (h0 : 0 ≤ n) (h1 : n ≤ 4001) : -5000000000000 ≤ qval p.f2 n ∧ qval p.f2 n ≤ 5000000000000 := by
  unfold okPart at h
  simp only [Bool.and_eq_true, decide_eq_true_eq] at h
  obtain ⟨⟨⟨d1, d2⟩, ⟨a1, a2⟩, b1, b2⟩, -⟩ := h
  unfold qval
  have h3 : p.f2.f0 * n ≤ 4001000000000 := by
    have : p.f2.f0 * n ≤ 1000000000 * n := Int.mul_le_mul_of_nonneg_right (by omega) h0
    omega
  have h4 : -4001000000000 ≤ p.f2.f0 * n := by
    have : -1000000000 * n ≤ p.f2.f0 * n := Int.mul_le_mul_of_nonneg_right (by omega) h0
    omega
  constructor
  · rw [Int.le_ediv_iff_mul_le (by omega)]
    omega
  · have : (p.f2.f0 * n + p.f2.f1) / p.f2.f2 < 5000000000001 := by
      rw [Int.ediv_lt_iff_lt_mul (by omega)]
      omega
    omega
theorem vals_le {l : List SP} (h : ∀ p ∈ l, okPart p = true) : ∀ x ∈ valsOf l, -5000000000000 ≤ x ∧ x ≤ 5000000000000 := by
  intro x hx
  unfold valsOf at hx
  obtain ⟨p, hp, hx⟩ := List.mem_flatMap.1 hx
  obtain ⟨i, hi, rfl⟩ := List.mem_map.1 hx
  have hok := h p hp
  have hi2 := List.mem_range.1 hi
  refine qval_le hok (by omega) ?_
  unfold okPart at hok
  simp only [Bool.and_eq_true, decide_eq_true_eq] at hok
  omega
def opSum (x y : Int) : Int := x + y
theorem sum1_calls (x y : Int) (w : World) (hx : -5000000000000 ≤ x ∧ x ≤ 5000000000000) (hy : -5000000000000 ≤ y ∧ y ≤ 5000000000000) :
    Calls Try.prog 93 #[.int .i64 x, .int .i64 y] w fun e w' => e = .returned (.int .i64 (opSum x y)) ∧ w = w' := by
  obtain ⟨h1, h2⟩ := hx
  obtain ⟨h3, h4⟩ := hy
  unfold opSum
  go_enter Try.func93, Try.ntmps93
  go_wp2
  all_goals (go_ret; exact ⟨by first | rfl | (show Ending.returned (Value.int .i64 _) = Ending.returned (Value.int .i64 (max x y)); congr 2; omega), rfl⟩)
def mixSum : List Int → List Int → Nat → List Int
  | x :: xs, y :: ys, k + 1 => opSum x y :: mixSum xs ys k
  | xs, _, _ => xs
theorem mixSum_zero (xs ys : List Int) : mixSum xs ys 0 = xs := by cases xs <;> cases ys <;> rfl
theorem mixSum_get : ∀ (xs ys : List Int) (k : Nat), k < xs.length → k < ys.length → (mixSum xs ys k).getD k 0 = xs.getD k 0
  | x :: xs, y :: ys, 0, _, _ => rfl
  | x :: xs, y :: ys, k + 1, h1, h2 => by
    have := mixSum_get xs ys k (by simpa using h1) (by simpa using h2)
    simpa [mixSum] using this
theorem mixSum_set : ∀ (xs ys : List Int) (k : Nat), k < xs.length → k < ys.length → (mixSum xs ys k).set k (opSum (xs.getD k 0) (ys.getD k 0)) = mixSum xs ys (k + 1)
  | x :: xs, y :: ys, 0, _, _ => by simp [mixSum, mixSum_zero]
  | x :: xs, y :: ys, k + 1, h1, h2 => by
    have := mixSum_set xs ys k (by simpa using h1) (by simpa using h2)
    simpa [mixSum] using this
theorem mixSum_all : ∀ (xs ys : List Int), xs.length = ys.length → mixSum xs ys xs.length = List.zipWith opSum xs ys
  | [], ys, h => by
    obtain rfl : ys = [] := List.eq_nil_of_length_eq_zero (by simpa using h.symm)
    rfl
  | x :: xs, y :: ys, h => by
    have := mixSum_all xs ys (by simpa using h)
    simp [mixSum, this]
def joinSum (a b : List SP) : List SP × Int :=
  if validB a = true ∧ validB b = true ∧ (rd_T61 a 0).f0 = (rd_T61 b 0).f0 ∧ (valsOf a).length = (valsOf b).length then
    if (makeOut (rd_T61 a 0).f0 (List.zipWith opSum (valsOf a) (valsOf b))).2 = 1 then ([], 3) else makeOut (rd_T61 a 0).f0 (List.zipWith opSum (valsOf a) (valsOf b))
  else ([], 1)
def curve_Sum.f (l0 l1 : List SP) : Option (List SP × Int) := some (joinSum l0 l1)
section
variable (A0 : Option Addr) (c0 : Nat) (a : List SP) (A1 : Option Addr) (c1 : Nat) (b : List SP) (w : World) (hra : Kd.C k61 w A0 a.length a) (hca : a.length ≤ c0) (hrb : Kd.C k61 w A1 b.length b) (hcb : b.length ≤ c1)
include hra hca hrb hcb
theorem joinSum_a (vb : List Int) (eb : Int) (ha : curve_Values.f a = some ([], 1)) (hb : curve_Values.f b = some (vb, eb)) :
    Calls Try.prog 92 #[.slice A0 a.length c0, .slice A1 b.length c1, .func (.func 93) #[] #[]] w (MakePost w [] 1) := by
  have hund : undef = Value.tuple #[] := rfl
  go_enter Try.func92, Try.ntmps92
  go_wp2_with (first
    | (go_at_call 43; (with_reducible refine (curve_Values.calls _ _ a _ _ _ hra hca ha).mono ?_); rintro e w2 ⟨v2, rfl, hR2, hb2⟩; obtain ⟨A2, c2, rfl⟩ := Kd.R_slice hR2; have hrb2 := Kd.C_below hrb hb2)
    | (go_at_call 43; (with_reducible refine (curve_Values.calls _ _ b _ _ _ hrb2 hcb hb).mono ?_); rintro e w3 ⟨v3, rfl, hR3, hb3⟩; obtain ⟨A3, c3, rfl⟩ := Kd.R_slice hR3))
  go_region
  all_goals go_wp2
  all_goals go_ret2
  all_goals exact ⟨_, rfl, Kd.R_nil _ _ _ _ _, (hb2.trans (hb3.mono hb2.size)).drew⟩
theorem joinSum_b (va : List Int) (ha : curve_Values.f a = some (va, 0)) (hb : curve_Values.f b = some ([], 1)) :
    Calls Try.prog 92 #[.slice A0 a.length c0, .slice A1 b.length c1, .func (.func 93) #[] #[]] w (MakePost w [] 1) := by
  have hund : undef = Value.tuple #[] := rfl
  go_enter Try.func92, Try.ntmps92
  go_wp2_with (first
    | (go_at_call 43; (with_reducible refine (curve_Values.calls _ _ a _ _ _ hra hca ha).mono ?_); rintro e w2 ⟨v2, rfl, hR2, hb2⟩; obtain ⟨A2, c2, rfl⟩ := Kd.R_slice hR2; have hrb2 := Kd.C_below hrb hb2)
    | (go_at_call 43; (with_reducible refine (curve_Values.calls _ _ b _ _ _ hrb2 hcb hb).mono ?_); rintro e w3 ⟨v3, rfl, hR3, hb3⟩; obtain ⟨A3, c3, rfl⟩ := Kd.R_slice hR3))
  go_region
  all_goals go_wp2
  all_goals go_ret2
  all_goals exact ⟨_, rfl, Kd.R_nil _ _ _ _ _, (hb2.trans (hb3.mono hb2.size)).drew⟩
theorem joinSum_f (va vb : List Int) (ha : curve_Values.f a = some (va, 0)) (hb : curve_Values.f b = some (vb, 0)) (h0 : 0 < a.length) (h1 : 0 < b.length) (hf : (rd_T61 a 0).f0 ≠ (rd_T61 b 0).f0) :
    Calls Try.prog 92 #[.slice A0 a.length c0, .slice A1 b.length c1, .func (.func 93) #[] #[]] w (MakePost w [] 1) := by
  have hund : undef = Value.tuple #[] := rfl
  obtain ⟨ad, rfl, x0, -⟩ := at_T61 hra 0 (by omega) (by omega)
  obtain ⟨bd, rfl, y0, -⟩ := at_T61 hrb 0 (by omega) (by omega)
  rw [show ((0 : Int).toNat * 5) = 0 from rfl, Addr.add_zero'] at x0 y0
  generalize (rd_T61 a 0).f0 = F at *
  generalize (rd_T61 b 0).f0 = G at *
  have hf1 : (F == G) = false := beq_eq_false_iff_ne.mpr hf
  have hf2 : (F != G) = true := bne_iff_ne.mpr hf
  clear hf
  go_enter Try.func92, Try.ntmps92
  go_wp2_with (first
    | (go_at_call 43; (with_reducible refine (curve_Values.calls _ _ a _ _ _ hra hca ha).mono ?_); rintro e w2 ⟨v2, rfl, hR2, hb2⟩; obtain ⟨A2, c2, rfl⟩ := Kd.R_slice hR2; have hrb2 := Kd.C_below hrb hb2)
    | (go_at_call 43; (with_reducible refine (curve_Values.calls _ _ b _ _ _ hrb2 hcb hb).mono ?_); rintro e w3 ⟨v3, rfl, hR3, hb3⟩; obtain ⟨A3, c3, rfl⟩ := Kd.R_slice hR3))
  have x3 := pw_cell_below hb3 (pw_cell_below hb2 x0)
  have y3 := pw_cell_below hb3 (pw_cell_below hb2 y0)
  clear x0 y0
  go_region
  all_goals go_wp2
  all_goals go_ret2
  all_goals exact ⟨_, rfl, Kd.R_nil _ _ _ _ _, by have B := hb2.trans (hb3.mono hb2.size); repeat (first | exact B | apply below_drew1 | apply pw_below_drewN)⟩
theorem joinSum_l (va vb : List Int) (ha : curve_Values.f a = some (va, 0)) (hb : curve_Values.f b = some (vb, 0)) (h0 : 0 < a.length) (h1 : 0 < b.length) (hf : (rd_T61 a 0).f0 = (rd_T61 b 0).f0) (hl : va.length ≠ vb.length) :
    Calls Try.prog 92 #[.slice A0 a.length c0, .slice A1 b.length c1, .func (.func 93) #[] #[]] w (MakePost w [] 1) := by
  have hund : undef = Value.tuple #[] := rfl
  obtain ⟨ad, rfl, x0, -⟩ := at_T61 hra 0 (by omega) (by omega)
  obtain ⟨bd, rfl, y0, -⟩ := at_T61 hrb 0 (by omega) (by omega)
  rw [show ((0 : Int).toNat * 5) = 0 from rfl, Addr.add_zero'] at x0 y0
  rw [← hf] at y0
  generalize (rd_T61 a 0).f0 = F at *
  clear hf
  have hf1 : ((va.length : Int) == (vb.length : Int)) = false := beq_eq_false_iff_ne.mpr (by omega)
  have hf2 : ((va.length : Int) != (vb.length : Int)) = true := bne_iff_ne.mpr (by omega)
  clear hl
  go_enter Try.func92, Try.ntmps92
  go_wp2_with (first
    | (go_at_call 43; (with_reducible refine (curve_Values.calls _ _ a _ _ _ hra hca ha).mono ?_); rintro e w2 ⟨v2, rfl, hR2, hb2⟩; obtain ⟨A2, c2, rfl⟩ := Kd.R_slice hR2; have hrb2 := Kd.C_below hrb hb2)
    | (go_at_call 43; (with_reducible refine (curve_Values.calls _ _ b _ _ _ hrb2 hcb hb).mono ?_); rintro e w3 ⟨v3, rfl, hR3, hb3⟩; obtain ⟨A3, c3, rfl⟩ := Kd.R_slice hR3))
  have x3 := pw_cell_below hb3 (pw_cell_below hb2 x0)
  have y3 := pw_cell_below hb3 (pw_cell_below hb2 y0)
  clear x0 y0
  go_region
  all_goals go_wp2
  all_goals go_ret2
  all_goals exact ⟨_, rfl, Kd.R_nil _ _ _ _ _, by have B := hb2.trans (hb3.mono hb2.size); repeat (first | exact B | apply below_drew1 | apply pw_below_drewN)⟩
set_option maxHeartbeats 1000000 in
theorem joinSum_go (va vb : List Int) (ha : curve_Values.f a = some (va, 0)) (hb : curve_Values.f b = some (vb, 0)) (h0 : 0 < a.length) (h1 : 0 < b.length) (hf : (rd_T61 a 0).f0 = (rd_T61 b 0).f0) (hl : va.length = vb.length) (hv0 : 1 ≤ va.length) (hv1 : va.length ≤ 4000) (hv2 : 1 ≤ vb.length)
    (hba : ∀ x ∈ va, -5000000000000 ≤ x ∧ x ≤ 5000000000000) (hbb : ∀ x ∈ vb, -5000000000000 ≤ x ∧ x ≤ 5000000000000) (m : List SP) (er : Int) (hm : makeOut (rd_T61 a 0).f0 (List.zipWith opSum va vb) = (m, er)) (r1 : List SP) (r2 : Int) (hr : if er = 1 then r1 = [] ∧ r2 = 3 else r1 = m ∧ r2 = er) :
    Calls Try.prog 92 #[.slice A0 a.length c0, .slice A1 b.length c1, .func (.func 93) #[] #[]] w (MakePost w r1 r2) := by
  have hund : undef = Value.tuple #[] := rfl
  obtain ⟨ad, rfl, x0, -⟩ := at_T61 hra 0 (by omega) (by omega)
  obtain ⟨bd, rfl, y0, -⟩ := at_T61 hrb 0 (by omega) (by omega)
  rw [show ((0 : Int).toNat * 5) = 0 from rfl, Addr.add_zero'] at x0 y0
  rw [← hf] at y0
  have hm2 : curve_Make.f (rd_T61 a 0).f0 (List.zipWith opSum va vb) = some (m, er) := by unfold curve_Make.f; rw [hm]
  clear hm
  generalize (rd_T61 a 0).f0 = F at *
  clear hf
  have Hm := Lib.hid hm2
  have Hba := Lib.hid hba
  have Hbb := Lib.hid hbb
  have Hr := Lib.hid hr
  have Hl := Lib.hid hl
  have hf2 : ((va.length : Int) != (vb.length : Int)) = false := bne_eq_false_iff_eq.mpr (by omega)
  clear hl hm2 hba hbb hr
  go_enter Try.func92, Try.ntmps92
  go_wp2_with (first
    | (go_at_call 43; (with_reducible refine (curve_Values.calls _ _ a _ _ _ hra hca ha).mono ?_); rintro e w2 ⟨v2, rfl, hR2, hb2⟩; obtain ⟨g, c2, rfl, hg1, hg2, -⟩ := Kd.R_form hR2 (by omega); have hrb2 := Kd.C_below hrb hb2)
    | (go_at_call 43; (with_reducible refine (curve_Values.calls _ _ b _ _ _ hrb2 hcb hb).mono ?_); rintro e w3 ⟨v3, rfl, hR3, hb3⟩; obtain ⟨g3, c3, rfl, hg3, hg4, -⟩ := Kd.R_form hR3 (by omega)))
  have x3 := pw_cell_below hb3 (pw_cell_below hb2 x0)
  have y3 := pw_cell_below hb3 (pw_cell_below hb2 y0)
  have X0 := Aside0.mk x0
  clear x0 y0
  have B3 := hb2.trans (hb3.mono hb2.size)
  have hR2' := Kd.R_below hR2 hb3
  obtain ⟨-, -, hC3⟩ := Kd.R_reads' hR3
  have B3' := B3.drew
  have hK3 : KeepBut w3 w3.drew g none := keep_drew (KeepBut.refl w3 g none)
  have hR2d : Kd.R (Kd.int .i64) 3 w3.drew w.heap.size (fun _ => True) (.slice (some ⟨g, 0, none⟩) va.length c2) va := hR2'
  go_region
  all_goals go_wp2
  clear hR2 hR3 hR2' hb2 hb3 hrb2 x3 y3
  go_loopw [50] (fun i wr => ∃ k : Nat, k ≤ va.length ∧ i = .int .i64 k ∧ Aside0 (Kd.R (Kd.int .i64) 3 wr w.heap.size (fun _ => True) (.slice (some ⟨g, 0, none⟩) va.length c2) (mixSum va vb k)) ∧ KeepBut w3 wr g none ∧ Below w.heap.size w wr) (fun i _ => va.length - (intOf i).toNat)
  case atStart => exact ⟨0, Nat.zero_le _, rfl, ⟨by rw [mixSum_zero]; exact hR2d⟩, hK3, B3'⟩
  case round =>
    clear hR2d hK3 B3'
    obtain ⟨k, hk, rfl, HR, hK, hB⟩ := hrel
    by_cases hkm : k < va.length
    · have hl := Hl.out
      have hx := Kd.R_celln (0 : Int) HR.out (k : Int) (by omega) (by omega)
      have hC3' := Kd.C_keep (0 : Int) hC3 hK (fun ad e _ => by cases e; show g3 ≠ g; omega)
      obtain ⟨bd', e', hy⟩ := row_cell hC3' (k := k) (by omega)
      cases e'
      rw [add_plain] at hy
      have hxg : rdOf (0 : Int) (mixSum va vb k) (k : Int) = va.getD k 0 := mixSum_get va vb k hkm (by omega)
      rw [hxg, Int.toNat_natCast] at hx
      obtain ⟨hx, hfx⟩ := hx
      have hbx := Hba.out (va.getD k 0) (by simp [hkm])
      have hby := Hbb.out (rd vb (k : Int)) (rd_mem (by omega))
      have hset := mixSum_set va vb k hkm (by omega)
      have hyg : rd vb (k : Int) = vb.getD k 0 := rfl
      rw [hyg] at hy hby
      have Hset := Lib.hid hset
      clear hset hyg hxg hl
      generalize va.getD k 0 = xv at *
      generalize vb.getD k 0 = yv at *
      have hk2 : (k : Int) < (va.length : Int) := by omega
      have hk3 : (k : Int) < (vb.length : Int) := by have := Hl.out; omega
      have hput := fun W (h : Kd.R (Kd.int .i64) 3 W w.heap.size (fun _ => True) (.slice (some ⟨g, 0, none⟩) va.length c2) (mixSum va vb k)) => Kd.R_putn h (k : Int) (opSum xv yv)
      rw [Int.toNat_natCast, Hset.out] at hput
      go_wp2
      go_region_with ((go_at_call 93; (with_reducible refine (sum1_calls _ _ _ hbx hby).mono ?_); rintro e w' ⟨rfl, rfl⟩))
      all_goals go_wp2
      all_goals go_roundw
      case rel => exact ⟨k + 1, by omega, by go_num, ⟨hput wr HR.out⟩, keep_drew (hK.set_ k _), (hB.setCell (p := ⟨g, k, none⟩) hg1 _).drew⟩
      case measure => simp [intOf]; omega
      case rel => exact ⟨k + 1, by omega, by go_num, ⟨hput wr HR.out⟩, keep_drew (hK.set_ k _), (hB.setCell (p := ⟨g, k, none⟩) hg1 _).drew⟩
      case measure => simp [intOf]; omega
    · obtain rfl : k = va.length := by omega
      have hl := Hl.out
      have hall := mixSum_all va vb hl
      have hR5 := HR.out
      rw [hall] at hR5
      obtain ⟨-, hc5, hC5⟩ := Kd.R_reads' hR5
      have hlen : (List.zipWith opSum va vb).length = va.length := by rw [List.length_zipWith]; omega
      have K := curve_Make.calls F (some ⟨g, 0, none⟩) c2 (List.zipWith opSum va vb) m er wr hC5 (by rw [hlen]; exact hc5) Hm.out
      rw [hlen] at K
      have x5 := pw_cell_below hB X0.out
      clear hl hall hlen hC5 HR hR5
      by_cases he : er = 1
      · have hr := Hr.out
        rw [if_pos he] at hr
        obtain ⟨rfl, rfl⟩ := hr
        subst he
        go_wp2_with (go_at_call 42; (with_reducible refine K.mono ?_); rintro e w5 ⟨v5, rfl, hR5, hb5⟩; obtain ⟨A5, c5, rfl, hc6, hC6⟩ := Kd.R_reads hR5)
        go_ret2
        exact ⟨_, rfl, Kd.R_nil _ _ _ _ _, hB.trans (hb5.mono hB.size)⟩
      · have hr := Hr.out
        rw [if_neg he] at hr
        obtain ⟨rfl, rfl⟩ := hr
        have he2 : (r2 == 1) = false := beq_eq_false_iff_ne.2 he
        clear he
        go_wp2_with (go_at_call 42; (with_reducible refine K.mono ?_); rintro e w5 ⟨v5, rfl, hR5, hb5⟩; obtain ⟨A5, c5, rfl, hc6, hC6⟩ := Kd.R_reads hR5)
        go_ret2
        exact ⟨_, rfl, Kd.R_lower hR5 hB.size, hB.trans (hb5.mono hB.size)⟩
theorem join_Sum (r1 : List SP) (r2 : Int) (h : joinSum a b = (r1, r2)) : Calls Try.prog 92 #[.slice A0 a.length c0, .slice A1 b.length c1, .func (.func 93) #[] #[]] w (MakePost w r1 r2) := by
  have hbad : ∀ l, validB l = false → curve_Values.f l = some ([], 1) := fun l h => by unfold curve_Values.f valuesOut; rw [h]; rfl
  have hgood : ∀ l, validB l = true → curve_Values.f l = some (valsOf l, 0) := fun l h => by unfold curve_Values.f valuesOut; rw [h]; rfl
  unfold joinSum at h
  cases hva : validB a with
  | false =>
    rw [if_neg (by rw [hva]; simp)] at h
    obtain ⟨rfl, rfl⟩ : [] = r1 ∧ 1 = r2 := by simpa using h
    exact joinSum_a A0 c0 a A1 c1 b w hra hca hrb hcb (valuesOut b).1 (valuesOut b).2 (hbad a hva) rfl
  | true =>
    cases hvb : validB b with
    | false =>
      rw [if_neg (by rw [hvb]; simp)] at h
      obtain ⟨rfl, rfl⟩ : [] = r1 ∧ 1 = r2 := by simpa using h
      exact joinSum_b A0 c0 a A1 c1 b w hra hca hrb hcb _ (hgood a hva) (hbad b hvb)
    | true =>
      have ja := joined_facts (valid_joined hva)
      have jb := joined_facts (valid_joined hvb)
      by_cases c1' : (rd_T61 a 0).f0 = (rd_T61 b 0).f0
      · by_cases c2' : (valsOf a).length = (valsOf b).length
        · rw [if_pos ⟨hva, hvb, c1', c2'⟩] at h
          obtain ⟨m, er, hM⟩ : ∃ m er, makeOut (rd_T61 a 0).f0 (List.zipWith opSum (valsOf a) (valsOf b)) = (m, er) := ⟨_, _, rfl⟩
          rw [hM] at h
          refine joinSum_go A0 c0 a A1 c1 b w hra hca hrb hcb _ _ (hgood a hva) (hgood b hvb) ja.1 jb.1 c1' c2' ja.2.2.2.1 ja.2.2.1 jb.2.2.2.1 (vals_le ja.2.1) (vals_le jb.2.1) m er hM r1 r2 ?_
          by_cases he : er = 1
          · rw [if_pos he] at h
            rw [if_pos he]
            obtain ⟨rfl, rfl⟩ : [] = r1 ∧ 3 = r2 := by simpa using h
            exact ⟨rfl, rfl⟩
          · rw [if_neg he] at h
            rw [if_neg he]
            obtain ⟨rfl, rfl⟩ : m = r1 ∧ er = r2 := by simpa using h
            exact ⟨rfl, rfl⟩
        · rw [if_neg (fun e => c2' e.2.2.2)] at h
          obtain ⟨rfl, rfl⟩ : [] = r1 ∧ 1 = r2 := by simpa using h
          exact joinSum_l A0 c0 a A1 c1 b w hra hca hrb hcb _ _ (hgood a hva) (hgood b hvb) ja.1 jb.1 c1' c2'
      · rw [if_neg (fun e => c1' e.2.2.1)] at h
        obtain ⟨rfl, rfl⟩ : [] = r1 ∧ 1 = r2 := by simpa using h
        exact joinSum_f A0 c0 a A1 c1 b w hra hca hrb hcb _ _ (hgood a hva) (hgood b hvb) ja.1 jb.1 c1'
end
theorem curve_Sum.calls (A0 : Option Addr) (c0 : Nat) (l0 : List SP) (A1 : Option Addr) (c1 : Nat) (l1 : List SP) (r1 : List SP) (r2 : Int) (w : World) (hr0 : Kd.C k61 w A0 l0.length l0) (hc0 : l0.length ≤ c0) (hr1 : Kd.C k61 w A1 l1.length l1) (hc1 : l1.length ≤ c1) (h : curve_Sum.f l0 l1 = some (r1, r2)) :
    Calls Try.prog 53 #[.slice A0 l0.length c0, .slice A1 l1.length c1] w fun e w' => ∃ v0_ : Value, e = .returned (.tuple #[v0_, .int .i64 r2]) ∧ Kd.R k61 61 w' w.heap.size (fun _ => True) v0_ r1 ∧ Below w.heap.size w w' := by
  have h' : joinSum l0 l1 = (r1, r2) := Option.some.inj h
  have K := join_Sum A0 c0 l0 A1 c1 l1 w hr0 hc0 hr1 hc1 r1 r2 h'
  clear h h'
  go_enter Try.func53, Try.ntmps53
  go_wp2_with (go_at_call 92; (with_reducible refine K.mono ?_); rintro e w5 ⟨v5, rfl, hR5, hb5⟩; obtain ⟨A5, c5, rfl, hc6, hC6⟩ := Kd.R_reads hR5)
  go_ret2
  exact ⟨_, rfl, hR5, hb5⟩
end Go.Proofs.Ytjpghfjaloglhaa.PCurve

