import Derived.Test.YtjpghfjaloglhaaZTMZip
import Derived.Test.YtjpghfjaloglhaaZTMPContractx0
import Derived.Test.YtjpghfjaloglhaaZTMPContractx2
import Derived.Test.YtjpghfjaloglhaaZTMPContractx7
import Derived.Test.YtjpghfjaloglhaaZTMPContractx8
import Derived.Test.YtjpghfjaloglhaaZTMEContractCValid
import Derived.Test.YtjpghfjaloglhaaZTMEContractCourse
import Derived.Test.YtjpghfjaloglhaaZTMEContractJudge
namespace Go.Proofs.Ytjpghfjaloglhaa.PContract
open Go.RowKit Go.Proofs.YtjpghfjaloglhaaW.PrintWords Go.Proofs.YtjpghfjaloglhaaW.PrintLast Go.Proofs.YtjpghfjaloglhaaW.PrintMore Go.Proofs.Ytjpghfjaloglhaa.Zip
attribute [local go_sem] max2_int min2_int max_two min_two max_three min_three max_four min_four   -- for this text's walks alone
set_option linter.unusedVariables false
set_option linter.unusedSimpArgs false
attribute [local go_sem high] eqA71
def formelaw38_headP.f (k : Nat)  : Option (Bool) := (formelaw38_example.f).bind fun bt202 => ((formelaw38_answer.f 250 100).bind fun bt207 => ((formelaw38_answer.f 250 120).bind fun bt211 => ((formelaw38_answer.f 250 120).bind fun bt215 => ((contract_Course.f bt202.1 bt202.2.1 bt202.2.2 (([(⟨bt207.1, bt207.2.1, bt207.2.2.1, bt207.2.2.2⟩ : S78), (⟨bt211.1, bt211.2.1, bt211.2.2.1, bt211.2.2.2⟩ : S78), (⟨bt215.1, bt215.2.1, bt215.2.2.1, bt215.2.2.2⟩ : S78)] : List (S78)))).bind fun bt222 => ((formelaw38_example.f).bind fun bt232 => ((formelaw38_answer.f 250 90).bind fun bt237 => ((contract_Judge.f bt232.1 bt232.2.1 bt232.2.2 bt222.1 bt222.2.1 bt222.2.2.1 bt222.2.2.2.1 bt222.2.2.2.2.1 bt237.1 bt237.2.1 bt237.2.2.1 bt237.2.2.2).bind fun bt241 => ((formelaw38_example.f).bind fun bt250 => ((formelaw38_answer.f 250 120).bind fun bt255 => ((contract_Judge.f bt250.1 bt250.2.1 bt250.2.2 5 0 0 0 false bt255.1 bt255.2.1 bt255.2.2.1 bt255.2.2.2).bind fun bt259 => ((formelaw38_example.f).bind fun bt268 => ((contract_Promised.f bt268.1 bt268.2.1 bt268.2.2 180).bind fun bt273 => ((formelaw38_example.f).bind fun bt275 => ((contract_Promised.f bt275.1 bt275.2.1 bt275.2.2 1000).bind fun bt280 => ((formelaw38_example.f).bind fun bt282 => ((formelaw38_answer.f 250 90).bind fun bt287 => ((contract_Judge.f bt282.1 bt282.2.1 bt282.2.2 6 0 0 0 false bt287.1 bt287.2.1 bt287.2.2.1 bt287.2.2.2).bind fun bt291 => (if bt222.2.2.2.2.2.2 = 0 then (if bt241.2.2.2.2.2.2.2 = 0 then (if bt259.2.2.2.2.2.2.2 = 0 then (if bt273.2 = 0 then (if bt280.2 = 0 then (if bt291.2.2.2.2.2.2.2 = 1 then ((formelaw38_example.f).bind fun bt300 => ((contract_Valid.f bt300.1 bt300.2.1 bt300.2.2).bind fun t305 => (if t305 = true then (if (bt222.1 == 5 && (bt222.2.1 == 2 && (bt222.2.2.1 == 1 && (bt222.2.2.2.1 == 20 && (!bt222.2.2.2.2.1))))) = true then ((formeref02_SameInts.f k bt222.2.2.2.2.2.1 (([100, 100, 100] : List Int))).bind fun t309 => (if t309 = true then (if bt241.2.2.2.2.2.1 = 100 then (if bt241.2.2.2.2.2.2.1 = true then (some false) else (if bt259.2.2.2.2.2.1 = 100 then (if bt259.2.2.2.2.2.2.1 = true then (if (bt241.1 == 5 && (bt241.2.1 == 3 && (bt241.2.2.1 == 2 && (bt241.2.2.2.1 == (-10) && (bt241.2.2.2.2.1))))) = true then (if bt273.1 = 100 then (some (bt280.1 == 50)) else (some false)) else (some false)) else (some false)) else (some false))) else (some false)) else (some false))) else (some false)) else (some false)))) else (some false)) else (some false)) else (some false)) else (some false)) else (some false)) else (some false)))))))))))))))))))
theorem formelaw38_headP.mono : ∀ k, LeO (formelaw38_headP.f k ) (formelaw38_headP.f (k + 1) ) := by
 intro  k
 unfold formelaw38_headP.f
 repeat' first
   | (with_reducible exact formeref02_SameInts.mono _ _ _)
   | (with_reducible exact LeO.refl _)
   | (with_reducible exact LeO.none _)
   | (with_reducible refine LeO.ite ?_ ?_)
   | (with_reducible refine LeO.bind ?_ (fun _ => ?_))
   | exact formeref02_SameInts.mono _ _ _
   | exact LeO.none _
   | refine LeO.ite ?_ ?_
   | refine LeO.bind ?_ (fun _ => ?_)
def formelaw38_headP.T2 : Bool × List (List Nat × List Nat) := (true, [([], []), ([], []), ([0], []), ([0, 1, 2, 2], [0, 1, 2]), ([3], [3]), ([4], [4]), ([4], [4]), ([4], [4]), ([4], [4]), ([], []), ([9, 5, 3, 0, 1, 2, 3, 4, 5, 9], [5, 9]), ([6, 10, 0, 1, 2, 3, 4, 5, 6, 9, 10], [6]), ([7, 11, 0, 1, 2, 3, 4, 5, 6, 7, 9, 10, 11], [7]), ([8, 12, 0, 1, 2, 3, 4, 5, 6, 7, 8, 9, 10, 11, 12], [8])])
def formelaw38_headP.B2 : List Nat := [0, 0, 1, 7, 15, 31, 31, 31, 31, 0, 575, 1663, 3839, 8191]
theorem formelaw38_headP.tab2 : rtab .any (opsOf Try.f57 2) = formelaw38_headP.T2 := by kernel_rfl
theorem formelaw38_headP.bits2 : waitsOk formelaw38_headP.T2.2 formelaw38_headP.B2 = true := by kernel_rfl
set_option maxHeartbeats 8000000 in
set_option maxRecDepth 100000 in
theorem formelaw38_headP.calls (k : Nat)  (r : Bool) (w : World) (h : formelaw38_headP.f k  = some r) (hTr : r = true := by first | rfl | exact Aside0.out (by assumption)) :
  Calls Try.prog 57 #[] w fun e w' => e = .returned (.bool r) ∧ Below w.heap.size w w' := by
 have HTr := Aside0.mk hTr
 clear hTr
 have hu71 := Try.underlying71
 have HB := Aside0.mk (Below.refl w.heap.size w)
 have H := h
 unfold formelaw38_headP.f at H
 clear h
 replace H := Option.bind_eq_some_iff.mp H
 obtain ⟨⟨t202, t203, t204⟩, A10, H⟩ := H
 try dsimp only at H
 have A1 := Aside0.mk A10
 clear A10
 replace H := Option.bind_eq_some_iff.mp H
 obtain ⟨⟨t207, t208, t209, t210⟩, A20, H⟩ := H
 try dsimp only at H
 have A2 := Aside0.mk A20
 clear A20
 replace H := Option.bind_eq_some_iff.mp H
 obtain ⟨⟨t211, t212, t213, t214⟩, A30, H⟩ := H
 try dsimp only at H
 have A3 := Aside0.mk A30
 clear A30
 replace H := Option.bind_eq_some_iff.mp H
 obtain ⟨⟨t215, t216, t217, t218⟩, A40, H⟩ := H
 try dsimp only at H
 have A4 := Aside0.mk A40
 clear A40
 obtain ⟨y219, hy219⟩ : ∃ y_ : List (S78), y_ = (([(⟨t207, t208, t209, t210⟩ : S78), (⟨t211, t212, t213, t214⟩ : S78), (⟨t215, t216, t217, t218⟩ : S78)] : List (S78))) := ⟨_, rfl⟩
 replace H : ((contract_Course.f t202 t203 t204 y219).bind fun bt222 => ((formelaw38_example.f).bind fun bt232 => ((formelaw38_answer.f 250 90).bind fun bt237 => ((contract_Judge.f bt232.1 bt232.2.1 bt232.2.2 bt222.1 bt222.2.1 bt222.2.2.1 bt222.2.2.2.1 bt222.2.2.2.2.1 bt237.1 bt237.2.1 bt237.2.2.1 bt237.2.2.2).bind fun bt241 => ((formelaw38_example.f).bind fun bt250 => ((formelaw38_answer.f 250 120).bind fun bt255 => ((contract_Judge.f bt250.1 bt250.2.1 bt250.2.2 5 0 0 0 false bt255.1 bt255.2.1 bt255.2.2.1 bt255.2.2.2).bind fun bt259 => ((formelaw38_example.f).bind fun bt268 => ((contract_Promised.f bt268.1 bt268.2.1 bt268.2.2 180).bind fun bt273 => ((formelaw38_example.f).bind fun bt275 => ((contract_Promised.f bt275.1 bt275.2.1 bt275.2.2 1000).bind fun bt280 => ((formelaw38_example.f).bind fun bt282 => ((formelaw38_answer.f 250 90).bind fun bt287 => ((contract_Judge.f bt282.1 bt282.2.1 bt282.2.2 6 0 0 0 false bt287.1 bt287.2.1 bt287.2.2.1 bt287.2.2.2).bind fun bt291 => (if bt222.2.2.2.2.2.2 = 0 then (if bt241.2.2.2.2.2.2.2 = 0 then (if bt259.2.2.2.2.2.2.2 = 0 then (if bt273.2 = 0 then (if bt280.2 = 0 then (if bt291.2.2.2.2.2.2.2 = 1 then ((formelaw38_example.f).bind fun bt300 => ((contract_Valid.f bt300.1 bt300.2.1 bt300.2.2).bind fun t305 => (if t305 = true then (if (bt222.1 == 5 && (bt222.2.1 == 2 && (bt222.2.2.1 == 1 && (bt222.2.2.2.1 == 20 && (!bt222.2.2.2.2.1))))) = true then ((formeref02_SameInts.f k bt222.2.2.2.2.2.1 (([100, 100, 100] : List Int))).bind fun t309 => (if t309 = true then (if bt241.2.2.2.2.2.1 = 100 then (if bt241.2.2.2.2.2.2.1 = true then (some false) else (if bt259.2.2.2.2.2.1 = 100 then (if bt259.2.2.2.2.2.2.1 = true then (if (bt241.1 == 5 && (bt241.2.1 == 3 && (bt241.2.2.1 == 2 && (bt241.2.2.2.1 == (-10) && (bt241.2.2.2.2.1))))) = true then (if bt273.1 = 100 then (some (bt280.1 == 50)) else (some false)) else (some false)) else (some false)) else (some false))) else (some false)) else (some false))) else (some false)) else (some false)))) else (some false)) else (some false)) else (some false)) else (some false)) else (some false)) else (some false)))))))))))))))) = some r := by first | (rw [hy219]; with_reducible exact H) | (have H2_ := (Option.bind_some _ _).symm.trans H; rw [hy219]; with_reducible exact H2_) | (have H2_ := (Option.bind_some _ _).symm.trans H; with_reducible exact H2_) | with_reducible exact H | (rw [hy219]; exact H) | exact H
 have Ny219 := Aside0.mk hy219
 clear hy219
 replace H := Option.bind_eq_some_iff.mp H
 obtain ⟨⟨t222, t223, t224, t225, t226, t227, t230⟩, A50, H⟩ := H
 try dsimp only at H
 have A5 := Aside0.mk A50
 clear A50
 replace H := Option.bind_eq_some_iff.mp H
 obtain ⟨⟨t232, t233, t234⟩, A60, H⟩ := H
 try dsimp only at H
 have A6 := Aside0.mk A60
 clear A60
 replace H := Option.bind_eq_some_iff.mp H
 obtain ⟨⟨t237, t238, t239, t240⟩, A70, H⟩ := H
 try dsimp only at H
 have A7 := Aside0.mk A70
 clear A70
 replace H := Option.bind_eq_some_iff.mp H
 obtain ⟨⟨t241, t242, t243, t244, t245, t246, t247, t248⟩, A80, H⟩ := H
 try dsimp only at H
 have A8 := Aside0.mk A80
 clear A80
 replace H := Option.bind_eq_some_iff.mp H
 obtain ⟨⟨t250, t251, t252⟩, A90, H⟩ := H
 try dsimp only at H
 have A9 := Aside0.mk A90
 clear A90
 replace H := Option.bind_eq_some_iff.mp H
 obtain ⟨⟨t255, t256, t257, t258⟩, A100, H⟩ := H
 try dsimp only at H
 have A10 := Aside0.mk A100
 clear A100
 replace H := Option.bind_eq_some_iff.mp H
 obtain ⟨⟨t259, t260, t261, t262, t263, t264, t265, t266⟩, A110, H⟩ := H
 try dsimp only at H
 have A11 := Aside0.mk A110
 clear A110
 replace H := Option.bind_eq_some_iff.mp H
 obtain ⟨⟨t268, t269, t270⟩, A120, H⟩ := H
 try dsimp only at H
 have A12 := Aside0.mk A120
 clear A120
 replace H := Option.bind_eq_some_iff.mp H
 obtain ⟨⟨t273, t274⟩, A130, H⟩ := H
 try dsimp only at H
 have A13 := Aside0.mk A130
 clear A130
 replace H := Option.bind_eq_some_iff.mp H
 obtain ⟨⟨t275, t276, t277⟩, A140, H⟩ := H
 try dsimp only at H
 have A14 := Aside0.mk A140
 clear A140
 replace H := Option.bind_eq_some_iff.mp H
 obtain ⟨⟨t280, t281⟩, A150, H⟩ := H
 try dsimp only at H
 have A15 := Aside0.mk A150
 clear A150
 replace H := Option.bind_eq_some_iff.mp H
 obtain ⟨⟨t282, t283, t284⟩, A160, H⟩ := H
 try dsimp only at H
 have A16 := Aside0.mk A160
 clear A160
 replace H := Option.bind_eq_some_iff.mp H
 obtain ⟨⟨t287, t288, t289, t290⟩, A170, H⟩ := H
 try dsimp only at H
 have A17 := Aside0.mk A170
 clear A170
 replace H := Option.bind_eq_some_iff.mp H
 obtain ⟨⟨t291, t292, t293, t294, t295, t296, t297, t298⟩, A180, H⟩ := H
 try dsimp only at H
 have A18 := Aside0.mk A180
 clear A180
 by_cases c19 : t230 = 0
 ·rw [if_pos c19] at H
  have c19b0 : (t230 == 0) = true := beq_iff_eq.mpr c19
  have c19b1 : (t230 != 0) = false := bne_eq_false_iff_eq.mpr c19
  clear c19
  by_cases c20 : t248 = 0
  ·rw [if_pos c20] at H
   have c20b0 : (t248 == 0) = true := beq_iff_eq.mpr c20
   have c20b1 : (t248 != 0) = false := bne_eq_false_iff_eq.mpr c20
   clear c20
   by_cases c21 : t266 = 0
   ·rw [if_pos c21] at H
    have c21b0 : (t266 == 0) = true := beq_iff_eq.mpr c21
    have c21b1 : (t266 != 0) = false := bne_eq_false_iff_eq.mpr c21
    clear c21
    by_cases c22 : t274 = 0
    ·rw [if_pos c22] at H
     have c22b0 : (t274 == 0) = true := beq_iff_eq.mpr c22
     have c22b1 : (t274 != 0) = false := bne_eq_false_iff_eq.mpr c22
     clear c22
     by_cases c23 : t281 = 0
     ·rw [if_pos c23] at H
      have c23b0 : (t281 == 0) = true := beq_iff_eq.mpr c23
      have c23b1 : (t281 != 0) = false := bne_eq_false_iff_eq.mpr c23
      clear c23
      by_cases c24 : t298 = 1
      ·rw [if_pos c24] at H
       have c24b0 : (t298 == 1) = true := beq_iff_eq.mpr c24
       have c24b1 : (t298 != 1) = false := bne_eq_false_iff_eq.mpr c24
       clear c24
       replace H := Option.bind_eq_some_iff.mp H
       obtain ⟨⟨t300, t301, t302⟩, A250, H⟩ := H
       try dsimp only at H
       have A25 := Aside0.mk A250
       clear A250
       replace H := Option.bind_eq_some_iff.mp H
       obtain ⟨t305, A260, H⟩ := H
       try dsimp only at H
       have A26 := Aside0.mk A260
       clear A260
       by_cases c27 : t305 = true
       ·subst c27
        rw [if_pos rfl] at H
        by_cases c28 : (t222 == 5 && (t223 == 2 && (t224 == 1 && (t225 == 20 && (!t226))))) = true
        ·rw [if_pos c28] at H
         have c28b0 : (t222 == 5 && (t223 == 2 && (t224 == 1 && (t225 == 20 && (!t226))))) = true := c28
         (try (have c28b1 : decide (t222 = 5 && (t223 == 2 && (t224 == 1 && (t225 == 20 && (!t226))))) = true := by simpa using c28))
         (try (have c28b2 : (t222 == 5 && (t223 == 2 && (t224 == 1 && (t225 == 20 && (!t226))))) = true := by simpa using c28))
         clear c28
         obtain ⟨y306, hy306⟩ : ∃ y_ : List Int, y_ = (([100, 100, 100] : List Int)) := ⟨_, rfl⟩
         replace H : ((formeref02_SameInts.f k t227 y306).bind fun t309 => (if t309 = true then (if t246 = 100 then (if t247 = true then (some false) else (if t264 = 100 then (if t265 = true then (if (t241 == 5 && (t242 == 3 && (t243 == 2 && (t244 == (-10) && (t245))))) = true then (if t273 = 100 then (some (t280 == 50)) else (some false)) else (some false)) else (some false)) else (some false))) else (some false)) else (some false))) = some r := by first | (rw [hy306]; with_reducible exact H) | (have H2_ := (Option.bind_some _ _).symm.trans H; rw [hy306]; with_reducible exact H2_) | (have H2_ := (Option.bind_some _ _).symm.trans H; with_reducible exact H2_) | with_reducible exact H | (rw [hy306]; exact H) | exact H
         have Ny306 := Aside0.mk hy306
         clear hy306
         replace H := Option.bind_eq_some_iff.mp H
         obtain ⟨t309, A290, H⟩ := H
         try dsimp only at H
         have A29 := Aside0.mk A290
         clear A290
         by_cases c30 : t309 = true
         ·subst c30
          rw [if_pos rfl] at H
          by_cases c31 : t246 = 100
          ·rw [if_pos c31] at H
           have c31b0 : (t246 == 100) = true := beq_iff_eq.mpr c31
           have c31b1 : (t246 != 100) = false := bne_eq_false_iff_eq.mpr c31
           clear c31
           by_cases c32 : t247 = true
           ·subst c32
            rw [if_pos rfl] at H
            exact absurd ((Option.some.inj H).trans HTr.out) (by decide)
           ·replace c32 := Bool.eq_false_iff.mpr c32
            subst c32
            rw [if_neg (show ¬ (false = true) by decide)] at H
            by_cases c33 : t264 = 100
            ·rw [if_pos c33] at H
             have c33b0 : (t264 == 100) = true := beq_iff_eq.mpr c33
             have c33b1 : (t264 != 100) = false := bne_eq_false_iff_eq.mpr c33
             clear c33
             by_cases c34 : t265 = true
             ·subst c34
              rw [if_pos rfl] at H
              by_cases c35 : (t241 == 5 && (t242 == 3 && (t243 == 2 && (t244 == (-10) && (t245))))) = true
              ·rw [if_pos c35] at H
               have c35b0 : (t241 == 5 && (t242 == 3 && (t243 == 2 && (t244 == (-10) && (t245))))) = true := c35
               (try (have c35b1 : decide (t241 = 5 && (t242 == 3 && (t243 == 2 && (t244 == (-10) && (t245))))) = true := by simpa using c35))
               (try (have c35b2 : (t241 == 5 && (t242 == 3 && (t243 == 2 && (t244 == (-10) && (t245))))) = true := by simpa using c35))
               clear c35
               by_cases c36 : t273 = 100
               ·rw [if_pos c36] at H
                have c36b0 : (t273 == 100) = true := beq_iff_eq.mpr c36
                have c36b1 : (t273 != 100) = false := bne_eq_false_iff_eq.mpr c36
                clear c36
                obtain rfl := Option.some.inj H
                go_enter Try.func57, Try.ntmps57
                try go_wp2_with (first | ((with_reducible refine gate_callee (f := 96) rfl ?_); refine goesL_ (some 22) rfl rfl Try.func96 (by kernel_rfl) rfl #[] rfl gla ?_; (with_reducible refine (formelaw38_example.calls  t202 t203 t204 _ A1.out).mono ?_); rintro e w37 ⟨v205, rfl, ho0, hb⟩; refine ⟨_, rfl, ?_⟩; have HO206 := Aside0.mk (Kd.R_lower ho0 (below_size bel)); replace HB := hba hb; (try clear hb); (try clear ho0)) | ((with_reducible refine gate_callee (f := 97) rfl ?_); refine goesL_ (some 23) rfl rfl Try.func97 (by kernel_rfl) rfl #[.int .i64 250, .int .i64 100] rfl gla ?_; (with_reducible refine (formelaw38_answer.calls 250 100 t207 t208 t209 t210 _ A2.out).mono ?_); rintro e w38 ⟨rfl, hb⟩; refine ⟨_, rfl, ?_⟩; replace HO206 := hoa HO206 hb; replace HB := hba hb; (try clear hb)) | ((with_reducible refine gate_callee (f := 97) rfl ?_); refine goesL_ (some 24) rfl rfl Try.func97 (by kernel_rfl) rfl #[.int .i64 250, .int .i64 120] rfl gla ?_; (with_reducible refine (formelaw38_answer.calls 250 120 t211 t212 t213 t214 _ A3.out).mono ?_); rintro e w39 ⟨rfl, hb⟩; refine ⟨_, rfl, ?_⟩; replace HO206 := hoa HO206 hb; replace HB := hba hb; (try clear hb)) | ((with_reducible refine gate_callee (f := 97) rfl ?_); refine goesL_ (some 25) rfl rfl Try.func97 (by kernel_rfl) rfl #[.int .i64 250, .int .i64 120] rfl gla ?_; (with_reducible refine (formelaw38_answer.calls 250 120 t215 t216 t217 t218 _ A4.out).mono ?_); rintro e w40 ⟨rfl, hb⟩; refine ⟨_, rfl, ?_⟩; replace HO206 := hoa HO206 hb; replace HB := hba hb; (try clear hb)) | ((with_reducible refine gate_dst (N := 26) rfl ?_); (try (refine gate_guard (by rfl) ?_; dsimp only)); refine Kd.R_lit k78 _ 78 ?hg (N := 26) ?hd (xs := ([(⟨t207, t208, t209, t210⟩ : S78), (⟨t211, t212, t213, t214⟩ : S78), (⟨t215, t216, t217, t218⟩ : S78)] : List (S78))) (inner := [.int .i64 t207, .int .i64 t208, .int .i64 t209, .int .i64 t210, .int .i64 t211, .int .i64 t212, .int .i64 t213, .int .i64 t214, .int .i64 t215, .int .i64 t216, .int .i64 t217, .int .i64 t218]) (ok := fun _ => True) (okp := fun _ => True) ?hr ?hp (fun _ hk => hk) trivial (Below.refl _ _) (Nat.le_refl _) (by simp) ?_; (case hd => rfl); (case hg => rfl); (case hr => first | (go_simp; done) | (go_simp; rfl)); (case hp => exact (Reps.c4 (show Kd.M k78 _ _ _ (⟨t207, t208, t209, t210⟩ : S78) [.int .i64 t207, .int .i64 t208, .int .i64 t209, .int .i64 t210] from (k78_mkM _ _ _ (⟨t207, t208, t209, t210⟩ : S78) )) (Reps.c4 (show Kd.M k78 _ _ _ (⟨t211, t212, t213, t214⟩ : S78) [.int .i64 t211, .int .i64 t212, .int .i64 t213, .int .i64 t214] from (k78_mkM _ _ _ (⟨t211, t212, t213, t214⟩ : S78) )) (Reps.c4 (show Kd.M k78 _ _ _ (⟨t215, t216, t217, t218⟩ : S78) [.int .i64 t215, .int .i64 t216, .int .i64 t217, .int .i64 t218] from (k78_mkM _ _ _ (⟨t215, t216, t217, t218⟩ : S78) )) (Reps.none _ _))))); intro v220 w41 ho42 hb hg_ hnew_; clear hg_ hnew_; (first | rw [← Ny219.out] at ho42 | (simp only [Int.reduceToNat] at ho42; rw [← Ny219.out] at ho42)); have HO221 := Aside0.mk (Kd.R_lower ho42 (below_size bel)); replace HO206 := hoa HO206 hb; replace HB := hba hb; clear hb ho42; obtain ⟨Ao43, co43, eo43⟩ := Kd.R_slice HO206.out; subst eo43; obtain ⟨Ao44, co44, eo44⟩ := Kd.R_slice HO221.out; subst eo44) | ((with_reducible refine gate_callee (f := 65) rfl ?_); refine goesL_ (some 27) rfl rfl Try.func65 (by kernel_rfl) rfl #[.agg #[.int .i64 t202, .int .i64 t203, .slice Ao43 t204.length co43], .slice Ao44 y219.length co44] rfl gla ?_; (with_reducible refine (contract_Course.calls t202 t203 _ _ t204 _ _ y219 t222 t223 t224 t225 t226 t227 t230 _ ?side1 ?side2 ?side3 ?side4 A5.out).mono ?_); (case side1 => repeat (first | exact (Kd.R_reads' HO206.out).2.2 | (with_reducible refine Kd.C_alloc ?_ _) | (with_reducible refine Kd.C_drewN ?_ _) | (with_reducible refine Kd.C_drew ?_))); (case side2 => exact (Kd.R_reads' HO206.out).2.1); (case side3 => repeat (first | exact (Kd.R_reads' HO221.out).2.2 | (with_reducible refine Kd.C_alloc ?_ _) | (with_reducible refine Kd.C_drewN ?_ _) | (with_reducible refine Kd.C_drew ?_))); (case side4 => exact (Kd.R_reads' HO221.out).2.1); rintro e w45 ⟨v228, rfl, ho0, hb⟩; refine ⟨_, rfl, ?_⟩; have HO229 := Aside0.mk (Kd.R_lower ho0 (below_size bel)); replace HO206 := hoa HO206 hb; replace HO221 := hoa HO221 hb; replace HB := hba hb; (try clear hb); (try clear ho0)) | ((with_reducible refine gate_dst (N := 1) rfl ?_); (try (refine gate_guard (by rfl) ?_; dsimp only)); refine box_event ?hg (N := 1) ?hd (cs := #[.int .i64 0, .int .i64 0, .int .i64 0, .int .i64 0, .bool false]) (t := 71) ?hr ?_; (case hd => rfl); (case hg => rfl); (case hr => first | (go_simp; done) | (go_simp; rfl)); intro gb231 hg w46 hbox hb; have BK231 := Aside0.mk (hbox); have GW231 := gwa w hg; have GE231 := gwa w hg; replace HO206 := hoa HO206 hb; replace HO221 := hoa HO221 hb; replace HO229 := hoa HO229 hb; replace HB := hba hb; clear hb hbox hg; obtain ⟨hcz47_0, hcz47_1, hcz47_2, hcz47_3, hcz47_4, hfz47_0, hfz47_1, hfz47_2, hfz47_3, hfz47_4⟩ := cz5 BK231))
                have n0_ : Aside0 (Kd.R k61 61 (((((w46.setCell ⟨gb231, 0, none⟩ (.int .i64 t222)).setCell ⟨gb231, 1, none⟩ (.int .i64 t223)).setCell ⟨gb231, 2, none⟩ (.int .i64 t224)).setCell ⟨gb231, 3, none⟩ (.int .i64 t225)).setCell ⟨gb231, 4, none⟩ (.bool t226)) w.heap.size (fun _ => True) (.slice Ao43 t204.length co43) t204) := ⟨by (with_reducible repeat (first | apply Kd.R_alloc | apply Kd.R_drewN | apply Kd.R_drew)); exact Kd.R_mono (Kd.R_far (p := ⟨gb231, 4, none⟩) (Kd.R_far (p := ⟨gb231, 3, none⟩) (Kd.R_far (p := ⟨gb231, 2, none⟩) (Kd.R_far (p := ⟨gb231, 1, none⟩) (Kd.R_far (p := ⟨gb231, 0, none⟩) (Kd.R_types HO206.out BK231.out (by decide)) (fun _ hk => hk.2) (.int .i64 t222)) (fun _ hk => hk.2) (.int .i64 t223)) (fun _ hk => hk.2) (.int .i64 t224)) (fun _ hk => hk.2) (.int .i64 t225)) (fun _ hk => hk.2) (.bool t226)) (fun _ hk => trivial)⟩
                have n1_ : Aside0 (Kd.R k78 78 (((((w46.setCell ⟨gb231, 0, none⟩ (.int .i64 t222)).setCell ⟨gb231, 1, none⟩ (.int .i64 t223)).setCell ⟨gb231, 2, none⟩ (.int .i64 t224)).setCell ⟨gb231, 3, none⟩ (.int .i64 t225)).setCell ⟨gb231, 4, none⟩ (.bool t226)) w.heap.size (fun _ => True) (.slice Ao44 y219.length co44) y219) := ⟨by (with_reducible repeat (first | apply Kd.R_alloc | apply Kd.R_drewN | apply Kd.R_drew)); exact Kd.R_mono (Kd.R_far (p := ⟨gb231, 4, none⟩) (Kd.R_far (p := ⟨gb231, 3, none⟩) (Kd.R_far (p := ⟨gb231, 2, none⟩) (Kd.R_far (p := ⟨gb231, 1, none⟩) (Kd.R_far (p := ⟨gb231, 0, none⟩) (Kd.R_types HO221.out BK231.out (by decide)) (fun _ hk => hk.2) (.int .i64 t222)) (fun _ hk => hk.2) (.int .i64 t223)) (fun _ hk => hk.2) (.int .i64 t224)) (fun _ hk => hk.2) (.int .i64 t225)) (fun _ hk => hk.2) (.bool t226)) (fun _ hk => trivial)⟩
                have n2_ : Aside0 (Kd.R (Kd.int .i64) 3 (((((w46.setCell ⟨gb231, 0, none⟩ (.int .i64 t222)).setCell ⟨gb231, 1, none⟩ (.int .i64 t223)).setCell ⟨gb231, 2, none⟩ (.int .i64 t224)).setCell ⟨gb231, 3, none⟩ (.int .i64 t225)).setCell ⟨gb231, 4, none⟩ (.bool t226)) w.heap.size (fun _ => True) v228 t227) := ⟨by (with_reducible repeat (first | apply Kd.R_alloc | apply Kd.R_drewN | apply Kd.R_drew)); exact Kd.R_mono (Kd.R_far (p := ⟨gb231, 4, none⟩) (Kd.R_far (p := ⟨gb231, 3, none⟩) (Kd.R_far (p := ⟨gb231, 2, none⟩) (Kd.R_far (p := ⟨gb231, 1, none⟩) (Kd.R_far (p := ⟨gb231, 0, none⟩) (Kd.R_types HO229.out BK231.out (by decide)) (fun _ hk => hk.2) (.int .i64 t222)) (fun _ hk => hk.2) (.int .i64 t223)) (fun _ hk => hk.2) (.int .i64 t224)) (fun _ hk => hk.2) (.int .i64 t225)) (fun _ hk => hk.2) (.bool t226)) (fun _ hk => trivial)⟩
                have n3_ : Aside0 ((((((w46.setCell ⟨gb231, 0, none⟩ (.int .i64 t222)).setCell ⟨gb231, 1, none⟩ (.int .i64 t223)).setCell ⟨gb231, 2, none⟩ (.int .i64 t224)).setCell ⟨gb231, 3, none⟩ (.int .i64 t225)).setCell ⟨gb231, 4, none⟩ (.bool t226)).heap[gb231]? = some (.cells #[.int .i64 t222, .int .i64 t223, .int .i64 t224, .int .i64 t225, .bool t226] 71 (0, 0))) := ⟨by (with_reducible repeat (first | refine blk_drewN ?_ _ | refine blk_drew ?_ | refine blk_alloc ?_ _)); refine blk_put (cs := #[.int .i64 t222, .int .i64 t223, .int .i64 t224, .int .i64 t225, .bool false]) ?_ 4 _ rfl; (with_reducible repeat (first | refine blk_drewN ?_ _ | refine blk_drew ?_ | refine blk_alloc ?_ _)); refine blk_put (cs := #[.int .i64 t222, .int .i64 t223, .int .i64 t224, .int .i64 0, .bool false]) ?_ 3 _ rfl; (with_reducible repeat (first | refine blk_drewN ?_ _ | refine blk_drew ?_ | refine blk_alloc ?_ _)); refine blk_put (cs := #[.int .i64 t222, .int .i64 t223, .int .i64 0, .int .i64 0, .bool false]) ?_ 2 _ rfl; (with_reducible repeat (first | refine blk_drewN ?_ _ | refine blk_drew ?_ | refine blk_alloc ?_ _)); refine blk_put (cs := #[.int .i64 t222, .int .i64 0, .int .i64 0, .int .i64 0, .bool false]) ?_ 1 _ rfl; (with_reducible repeat (first | refine blk_drewN ?_ _ | refine blk_drew ?_ | refine blk_alloc ?_ _)); refine blk_put (cs := #[.int .i64 0, .int .i64 0, .int .i64 0, .int .i64 0, .bool false]) ?_ 0 _ rfl; (with_reducible repeat (first | refine blk_drewN ?_ _ | refine blk_drew ?_ | refine blk_alloc ?_ _)); exact BK231.out⟩
                have n4_ : Aside0 (Below w.heap.size w (((((w46.setCell ⟨gb231, 0, none⟩ (.int .i64 t222)).setCell ⟨gb231, 1, none⟩ (.int .i64 t223)).setCell ⟨gb231, 2, none⟩ (.int .i64 t224)).setCell ⟨gb231, 3, none⟩ (.int .i64 t225)).setCell ⟨gb231, 4, none⟩ (.bool t226))) := ⟨bel⟩
                (try clear HO206)
                (try clear HO221)
                (try clear HO229)
                (try clear BK231)
                (try clear HB)
                generalize (((((w46.setCell ⟨gb231, 0, none⟩ (.int .i64 t222)).setCell ⟨gb231, 1, none⟩ (.int .i64 t223)).setCell ⟨gb231, 2, none⟩ (.int .i64 t224)).setCell ⟨gb231, 3, none⟩ (.int .i64 t225)).setCell ⟨gb231, 4, none⟩ (.bool t226)) = w48 at n0_ n1_ n2_ n3_ n4_ ⊢
                have HO206 := n0_
                have HO221 := n1_
                have HO229 := n2_
                have BK231 := n3_
                have HB := n4_
                clear n0_ n1_ n2_ n3_ n4_
                replace HO206 := Aside0.mk (Kd.R_drew HO206.out)
                replace HO221 := Aside0.mk (Kd.R_drew HO221.out)
                replace HO229 := Aside0.mk (Kd.R_drew HO229.out)
                replace BK231 := Aside0.mk (blk_drew BK231.out)
                replace HB := Aside0.mk (below_drew1 HB.out)
                refine start_ (n := 14) (S := fun w' => w'.cell? ⟨gb231, 0, none⟩ = some (.int .i64 t222) ∧ w'.cell? ⟨gb231, 1, none⟩ = some (.int .i64 t223) ∧ w'.cell? ⟨gb231, 2, none⟩ = some (.int .i64 t224) ∧ w'.cell? ⟨gb231, 3, none⟩ = some (.int .i64 t225) ∧ w'.cell? ⟨gb231, 4, none⟩ = some (.bool t226)) (ds := []) #[ff, ff, ff, ff, ff, ff, ff, ff, ff, ff, ff, ff, ff, ff] (by kernel_rfl) rfl rfl ⟨(blk_cell BK231.out 0).trans rfl, (blk_cell BK231.out 1).trans rfl, (blk_cell BK231.out 2).trans rfl, (blk_cell BK231.out 3).trans rfl, (blk_cell BK231.out 4).trans rfl⟩ (fun hHeld => ?_); refine with_tabW formelaw38_headP.tab2 formelaw38_headP.bits2 (fun HT_ HW_ => ?_)
                generalize w48.drew = w49 at HO206 HO221 HO229 BK231 HB hHeld ⊢
                refine take_ (i := 1) (N := some 33) (v := ?_) (a' := ?_) #[ff, tt, ff, ff, ff, ff, ff, ff, ff, ff, ff, ff, ff, ff] rfl rfl (take_ofW HT_.out HW_.out (by kernel_rfl)) (fun _ _ _ h => h) (Or.inl ⟨by rfl, ?_⟩) hHeld ?_ ?_
                rotate_left; rintro w' ⟨s0, s1, s2, s3, s4⟩; go_simp; with_reducible rfl; rotate_left; exact apt
                refine join_ (σ := Value × Nat) 4 #[tt, tt, tt, tt, tt, tt, tt, tt, tt, tt, ff, ff, ff, ff] (fun s_ => [(32, .agg #[.int .i64 t232, .int .i64 t233, s_.1]), (34, .agg #[.int .i64 t237, .int .i64 t238, .int .i64 t239, .int .i64 t240]), (35, .tuple #[.agg #[.int .i64 t241, .int .i64 t242, .int .i64 t243, .int .i64 t244, .bool t245], .int .i64 t246, .bool false, .int .i64 t248]), (4, .pointer (some ⟨s_.2, 0, none⟩)), (31, .tuple #[.agg #[.int .i64 t241, .int .i64 t242, .int .i64 t243, .int .i64 t244, .bool t245], .int .i64 t246, .bool false, .int .i64 t248]), (36, .agg #[.int .i64 t241, .int .i64 t242, .int .i64 t243, .int .i64 t244, .bool t245]), (37, .int .i64 t246), (38, .bool false), (39, .int .i64 t248)]) (fun s_ w' => (w'.cell? ⟨gb231, 0, none⟩ = some (.int .i64 t222) ∧ w'.cell? ⟨gb231, 1, none⟩ = some (.int .i64 t223) ∧ w'.cell? ⟨gb231, 2, none⟩ = some (.int .i64 t224) ∧ w'.cell? ⟨gb231, 3, none⟩ = some (.int .i64 t225) ∧ w'.cell? ⟨gb231, 4, none⟩ = some (.bool t226)) ∧ (Kd.R k61 61 w' w.heap.size (fun k_ => some k_ ≠ (s_.1 : Value).ownBlock) (.slice Ao43 t204.length co43) t204) ∧ (Kd.R k78 78 w' w.heap.size (fun _ => True) (.slice Ao44 y219.length co44) y219) ∧ (Kd.R (Kd.int .i64) 3 w' w.heap.size (fun _ => True) v228 t227) ∧ (Kd.R k61 61 w' w.heap.size (fun k_ => some k_ ≠ (.slice Ao43 t204.length co43 : Value).ownBlock) s_.1 t234) ∧ (w'.heap[gb231]? = some (.cells #[.int .i64 t222, .int .i64 t223, .int .i64 t224, .int .i64 t225, .bool t226] 71 (0, 0))) ∧ (w'.heap[s_.2]? = some (.cells #[.int .i64 0, .int .i64 0, .int .i64 0, .int .i64 0, .bool false] 71 (0, 0))) ∧ (w.heap.size ≤ s_.2) ∧ (w.heap.size ≤ s_.2) ∧ (gb231 ≠ s_.2) ∧ (s_.2 ≠ gb231) ∧ (Below w.heap.size w w')) ?_ ?_
                rotate_left
                ·intro hCont
                 refine two_ (i := 0) (j := 9) (Ni := some 32) (Nj := some 4) #[tt, tt, ff, ff, ff, ff, ff, ff, ff, ff, ff, ff, ff, ff] #[ff, tt, ff, ff, ff, ff, ff, ff, ff, tt, ff, ff, ff, ff] rfl rfl rfl rfl (two_of HT_.out (by kernel_rfl)) (by decide) (by decide) (fun K hK => ?_) (fun K hK => ?_)
                 ·skip
                  refine goes_ Try.func96 (by kernel_rfl) rfl #[] (by rfl) rfl rfl gla ?_
                  with_reducible refine (formelaw38_example.calls  t232 t233 t234 _ A6.out).mono ?_
                  rintro e w50 ⟨v235, rfl, ho0, hb⟩
                  refine ⟨_, rfl, ?_⟩
                  have HO236 := Aside0.mk (Kd.R_lower (Kd.R_new' ho0 (Kd.R_lt (krl HO206))) (below_size bel))
                  replace HO206 := Aside0.mk (Kd.R_elder' (krl HO206) (Kd.R_base ho0) hb)
                  replace HO221 := hoa HO221 hb
                  replace HO229 := hoa HO229 hb
                  replace BK231 := bka BK231 hb
                  replace HB := hba hb
                  (try clear hb)
                  (try clear hb2)
                  (try clear hk)
                  (try clear hi)
                  (try clear ho0)
                  refine hK.out _ _ ⟨(blk_cell BK231.out 0).trans rfl, (blk_cell BK231.out 1).trans rfl, (blk_cell BK231.out 2).trans rfl, (blk_cell BK231.out 3).trans rfl, (blk_cell BK231.out 4).trans rfl⟩ (fun hHeld => ?_)
                  clear hK K
                  refine norm_ (a' := ?_) ?_ ?_
                  rotate_left
                  ·show Act.put _ (some 32) _ = _
                   simp only [Act.put, List.setIfInBounds_toArray, List.set_cons_zero, List.set_cons_succ, i64_w, i32_w]
                   rfl
                  refine two_ (i := 2) (j := 9) (Ni := some 34) (Nj := some 4) #[tt, tt, tt, ff, ff, ff, ff, ff, ff, ff, ff, ff, ff, ff] #[tt, tt, ff, ff, ff, ff, ff, ff, ff, tt, ff, ff, ff, ff] rfl rfl rfl rfl (two_of HT_.out (by kernel_rfl)) (by decide) (by decide) (fun K hK => ?_) (fun K hK => ?_)
                  ·skip
                   refine goes_ Try.func97 (by kernel_rfl) rfl #[.int .i64 250, .int .i64 90] (by rfl) rfl rfl gla ?_
                   with_reducible refine (formelaw38_answer.calls 250 90 t237 t238 t239 t240 _ A7.out).mono ?_
                   rintro e w51 ⟨rfl, hb⟩
                   refine ⟨_, rfl, ?_⟩
                   replace HO206 := hoa HO206 hb
                   replace HO221 := hoa HO221 hb
                   replace HO229 := hoa HO229 hb
                   replace HO236 := hoa HO236 hb
                   replace BK231 := bka BK231 hb
                   replace HB := hba hb
                   (try clear hb)
                   (try clear hb2)
                   (try clear hk)
                   (try clear hi)
                   obtain ⟨Ao52, co52, eo52⟩ := Kd.R_slice HO236.out
                   (first | subst eo52 | (injection eo52 with f1_ f2_ f3_; have f4_ := f1_.symm; have f5_ := f3_.symm; clear f1_ f2_ f3_; subst f4_; subst f5_))
                   refine hK.out _ _ ⟨(blk_cell BK231.out 0).trans rfl, (blk_cell BK231.out 1).trans rfl, (blk_cell BK231.out 2).trans rfl, (blk_cell BK231.out 3).trans rfl, (blk_cell BK231.out 4).trans rfl⟩ (fun hHeld => ?_)
                   clear hK K
                   refine norm_ (a' := ?_) ?_ ?_
                   rotate_left
                   ·show Act.put _ (some 34) _ = _
                    simp only [Act.put, List.setIfInBounds_toArray, List.set_cons_zero, List.set_cons_succ, i64_w, i32_w]
                    rfl
                   refine two_ (i := 3) (j := 9) (Ni := some 35) (Nj := some 4) #[tt, tt, tt, tt, ff, ff, ff, ff, ff, ff, ff, ff, ff, ff] #[tt, tt, tt, ff, ff, ff, ff, ff, ff, tt, ff, ff, ff, ff] rfl rfl rfl rfl (two_of HT_.out (by kernel_rfl)) (by decide) (by decide) (fun K hK => ?_) (fun K hK => ?_)
                   ·skip
                    refine goes_ Try.func63 (by kernel_rfl) rfl #[.agg #[.int .i64 t232, .int .i64 t233, .slice Ao52 t234.length co52], .agg #[.int .i64 t222, .int .i64 t223, .int .i64 t224, .int .i64 t225, .bool t226], .agg #[.int .i64 t237, .int .i64 t238, .int .i64 t239, .int .i64 t240]] (by rfl) rfl rfl gla ?_
                    with_reducible refine (contract_Judge.calls t232 t233 _ _ t234 t222 t223 t224 t225 t226 t237 t238 t239 t240 t241 t242 t243 t244 t245 t246 false t248 _ ?side1 ?side2 A8.out).mono ?_
                    (case side1 => repeat (first | exact (Kd.R_reads' HO236.out).2.2 | (with_reducible refine Kd.C_alloc ?_ _) | (with_reducible refine Kd.C_drewN ?_ _) | (with_reducible refine Kd.C_drew ?_)))
                    (case side2 => exact (Kd.R_reads' HO236.out).2.1)
                    rintro e w53 ⟨rfl, hb⟩
                    refine ⟨_, rfl, ?_⟩
                    replace HO206 := hoa HO206 hb
                    replace HO221 := hoa HO221 hb
                    replace HO229 := hoa HO229 hb
                    replace HO236 := hoa HO236 hb
                    replace BK231 := bka BK231 hb
                    replace HB := hba hb
                    (try clear hb)
                    (try clear hb2)
                    (try clear hk)
                    (try clear hi)
                    refine hK.out _ _ ⟨(blk_cell BK231.out 0).trans rfl, (blk_cell BK231.out 1).trans rfl, (blk_cell BK231.out 2).trans rfl, (blk_cell BK231.out 3).trans rfl, (blk_cell BK231.out 4).trans rfl⟩ (fun hHeld => ?_)
                    clear hK K
                    refine norm_ (a' := ?_) ?_ ?_
                    rotate_left
                    ·show Act.put _ (some 35) _ = _
                     simp only [Act.put, List.setIfInBounds_toArray, List.set_cons_zero, List.set_cons_succ, i64_w, i32_w]
                     rfl
                    refine pure_ (i := 4) (N := some 31) (v := ?_) (a' := ?_) #[tt, tt, tt, tt, tt, ff, ff, ff, ff, ff, ff, ff, ff, ff] rfl rfl (any_of HT_.out (by kernel_rfl)) (fun _ _ _ h => h) (Or.inl ⟨by rfl, ?_⟩) ?_ ?_
                    rotate_left; intro w'; go_simp; with_reducible rfl; rotate_left; exact apt
                    refine pure_ (i := 5) (N := some 36) (v := ?_) (a' := ?_) #[tt, tt, tt, tt, tt, tt, ff, ff, ff, ff, ff, ff, ff, ff] rfl rfl (any_of HT_.out (by kernel_rfl)) (fun _ _ _ h => h) (Or.inl ⟨by rfl, ?_⟩) ?_ ?_
                    rotate_left; intro w'; go_simp; with_reducible rfl; rotate_left; exact apt
                    refine pure_ (i := 6) (N := some 37) (v := ?_) (a' := ?_) #[tt, tt, tt, tt, tt, tt, tt, ff, ff, ff, ff, ff, ff, ff] rfl rfl (any_of HT_.out (by kernel_rfl)) (fun _ _ _ h => h) (Or.inl ⟨by rfl, ?_⟩) ?_ ?_
                    rotate_left; intro w'; go_simp; with_reducible rfl; rotate_left; exact apt
                    refine pure_ (i := 7) (N := some 38) (v := ?_) (a' := ?_) #[tt, tt, tt, tt, tt, tt, tt, tt, ff, ff, ff, ff, ff, ff] rfl rfl (any_of HT_.out (by kernel_rfl)) (fun _ _ _ h => h) (Or.inl ⟨by rfl, ?_⟩) ?_ ?_
                    rotate_left; intro w'; go_simp; with_reducible rfl; rotate_left; exact apt
                    refine pure_ (i := 8) (N := some 39) (v := ?_) (a' := ?_) #[tt, tt, tt, tt, tt, tt, tt, tt, tt, ff, ff, ff, ff, ff] rfl rfl (any_of HT_.out (by kernel_rfl)) (fun _ _ _ h => h) (Or.inl ⟨by rfl, ?_⟩) ?_ ?_
                    rotate_left; intro w'; go_simp; with_reducible rfl; rotate_left; exact apt
                    refine one_ (i := 9) (N := some 4) #[tt, tt, tt, tt, tt, tt, tt, tt, tt, tt, ff, ff, ff, ff] rfl rfl (one_of HT_.out (by kernel_rfl)) (by decide) (fun K hK => ?_)
                    refine box_step ?hg (N := 4) ?hd (cs := #[.int .i64 0, .int .i64 0, .int .i64 0, .int .i64 0, .bool false]) (t := 71) ?hr ?_; (case hd => rfl); (case hg => rfl); (case hr => first | (go_simp; done) | (go_simp; rfl))
                    intro gb249 hg w54 hbox hb
                    have BK249 := Aside0.mk (hbox)
                    have GW249 := gwa w hg
                    have GE249 := gwa w hg
                    have NB231_249 := nal BK231 hg
                    have NB249_231 := nag BK231 hg
                    replace HO206 := hoa HO206 hb
                    replace HO221 := hoa HO221 hb
                    replace HO229 := hoa HO229 hb
                    replace HO236 := hoa HO236 hb
                    replace BK231 := bka BK231 hb
                    replace HB := hba hb
                    clear hb hbox hg
                    refine hK.out _ _ ⟨(blk_cell BK231.out 0).trans rfl, (blk_cell BK231.out 1).trans rfl, (blk_cell BK231.out 2).trans rfl, (blk_cell BK231.out 3).trans rfl, (blk_cell BK231.out 4).trans rfl⟩ (fun hHeld => ?_)
                    clear hK K
                    refine norm_ (a' := ?_) ?_ ?_
                    rotate_left
                    ·show Act.put _ (some 4) _ = _
                     simp only [Act.put, List.setIfInBounds_toArray, List.set_cons_zero, List.set_cons_succ, i64_w, i32_w]
                     rfl
                    exact norm_ (by simp only [putAll, Act.put, List.setIfInBounds_toArray, List.set_cons_zero, List.set_cons_succ]) (hCont (.slice Ao52 t234.length co52, gb249) _ ⟨hHeld, (by (with_reducible repeat (first | apply Kd.R_alloc | apply Kd.R_drewN | apply Kd.R_drew)); exact Kd.R_mono HO206.out (fun _ hk => hk.2)), (krl HO221), (krl HO229), (by (with_reducible repeat (first | apply Kd.R_alloc | apply Kd.R_drewN | apply Kd.R_drew)); exact Kd.R_mono HO236.out (fun _ hk => hk.2)), (by (with_reducible repeat (first | refine blk_drewN ?_ _ | refine blk_drew ?_ | refine blk_alloc ?_ _)); exact BK231.out), (by (with_reducible repeat (first | refine blk_drewN ?_ _ | refine blk_drew ?_ | refine blk_alloc ?_ _)); exact BK249.out), GW249.out, GE249.out, NB231_249.out, NB249_231.out, bel⟩)
                   ·skip
                    refine box_step ?hg (N := 4) ?hd (cs := #[.int .i64 0, .int .i64 0, .int .i64 0, .int .i64 0, .bool false]) (t := 71) ?hr ?_; (case hd => rfl); (case hg => rfl); (case hr => first | (go_simp; done) | (go_simp; rfl))
                    intro gb249 hg w52 hbox hb
                    have BK249 := Aside0.mk (hbox)
                    have GW249 := gwa w hg
                    have GE249 := gwa w hg
                    have NB231_249 := nal BK231 hg
                    have NB249_231 := nag BK231 hg
                    replace HO206 := hoa HO206 hb
                    replace HO221 := hoa HO221 hb
                    replace HO229 := hoa HO229 hb
                    replace HO236 := hoa HO236 hb
                    replace BK231 := bka BK231 hb
                    replace HB := hba hb
                    clear hb hbox hg
                    obtain ⟨Ao53, co53, eo53⟩ := Kd.R_slice HO236.out
                    (first | subst eo53 | (injection eo53 with f1_ f2_ f3_; have f4_ := f1_.symm; have f5_ := f3_.symm; clear f1_ f2_ f3_; subst f4_; subst f5_))
                    refine hK.out _ _ ⟨(blk_cell BK231.out 0).trans rfl, (blk_cell BK231.out 1).trans rfl, (blk_cell BK231.out 2).trans rfl, (blk_cell BK231.out 3).trans rfl, (blk_cell BK231.out 4).trans rfl⟩ (fun hHeld => ?_)
                    clear hK K
                    refine norm_ (a' := ?_) ?_ ?_
                    rotate_left
                    ·show Act.put _ (some 4) _ = _
                     simp only [Act.put, List.setIfInBounds_toArray, List.set_cons_zero, List.set_cons_succ, i64_w, i32_w]
                     rfl
                    refine one_ (i := 3) (N := some 35) #[tt, tt, tt, tt, ff, ff, ff, ff, ff, tt, ff, ff, ff, ff] rfl rfl (one_of HT_.out (by kernel_rfl)) (by decide) (fun K hK => ?_)
                    refine goes_ Try.func63 (by kernel_rfl) rfl #[.agg #[.int .i64 t232, .int .i64 t233, .slice Ao53 t234.length co53], .agg #[.int .i64 t222, .int .i64 t223, .int .i64 t224, .int .i64 t225, .bool t226], .agg #[.int .i64 t237, .int .i64 t238, .int .i64 t239, .int .i64 t240]] (by rfl) rfl rfl gla ?_
                    with_reducible refine (contract_Judge.calls t232 t233 _ _ t234 t222 t223 t224 t225 t226 t237 t238 t239 t240 t241 t242 t243 t244 t245 t246 false t248 _ ?side1 ?side2 A8.out).mono ?_
                    (case side1 => repeat (first | exact (Kd.R_reads' HO236.out).2.2 | (with_reducible refine Kd.C_alloc ?_ _) | (with_reducible refine Kd.C_drewN ?_ _) | (with_reducible refine Kd.C_drew ?_)))
                    (case side2 => exact (Kd.R_reads' HO236.out).2.1)
                    rintro e w54 ⟨rfl, hb⟩
                    refine ⟨_, rfl, ?_⟩
                    replace HO206 := hoa HO206 hb
                    replace HO221 := hoa HO221 hb
                    replace HO229 := hoa HO229 hb
                    replace HO236 := hoa HO236 hb
                    replace BK231 := bka BK231 hb
                    replace BK249 := bka BK249 hb
                    replace HB := hba hb
                    (try clear hb)
                    (try clear hb2)
                    (try clear hk)
                    (try clear hi)
                    refine hK.out _ _ ⟨(blk_cell BK231.out 0).trans rfl, (blk_cell BK231.out 1).trans rfl, (blk_cell BK231.out 2).trans rfl, (blk_cell BK231.out 3).trans rfl, (blk_cell BK231.out 4).trans rfl⟩ (fun hHeld => ?_)
                    clear hK K
                    refine norm_ (a' := ?_) ?_ ?_
                    rotate_left
                    ·show Act.put _ (some 35) _ = _
                     simp only [Act.put, List.setIfInBounds_toArray, List.set_cons_zero, List.set_cons_succ, i64_w, i32_w]
                     rfl
                    refine pure_ (i := 4) (N := some 31) (v := ?_) (a' := ?_) #[tt, tt, tt, tt, tt, ff, ff, ff, ff, tt, ff, ff, ff, ff] rfl rfl (any_of HT_.out (by kernel_rfl)) (fun _ _ _ h => h) (Or.inl ⟨by rfl, ?_⟩) ?_ ?_
                    rotate_left; intro w'; go_simp; with_reducible rfl; rotate_left; exact apt
                    refine pure_ (i := 5) (N := some 36) (v := ?_) (a' := ?_) #[tt, tt, tt, tt, tt, tt, ff, ff, ff, tt, ff, ff, ff, ff] rfl rfl (any_of HT_.out (by kernel_rfl)) (fun _ _ _ h => h) (Or.inl ⟨by rfl, ?_⟩) ?_ ?_
                    rotate_left; intro w'; go_simp; with_reducible rfl; rotate_left; exact apt
                    refine pure_ (i := 6) (N := some 37) (v := ?_) (a' := ?_) #[tt, tt, tt, tt, tt, tt, tt, ff, ff, tt, ff, ff, ff, ff] rfl rfl (any_of HT_.out (by kernel_rfl)) (fun _ _ _ h => h) (Or.inl ⟨by rfl, ?_⟩) ?_ ?_
                    rotate_left; intro w'; go_simp; with_reducible rfl; rotate_left; exact apt
                    refine pure_ (i := 7) (N := some 38) (v := ?_) (a' := ?_) #[tt, tt, tt, tt, tt, tt, tt, tt, ff, tt, ff, ff, ff, ff] rfl rfl (any_of HT_.out (by kernel_rfl)) (fun _ _ _ h => h) (Or.inl ⟨by rfl, ?_⟩) ?_ ?_
                    rotate_left; intro w'; go_simp; with_reducible rfl; rotate_left; exact apt
                    refine pure_ (i := 8) (N := some 39) (v := ?_) (a' := ?_) #[tt, tt, tt, tt, tt, tt, tt, tt, tt, tt, ff, ff, ff, ff] rfl rfl (any_of HT_.out (by kernel_rfl)) (fun _ _ _ h => h) (Or.inl ⟨by rfl, ?_⟩) ?_ ?_
                    rotate_left; intro w'; go_simp; with_reducible rfl; rotate_left; exact apt
                    exact norm_ (by simp only [putAll, Act.put, List.setIfInBounds_toArray, List.set_cons_zero, List.set_cons_succ]) (hCont (.slice Ao53 t234.length co53, gb249) _ ⟨hHeld, (by (with_reducible repeat (first | apply Kd.R_alloc | apply Kd.R_drewN | apply Kd.R_drew)); exact Kd.R_mono HO206.out (fun _ hk => hk.2)), (krl HO221), (krl HO229), (by (with_reducible repeat (first | apply Kd.R_alloc | apply Kd.R_drewN | apply Kd.R_drew)); exact Kd.R_mono HO236.out (fun _ hk => hk.2)), (by (with_reducible repeat (first | refine blk_drewN ?_ _ | refine blk_drew ?_ | refine blk_alloc ?_ _)); exact BK231.out), (by (with_reducible repeat (first | refine blk_drewN ?_ _ | refine blk_drew ?_ | refine blk_alloc ?_ _)); exact BK249.out), GW249.out, GE249.out, NB231_249.out, NB249_231.out, bel⟩)
                  ·skip
                   refine box_step ?hg (N := 4) ?hd (cs := #[.int .i64 0, .int .i64 0, .int .i64 0, .int .i64 0, .bool false]) (t := 71) ?hr ?_; (case hd => rfl); (case hg => rfl); (case hr => first | (go_simp; done) | (go_simp; rfl))
                   intro gb249 hg w51 hbox hb
                   have BK249 := Aside0.mk (hbox)
                   have GW249 := gwa w hg
                   have GE249 := gwa w hg
                   have NB231_249 := nal BK231 hg
                   have NB249_231 := nag BK231 hg
                   replace HO206 := hoa HO206 hb
                   replace HO221 := hoa HO221 hb
                   replace HO229 := hoa HO229 hb
                   replace HO236 := hoa HO236 hb
                   replace BK231 := bka BK231 hb
                   replace HB := hba hb
                   clear hb hbox hg
                   refine hK.out _ _ ⟨(blk_cell BK231.out 0).trans rfl, (blk_cell BK231.out 1).trans rfl, (blk_cell BK231.out 2).trans rfl, (blk_cell BK231.out 3).trans rfl, (blk_cell BK231.out 4).trans rfl⟩ (fun hHeld => ?_)
                   clear hK K
                   refine norm_ (a' := ?_) ?_ ?_
                   rotate_left
                   ·show Act.put _ (some 4) _ = _
                    simp only [Act.put, List.setIfInBounds_toArray, List.set_cons_zero, List.set_cons_succ, i64_w, i32_w]
                    rfl
                   refine one_ (i := 2) (N := some 34) #[tt, tt, tt, ff, ff, ff, ff, ff, ff, tt, ff, ff, ff, ff] rfl rfl (one_of HT_.out (by kernel_rfl)) (by decide) (fun K hK => ?_)
                   refine goes_ Try.func97 (by kernel_rfl) rfl #[.int .i64 250, .int .i64 90] (by rfl) rfl rfl gla ?_
                   with_reducible refine (formelaw38_answer.calls 250 90 t237 t238 t239 t240 _ A7.out).mono ?_
                   rintro e w52 ⟨rfl, hb⟩
                   refine ⟨_, rfl, ?_⟩
                   replace HO206 := hoa HO206 hb
                   replace HO221 := hoa HO221 hb
                   replace HO229 := hoa HO229 hb
                   replace HO236 := hoa HO236 hb
                   replace BK231 := bka BK231 hb
                   replace BK249 := bka BK249 hb
                   replace HB := hba hb
                   (try clear hb)
                   (try clear hb2)
                   (try clear hk)
                   (try clear hi)
                   obtain ⟨Ao53, co53, eo53⟩ := Kd.R_slice HO236.out
                   (first | subst eo53 | (injection eo53 with f1_ f2_ f3_; have f4_ := f1_.symm; have f5_ := f3_.symm; clear f1_ f2_ f3_; subst f4_; subst f5_))
                   refine hK.out _ _ ⟨(blk_cell BK231.out 0).trans rfl, (blk_cell BK231.out 1).trans rfl, (blk_cell BK231.out 2).trans rfl, (blk_cell BK231.out 3).trans rfl, (blk_cell BK231.out 4).trans rfl⟩ (fun hHeld => ?_)
                   clear hK K
                   refine norm_ (a' := ?_) ?_ ?_
                   rotate_left
                   ·show Act.put _ (some 34) _ = _
                    simp only [Act.put, List.setIfInBounds_toArray, List.set_cons_zero, List.set_cons_succ, i64_w, i32_w]
                    rfl
                   refine one_ (i := 3) (N := some 35) #[tt, tt, tt, tt, ff, ff, ff, ff, ff, tt, ff, ff, ff, ff] rfl rfl (one_of HT_.out (by kernel_rfl)) (by decide) (fun K hK => ?_)
                   refine goes_ Try.func63 (by kernel_rfl) rfl #[.agg #[.int .i64 t232, .int .i64 t233, .slice Ao53 t234.length co53], .agg #[.int .i64 t222, .int .i64 t223, .int .i64 t224, .int .i64 t225, .bool t226], .agg #[.int .i64 t237, .int .i64 t238, .int .i64 t239, .int .i64 t240]] (by rfl) rfl rfl gla ?_
                   with_reducible refine (contract_Judge.calls t232 t233 _ _ t234 t222 t223 t224 t225 t226 t237 t238 t239 t240 t241 t242 t243 t244 t245 t246 false t248 _ ?side1 ?side2 A8.out).mono ?_
                   (case side1 => repeat (first | exact (Kd.R_reads' HO236.out).2.2 | (with_reducible refine Kd.C_alloc ?_ _) | (with_reducible refine Kd.C_drewN ?_ _) | (with_reducible refine Kd.C_drew ?_)))
                   (case side2 => exact (Kd.R_reads' HO236.out).2.1)
                   rintro e w54 ⟨rfl, hb⟩
                   refine ⟨_, rfl, ?_⟩
                   replace HO206 := hoa HO206 hb
                   replace HO221 := hoa HO221 hb
                   replace HO229 := hoa HO229 hb
                   replace HO236 := hoa HO236 hb
                   replace BK231 := bka BK231 hb
                   replace BK249 := bka BK249 hb
                   replace HB := hba hb
                   (try clear hb)
                   (try clear hb2)
                   (try clear hk)
                   (try clear hi)
                   refine hK.out _ _ ⟨(blk_cell BK231.out 0).trans rfl, (blk_cell BK231.out 1).trans rfl, (blk_cell BK231.out 2).trans rfl, (blk_cell BK231.out 3).trans rfl, (blk_cell BK231.out 4).trans rfl⟩ (fun hHeld => ?_)
                   clear hK K
                   refine norm_ (a' := ?_) ?_ ?_
                   rotate_left
                   ·show Act.put _ (some 35) _ = _
                    simp only [Act.put, List.setIfInBounds_toArray, List.set_cons_zero, List.set_cons_succ, i64_w, i32_w]
                    rfl
                   refine pure_ (i := 4) (N := some 31) (v := ?_) (a' := ?_) #[tt, tt, tt, tt, tt, ff, ff, ff, ff, tt, ff, ff, ff, ff] rfl rfl (any_of HT_.out (by kernel_rfl)) (fun _ _ _ h => h) (Or.inl ⟨by rfl, ?_⟩) ?_ ?_
                   rotate_left; intro w'; go_simp; with_reducible rfl; rotate_left; exact apt
                   refine pure_ (i := 5) (N := some 36) (v := ?_) (a' := ?_) #[tt, tt, tt, tt, tt, tt, ff, ff, ff, tt, ff, ff, ff, ff] rfl rfl (any_of HT_.out (by kernel_rfl)) (fun _ _ _ h => h) (Or.inl ⟨by rfl, ?_⟩) ?_ ?_
                   rotate_left; intro w'; go_simp; with_reducible rfl; rotate_left; exact apt
                   refine pure_ (i := 6) (N := some 37) (v := ?_) (a' := ?_) #[tt, tt, tt, tt, tt, tt, tt, ff, ff, tt, ff, ff, ff, ff] rfl rfl (any_of HT_.out (by kernel_rfl)) (fun _ _ _ h => h) (Or.inl ⟨by rfl, ?_⟩) ?_ ?_
                   rotate_left; intro w'; go_simp; with_reducible rfl; rotate_left; exact apt
                   refine pure_ (i := 7) (N := some 38) (v := ?_) (a' := ?_) #[tt, tt, tt, tt, tt, tt, tt, tt, ff, tt, ff, ff, ff, ff] rfl rfl (any_of HT_.out (by kernel_rfl)) (fun _ _ _ h => h) (Or.inl ⟨by rfl, ?_⟩) ?_ ?_
                   rotate_left; intro w'; go_simp; with_reducible rfl; rotate_left; exact apt
                   refine pure_ (i := 8) (N := some 39) (v := ?_) (a' := ?_) #[tt, tt, tt, tt, tt, tt, tt, tt, tt, tt, ff, ff, ff, ff] rfl rfl (any_of HT_.out (by kernel_rfl)) (fun _ _ _ h => h) (Or.inl ⟨by rfl, ?_⟩) ?_ ?_
                   rotate_left; intro w'; go_simp; with_reducible rfl; rotate_left; exact apt
                   exact norm_ (by simp only [putAll, Act.put, List.setIfInBounds_toArray, List.set_cons_zero, List.set_cons_succ]) (hCont (.slice Ao53 t234.length co53, gb249) _ ⟨hHeld, (by (with_reducible repeat (first | apply Kd.R_alloc | apply Kd.R_drewN | apply Kd.R_drew)); exact Kd.R_mono HO206.out (fun _ hk => hk.2)), (krl HO221), (krl HO229), (by (with_reducible repeat (first | apply Kd.R_alloc | apply Kd.R_drewN | apply Kd.R_drew)); exact Kd.R_mono HO236.out (fun _ hk => hk.2)), (by (with_reducible repeat (first | refine blk_drewN ?_ _ | refine blk_drew ?_ | refine blk_alloc ?_ _)); exact BK231.out), (by (with_reducible repeat (first | refine blk_drewN ?_ _ | refine blk_drew ?_ | refine blk_alloc ?_ _)); exact BK249.out), GW249.out, GE249.out, NB231_249.out, NB249_231.out, bel⟩)
                 ·skip
                  refine box_step ?hg (N := 4) ?hd (cs := #[.int .i64 0, .int .i64 0, .int .i64 0, .int .i64 0, .bool false]) (t := 71) ?hr ?_; (case hd => rfl); (case hg => rfl); (case hr => first | (go_simp; done) | (go_simp; rfl))
                  intro gb249 hg w50 hbox hb
                  have BK249 := Aside0.mk (hbox)
                  have GW249 := gwa w hg
                  have GE249 := gwa w hg
                  have NB231_249 := nal BK231 hg
                  have NB249_231 := nag BK231 hg
                  replace HO206 := hoa HO206 hb
                  replace HO221 := hoa HO221 hb
                  replace HO229 := hoa HO229 hb
                  replace BK231 := bka BK231 hb
                  replace HB := hba hb
                  clear hb hbox hg
                  refine hK.out _ _ ⟨(blk_cell BK231.out 0).trans rfl, (blk_cell BK231.out 1).trans rfl, (blk_cell BK231.out 2).trans rfl, (blk_cell BK231.out 3).trans rfl, (blk_cell BK231.out 4).trans rfl⟩ (fun hHeld => ?_)
                  clear hK K
                  refine norm_ (a' := ?_) ?_ ?_
                  rotate_left
                  ·show Act.put _ (some 4) _ = _
                   simp only [Act.put, List.setIfInBounds_toArray, List.set_cons_zero, List.set_cons_succ, i64_w, i32_w]
                   rfl
                  refine one_ (i := 0) (N := some 32) #[tt, tt, ff, ff, ff, ff, ff, ff, ff, tt, ff, ff, ff, ff] rfl rfl (one_of HT_.out (by kernel_rfl)) (by decide) (fun K hK => ?_)
                  refine goes_ Try.func96 (by kernel_rfl) rfl #[] (by rfl) rfl rfl gla ?_
                  with_reducible refine (formelaw38_example.calls  t232 t233 t234 _ A6.out).mono ?_
                  rintro e w51 ⟨v235, rfl, ho0, hb⟩
                  refine ⟨_, rfl, ?_⟩
                  have HO236 := Aside0.mk (Kd.R_lower (Kd.R_new' ho0 (Kd.R_lt (krl HO206))) (below_size bel))
                  replace HO206 := Aside0.mk (Kd.R_elder' (krl HO206) (Kd.R_base ho0) hb)
                  replace HO221 := hoa HO221 hb
                  replace HO229 := hoa HO229 hb
                  replace BK231 := bka BK231 hb
                  replace BK249 := bka BK249 hb
                  replace HB := hba hb
                  (try clear hb)
                  (try clear hb2)
                  (try clear hk)
                  (try clear hi)
                  (try clear ho0)
                  refine hK.out _ _ ⟨(blk_cell BK231.out 0).trans rfl, (blk_cell BK231.out 1).trans rfl, (blk_cell BK231.out 2).trans rfl, (blk_cell BK231.out 3).trans rfl, (blk_cell BK231.out 4).trans rfl⟩ (fun hHeld => ?_)
                  clear hK K
                  refine norm_ (a' := ?_) ?_ ?_
                  rotate_left
                  ·show Act.put _ (some 32) _ = _
                   simp only [Act.put, List.setIfInBounds_toArray, List.set_cons_zero, List.set_cons_succ, i64_w, i32_w]
                   rfl
                  refine one_ (i := 2) (N := some 34) #[tt, tt, tt, ff, ff, ff, ff, ff, ff, tt, ff, ff, ff, ff] rfl rfl (one_of HT_.out (by kernel_rfl)) (by decide) (fun K hK => ?_)
                  refine goes_ Try.func97 (by kernel_rfl) rfl #[.int .i64 250, .int .i64 90] (by rfl) rfl rfl gla ?_
                  with_reducible refine (formelaw38_answer.calls 250 90 t237 t238 t239 t240 _ A7.out).mono ?_
                  rintro e w52 ⟨rfl, hb⟩
                  refine ⟨_, rfl, ?_⟩
                  replace HO206 := hoa HO206 hb
                  replace HO221 := hoa HO221 hb
                  replace HO229 := hoa HO229 hb
                  replace HO236 := hoa HO236 hb
                  replace BK231 := bka BK231 hb
                  replace BK249 := bka BK249 hb
                  replace HB := hba hb
                  (try clear hb)
                  (try clear hb2)
                  (try clear hk)
                  (try clear hi)
                  obtain ⟨Ao53, co53, eo53⟩ := Kd.R_slice HO236.out
                  (first | subst eo53 | (injection eo53 with f1_ f2_ f3_; have f4_ := f1_.symm; have f5_ := f3_.symm; clear f1_ f2_ f3_; subst f4_; subst f5_))
                  refine hK.out _ _ ⟨(blk_cell BK231.out 0).trans rfl, (blk_cell BK231.out 1).trans rfl, (blk_cell BK231.out 2).trans rfl, (blk_cell BK231.out 3).trans rfl, (blk_cell BK231.out 4).trans rfl⟩ (fun hHeld => ?_)
                  clear hK K
                  refine norm_ (a' := ?_) ?_ ?_
                  rotate_left
                  ·show Act.put _ (some 34) _ = _
                   simp only [Act.put, List.setIfInBounds_toArray, List.set_cons_zero, List.set_cons_succ, i64_w, i32_w]
                   rfl
                  refine one_ (i := 3) (N := some 35) #[tt, tt, tt, tt, ff, ff, ff, ff, ff, tt, ff, ff, ff, ff] rfl rfl (one_of HT_.out (by kernel_rfl)) (by decide) (fun K hK => ?_)
                  refine goes_ Try.func63 (by kernel_rfl) rfl #[.agg #[.int .i64 t232, .int .i64 t233, .slice Ao53 t234.length co53], .agg #[.int .i64 t222, .int .i64 t223, .int .i64 t224, .int .i64 t225, .bool t226], .agg #[.int .i64 t237, .int .i64 t238, .int .i64 t239, .int .i64 t240]] (by rfl) rfl rfl gla ?_
                  with_reducible refine (contract_Judge.calls t232 t233 _ _ t234 t222 t223 t224 t225 t226 t237 t238 t239 t240 t241 t242 t243 t244 t245 t246 false t248 _ ?side1 ?side2 A8.out).mono ?_
                  (case side1 => repeat (first | exact (Kd.R_reads' HO236.out).2.2 | (with_reducible refine Kd.C_alloc ?_ _) | (with_reducible refine Kd.C_drewN ?_ _) | (with_reducible refine Kd.C_drew ?_)))
                  (case side2 => exact (Kd.R_reads' HO236.out).2.1)
                  rintro e w54 ⟨rfl, hb⟩
                  refine ⟨_, rfl, ?_⟩
                  replace HO206 := hoa HO206 hb
                  replace HO221 := hoa HO221 hb
                  replace HO229 := hoa HO229 hb
                  replace HO236 := hoa HO236 hb
                  replace BK231 := bka BK231 hb
                  replace BK249 := bka BK249 hb
                  replace HB := hba hb
                  (try clear hb)
                  (try clear hb2)
                  (try clear hk)
                  (try clear hi)
                  refine hK.out _ _ ⟨(blk_cell BK231.out 0).trans rfl, (blk_cell BK231.out 1).trans rfl, (blk_cell BK231.out 2).trans rfl, (blk_cell BK231.out 3).trans rfl, (blk_cell BK231.out 4).trans rfl⟩ (fun hHeld => ?_)
                  clear hK K
                  refine norm_ (a' := ?_) ?_ ?_
                  rotate_left
                  ·show Act.put _ (some 35) _ = _
                   simp only [Act.put, List.setIfInBounds_toArray, List.set_cons_zero, List.set_cons_succ, i64_w, i32_w]
                   rfl
                  refine pure_ (i := 4) (N := some 31) (v := ?_) (a' := ?_) #[tt, tt, tt, tt, tt, ff, ff, ff, ff, tt, ff, ff, ff, ff] rfl rfl (any_of HT_.out (by kernel_rfl)) (fun _ _ _ h => h) (Or.inl ⟨by rfl, ?_⟩) ?_ ?_
                  rotate_left; intro w'; go_simp; with_reducible rfl; rotate_left; exact apt
                  refine pure_ (i := 5) (N := some 36) (v := ?_) (a' := ?_) #[tt, tt, tt, tt, tt, tt, ff, ff, ff, tt, ff, ff, ff, ff] rfl rfl (any_of HT_.out (by kernel_rfl)) (fun _ _ _ h => h) (Or.inl ⟨by rfl, ?_⟩) ?_ ?_
                  rotate_left; intro w'; go_simp; with_reducible rfl; rotate_left; exact apt
                  refine pure_ (i := 6) (N := some 37) (v := ?_) (a' := ?_) #[tt, tt, tt, tt, tt, tt, tt, ff, ff, tt, ff, ff, ff, ff] rfl rfl (any_of HT_.out (by kernel_rfl)) (fun _ _ _ h => h) (Or.inl ⟨by rfl, ?_⟩) ?_ ?_
                  rotate_left; intro w'; go_simp; with_reducible rfl; rotate_left; exact apt
                  refine pure_ (i := 7) (N := some 38) (v := ?_) (a' := ?_) #[tt, tt, tt, tt, tt, tt, tt, tt, ff, tt, ff, ff, ff, ff] rfl rfl (any_of HT_.out (by kernel_rfl)) (fun _ _ _ h => h) (Or.inl ⟨by rfl, ?_⟩) ?_ ?_
                  rotate_left; intro w'; go_simp; with_reducible rfl; rotate_left; exact apt
                  refine pure_ (i := 8) (N := some 39) (v := ?_) (a' := ?_) #[tt, tt, tt, tt, tt, tt, tt, tt, tt, tt, ff, ff, ff, ff] rfl rfl (any_of HT_.out (by kernel_rfl)) (fun _ _ _ h => h) (Or.inl ⟨by rfl, ?_⟩) ?_ ?_
                  rotate_left; intro w'; go_simp; with_reducible rfl; rotate_left; exact apt
                  exact norm_ (by simp only [putAll, Act.put, List.setIfInBounds_toArray, List.set_cons_zero, List.set_cons_succ]) (hCont (.slice Ao53 t234.length co53, gb249) _ ⟨hHeld, (by (with_reducible repeat (first | apply Kd.R_alloc | apply Kd.R_drewN | apply Kd.R_drew)); exact Kd.R_mono HO206.out (fun _ hk => hk.2)), (krl HO221), (krl HO229), (by (with_reducible repeat (first | apply Kd.R_alloc | apply Kd.R_drewN | apply Kd.R_drew)); exact Kd.R_mono HO236.out (fun _ hk => hk.2)), (by (with_reducible repeat (first | refine blk_drewN ?_ _ | refine blk_drew ?_ | refine blk_alloc ?_ _)); exact BK231.out), (by (with_reducible repeat (first | refine blk_drewN ?_ _ | refine blk_drew ?_ | refine blk_alloc ?_ _)); exact BK249.out), GW249.out, GE249.out, NB231_249.out, NB249_231.out, bel⟩)
                rintro ⟨v235, gb249⟩ w55 ⟨hS_, h0_, h1_, h2_, h3_, h4_, h5_, h6_, h7_, h8_, h9_, h10_⟩
                have n0_ : Aside0 (Kd.R k61 61 w55 w.heap.size (fun k_ => some k_ ≠ (v235 : Value).ownBlock) (.slice Ao43 t204.length co43) t204) := ⟨h0_⟩
                have n1_ : Aside0 (Kd.R k78 78 w55 w.heap.size (fun _ => True) (.slice Ao44 y219.length co44) y219) := ⟨h1_⟩
                have n2_ : Aside0 (Kd.R (Kd.int .i64) 3 w55 w.heap.size (fun _ => True) v228 t227) := ⟨h2_⟩
                have n3_ : Aside0 (Kd.R k61 61 w55 w.heap.size (fun k_ => some k_ ≠ (.slice Ao43 t204.length co43 : Value).ownBlock) v235 t234) := ⟨h3_⟩
                have n4_ : Aside0 (w55.heap[gb231]? = some (.cells #[.int .i64 t222, .int .i64 t223, .int .i64 t224, .int .i64 t225, .bool t226] 71 (0, 0))) := ⟨h4_⟩
                have n5_ : Aside0 (w55.heap[gb249]? = some (.cells #[.int .i64 0, .int .i64 0, .int .i64 0, .int .i64 0, .bool false] 71 (0, 0))) := ⟨h5_⟩
                have n6_ : Aside0 (w.heap.size ≤ gb249) := ⟨h6_⟩
                have n7_ : Aside0 (w.heap.size ≤ gb249) := ⟨h7_⟩
                have n8_ : Aside0 (gb231 ≠ gb249) := ⟨h8_⟩
                have n9_ : Aside0 (gb249 ≠ gb231) := ⟨h9_⟩
                have n10_ : Aside0 (Below w.heap.size w w55) := ⟨h10_⟩
                clear HO206
                clear HO221
                clear HO229
                clear BK231
                clear HB
                clear h0_ h1_ h2_ h3_ h4_ h5_ h6_ h7_ h8_ h9_ h10_
                have HO206 := n0_
                have HO221 := n1_
                have HO229 := n2_
                have HO236 := n3_
                have BK231 := n4_
                have BK249 := n5_
                have GW249 := n6_
                have GE249 := n7_
                have NB231_249 := n8_
                have NB249_231 := n9_
                have HB := n10_
                clear n0_ n1_ n2_ n3_ n4_ n5_ n6_ n7_ n8_ n9_ n10_
                have hHeld : w55.cell? ⟨gb231, 0, none⟩ = some (.int .i64 t222) ∧ w55.cell? ⟨gb231, 1, none⟩ = some (.int .i64 t223) ∧ w55.cell? ⟨gb231, 2, none⟩ = some (.int .i64 t224) ∧ w55.cell? ⟨gb231, 3, none⟩ = some (.int .i64 t225) ∧ w55.cell? ⟨gb231, 4, none⟩ = some (.bool t226) := hS_
                refine norm_ (a' := ?_) ?_ ?_
                rotate_left
                ·simp only [putAll, Act.put, List.setIfInBounds_toArray, List.set_cons_zero, List.set_cons_succ]
                 rfl
                refine one_ (i := 10) (N := none) #[tt, tt, tt, tt, tt, tt, tt, tt, tt, tt, tt, ff, ff, ff] rfl rfl (one_of HT_.out (by kernel_rfl)) (by decide) (fun K hK => ?_)
                have hs56 : w55.cell? ⟨gb249, 0, none⟩ = some (.int .i64 0) := (blk_cell BK249.out 0).trans rfl
                have hfs56 := blk_frozen BK249.out 0
                have hns56_0 := NB231_249.out
                have hms56_0 := NB249_231.out
                have hs57 : w55.cell? ⟨gb249, 1, none⟩ = some (.int .i64 0) := (blk_cell BK249.out 1).trans rfl
                have hfs57 := blk_frozen BK249.out 1
                have hns57_0 := NB231_249.out
                have hms57_0 := NB249_231.out
                have hs58 : w55.cell? ⟨gb249, 2, none⟩ = some (.int .i64 0) := (blk_cell BK249.out 2).trans rfl
                have hfs58 := blk_frozen BK249.out 2
                have hns58_0 := NB231_249.out
                have hms58_0 := NB249_231.out
                have hs59 : w55.cell? ⟨gb249, 3, none⟩ = some (.int .i64 0) := (blk_cell BK249.out 3).trans rfl
                have hfs59 := blk_frozen BK249.out 3
                have hns59_0 := NB231_249.out
                have hms59_0 := NB249_231.out
                have hs60 : w55.cell? ⟨gb249, 4, none⟩ = some (.bool false) := (blk_cell BK249.out 4).trans rfl
                have hfs60 := blk_frozen BK249.out 4
                have hns60_0 := NB231_249.out
                have hms60_0 := NB249_231.out
                refine skip_ (w1 := ?_) (by rfl) rfl ?_ ?_
                rotate_left
                ·go_simp
                 rfl
                refine hK.out _ _ ⟨(cf5 NB231_249.out (hHeld.1)), (cf5 NB231_249.out (hHeld.2.1)), (cf5 NB231_249.out (hHeld.2.2.1)), (cf5 NB231_249.out (hHeld.2.2.2.1)), (cf5 NB231_249.out (hHeld.2.2.2.2))⟩ (fun hHeld => ?_)
                clear hK K
                refine pure_ (i := 11) (N := some 5) (v := ?_) (a' := ?_) #[tt, tt, tt, tt, tt, tt, tt, tt, tt, tt, tt, tt, ff, ff] rfl rfl (any_of HT_.out (by kernel_rfl)) (fun _ _ _ h => h) (Or.inl ⟨by rfl, ?_⟩) ?_ ?_
                rotate_left; intro w'; go_simp; with_reducible rfl; rotate_left; exact apt
                refine pure_ (i := 12) (N := some 6) (v := ?_) (a' := ?_) #[tt, tt, tt, tt, tt, tt, tt, tt, tt, tt, tt, tt, tt, ff] rfl rfl (any_of HT_.out (by kernel_rfl)) (fun _ _ _ h => h) (Or.inl ⟨by rfl, ?_⟩) ?_ ?_
                rotate_left; intro w'; go_simp; with_reducible rfl; rotate_left; exact apt
                refine pure_ (i := 13) (N := some 7) (v := ?_) (a' := ?_) #[tt, tt, tt, tt, tt, tt, tt, tt, tt, tt, tt, tt, tt, tt] rfl rfl (any_of HT_.out (by kernel_rfl)) (fun _ _ _ h => h) (Or.inl ⟨by rfl, ?_⟩) ?_ ?_
                rotate_left; intro w'; go_simp; with_reducible rfl; rotate_left; exact apt
                refine done_ (done_of HT_.out (by kernel_rfl)) ?_
                try go_wp2_with (first | ((with_reducible refine gate_callee (f := 96) rfl ?_); refine goesL_ (some 41) rfl rfl Try.func96 (by kernel_rfl) rfl #[] rfl gla ?_; (with_reducible refine (formelaw38_example.calls  t250 t251 t252 _ A9.out).mono ?_); rintro e w61 ⟨v253, rfl, ho0, hb⟩; refine ⟨_, rfl, ?_⟩; have HO254 := Aside0.mk (Kd.R_lower (Kd.R_new' (Kd.R_new' ho0 (Kd.R_lt (kr5 HO206 BK249))) (Kd.R_lt (kr5 HO236 BK249))) (below_size bel)); replace HO206 := Aside0.mk (Kd.R_elder' (kr5 HO206 BK249) (Kd.R_base ho0) hb); replace HO221 := Aside0.mk (Kd.R_below (kr5 HO221 BK249) hb); replace HO229 := Aside0.mk (Kd.R_below (kr5 HO229 BK249) hb); replace HO236 := Aside0.mk (Kd.R_elder' (kr5 HO236 BK249) (Kd.R_base ho0) hb); replace BK231 := Aside0.mk (blk_below (g := gb231) (o := .cells #[.int .i64 t222, .int .i64 t223, .int .i64 t224, .int .i64 t225, .bool t226] 71 (0, 0)) (bkf BK231) hb); replace BK249 := Aside0.mk (blk_below (g := gb249) (o := .cells #[.int .i64 t241, .int .i64 t242, .int .i64 t243, .int .i64 t244, .bool t245] 71 (0, 0)) (by (with_reducible repeat (first | refine blk_drewN ?_ _ | refine blk_drew ?_ | refine blk_alloc ?_ _)); refine blk_put (cs := #[.int .i64 t241, .int .i64 t242, .int .i64 t243, .int .i64 t244, .bool false]) ?_ 4 _ rfl; (with_reducible repeat (first | refine blk_drewN ?_ _ | refine blk_drew ?_ | refine blk_alloc ?_ _)); refine blk_put (cs := #[.int .i64 t241, .int .i64 t242, .int .i64 t243, .int .i64 0, .bool false]) ?_ 3 _ rfl; (with_reducible repeat (first | refine blk_drewN ?_ _ | refine blk_drew ?_ | refine blk_alloc ?_ _)); refine blk_put (cs := #[.int .i64 t241, .int .i64 t242, .int .i64 0, .int .i64 0, .bool false]) ?_ 2 _ rfl; (with_reducible repeat (first | refine blk_drewN ?_ _ | refine blk_drew ?_ | refine blk_alloc ?_ _)); refine blk_put (cs := #[.int .i64 t241, .int .i64 0, .int .i64 0, .int .i64 0, .bool false]) ?_ 1 _ rfl; (with_reducible repeat (first | refine blk_drewN ?_ _ | refine blk_drew ?_ | refine blk_alloc ?_ _)); refine blk_put (cs := #[.int .i64 0, .int .i64 0, .int .i64 0, .int .i64 0, .bool false]) ?_ 0 _ rfl; (with_reducible repeat (first | refine blk_drewN ?_ _ | refine blk_drew ?_ | refine blk_alloc ?_ _)); exact BK249.out) hb); replace HB := hba hb; (try clear hb); (try clear ho0)) | ((with_reducible refine gate_callee (f := 97) rfl ?_); refine goesL_ (some 43) rfl rfl Try.func97 (by kernel_rfl) rfl #[.int .i64 250, .int .i64 120] rfl gla ?_; (with_reducible refine (formelaw38_answer.calls 250 120 t255 t256 t257 t258 _ A10.out).mono ?_); rintro e w62 ⟨rfl, hb⟩; refine ⟨_, rfl, ?_⟩; replace HO206 := hoa HO206 hb; replace HO221 := hoa HO221 hb; replace HO229 := hoa HO229 hb; replace HO236 := hoa HO236 hb; replace HO254 := hoa HO254 hb; replace BK231 := bka BK231 hb; replace BK249 := bka BK249 hb; replace HB := hba hb; (try clear hb); obtain ⟨Ao63, co63, eo63⟩ := Kd.R_slice HO254.out; subst eo63) | ((with_reducible refine gate_callee (f := 63) rfl ?_); refine goesL_ (some 44) rfl rfl Try.func63 (by kernel_rfl) rfl #[.agg #[.int .i64 t250, .int .i64 t251, .slice Ao63 t252.length co63], .agg #[.int .i64 5, .int .i64 0, .int .i64 0, .int .i64 0, .bool false], .agg #[.int .i64 t255, .int .i64 t256, .int .i64 t257, .int .i64 t258]] rfl gla ?_; (with_reducible refine (contract_Judge.calls t250 t251 _ _ t252 5 0 0 0 false t255 t256 t257 t258 t259 t260 t261 t262 t263 t264 true t266 _ ?side1 ?side2 A11.out).mono ?_); (case side1 => repeat (first | exact (Kd.R_reads' HO254.out).2.2 | (with_reducible refine Kd.C_alloc ?_ _) | (with_reducible refine Kd.C_drewN ?_ _) | (with_reducible refine Kd.C_drew ?_))); (case side2 => exact (Kd.R_reads' HO254.out).2.1); rintro e w64 ⟨rfl, hb⟩; refine ⟨_, rfl, ?_⟩; replace HO206 := hoa HO206 hb; replace HO221 := hoa HO221 hb; replace HO229 := hoa HO229 hb; replace HO236 := hoa HO236 hb; replace HO254 := hoa HO254 hb; replace BK231 := bka BK231 hb; replace BK249 := bka BK249 hb; replace HB := hba hb; (try clear hb)) | ((with_reducible refine gate_dst (N := 8) rfl ?_); (try (refine gate_guard (by rfl) ?_; dsimp only)); refine box_event ?hg (N := 8) ?hd (cs := #[.int .i64 0, .int .i64 0, .int .i64 0, .int .i64 0, .bool false]) (t := 71) ?hr ?_; (case hd => rfl); (case hg => rfl); (case hr => first | (go_simp; done) | (go_simp; rfl)); intro gb267 hg w65 hbox hb; have BK267 := Aside0.mk (hbox); have GW267 := gwa w hg; have GE267 := gwa w hg; have NB231_267 := nal BK231 hg; have NB267_231 := nag BK231 hg; have NB249_267 := nal BK249 hg; have NB267_249 := nag BK249 hg; replace HO206 := hoa HO206 hb; replace HO221 := hoa HO221 hb; replace HO229 := hoa HO229 hb; replace HO236 := hoa HO236 hb; replace HO254 := hoa HO254 hb; replace BK231 := bka BK231 hb; replace BK249 := bka BK249 hb; replace HB := hba hb; clear hb hbox hg; have hnb66 := NB267_231.out; have hnc66 := NB231_267.out; have hnb67 := NB267_249.out; have hnc67 := NB249_267.out; obtain ⟨hcz68_0, hcz68_1, hcz68_2, hcz68_3, hcz68_4, hfz68_0, hfz68_1, hfz68_2, hfz68_3, hfz68_4⟩ := cz5 BK267) | ((with_reducible refine gate_callee (f := 96) rfl ?_); refine goesL_ (some 50) rfl rfl Try.func96 (by kernel_rfl) rfl #[] rfl gla ?_; (with_reducible refine (formelaw38_example.calls  t268 t269 t270 _ A12.out).mono ?_); rintro e w69 ⟨v271, rfl, ho0, hb⟩; refine ⟨_, rfl, ?_⟩; have HO272 := Aside0.mk (Kd.R_lower (Kd.R_new' (Kd.R_new' (Kd.R_new' ho0 (Kd.R_lt (kr5 HO206 BK267))) (Kd.R_lt (kr5 HO236 BK267))) (Kd.R_lt (kr5 HO254 BK267))) (below_size bel)); replace HO206 := Aside0.mk (Kd.R_elder' (kr5 HO206 BK267) (Kd.R_base ho0) hb); replace HO221 := Aside0.mk (Kd.R_below (kr5 HO221 BK267) hb); replace HO229 := Aside0.mk (Kd.R_below (kr5 HO229 BK267) hb); replace HO236 := Aside0.mk (Kd.R_elder' (kr5 HO236 BK267) (Kd.R_base ho0) hb); replace HO254 := Aside0.mk (Kd.R_elder' (kr5 HO254 BK267) (Kd.R_base ho0) hb); replace BK231 := Aside0.mk (blk_below (g := gb231) (o := .cells #[.int .i64 t222, .int .i64 t223, .int .i64 t224, .int .i64 t225, .bool t226] 71 (0, 0)) (bkf BK231) hb); replace BK249 := Aside0.mk (blk_below (g := gb249) (o := .cells #[.int .i64 t241, .int .i64 t242, .int .i64 t243, .int .i64 t244, .bool t245] 71 (0, 0)) (bkf BK249) hb); replace BK267 := Aside0.mk (blk_below (g := gb267) (o := .cells #[.int .i64 t259, .int .i64 t260, .int .i64 t261, .int .i64 t262, .bool t263] 71 (0, 0)) (by (with_reducible repeat (first | refine blk_drewN ?_ _ | refine blk_drew ?_ | refine blk_alloc ?_ _)); refine blk_put (cs := #[.int .i64 t259, .int .i64 t260, .int .i64 t261, .int .i64 t262, .bool false]) ?_ 4 _ rfl; (with_reducible repeat (first | refine blk_drewN ?_ _ | refine blk_drew ?_ | refine blk_alloc ?_ _)); refine blk_put (cs := #[.int .i64 t259, .int .i64 t260, .int .i64 t261, .int .i64 0, .bool false]) ?_ 3 _ rfl; (with_reducible repeat (first | refine blk_drewN ?_ _ | refine blk_drew ?_ | refine blk_alloc ?_ _)); refine blk_put (cs := #[.int .i64 t259, .int .i64 t260, .int .i64 0, .int .i64 0, .bool false]) ?_ 2 _ rfl; (with_reducible repeat (first | refine blk_drewN ?_ _ | refine blk_drew ?_ | refine blk_alloc ?_ _)); refine blk_put (cs := #[.int .i64 t259, .int .i64 0, .int .i64 0, .int .i64 0, .bool false]) ?_ 1 _ rfl; (with_reducible repeat (first | refine blk_drewN ?_ _ | refine blk_drew ?_ | refine blk_alloc ?_ _)); refine blk_put (cs := #[.int .i64 0, .int .i64 0, .int .i64 0, .int .i64 0, .bool false]) ?_ 0 _ rfl; (with_reducible repeat (first | refine blk_drewN ?_ _ | refine blk_drew ?_ | refine blk_alloc ?_ _)); exact BK267.out) hb); replace HB := hba hb; (try clear hb); (try clear ho0); obtain ⟨Ao70, co70, eo70⟩ := Kd.R_slice HO272.out; subst eo70) | ((with_reducible refine gate_callee (f := 59) rfl ?_); refine goesL_ (some 51) rfl rfl Try.func59 (by kernel_rfl) rfl #[.agg #[.int .i64 t268, .int .i64 t269, .slice Ao70 t270.length co70], .int .i64 180] rfl gla ?_; (with_reducible refine (contract_Promised.calls t268 t269 _ _ t270 180 t273 t274 _ ?side1 ?side2 A13.out).mono ?_); (case side1 => repeat (first | exact (Kd.R_reads' HO272.out).2.2 | (with_reducible refine Kd.C_alloc ?_ _) | (with_reducible refine Kd.C_drewN ?_ _) | (with_reducible refine Kd.C_drew ?_))); (case side2 => exact (Kd.R_reads' HO272.out).2.1); rintro e w71 ⟨rfl, hb⟩; refine ⟨_, rfl, ?_⟩; replace HO206 := hoa HO206 hb; replace HO221 := hoa HO221 hb; replace HO229 := hoa HO229 hb; replace HO236 := hoa HO236 hb; replace HO254 := hoa HO254 hb; replace HO272 := hoa HO272 hb; replace BK231 := bka BK231 hb; replace BK249 := bka BK249 hb; replace BK267 := bka BK267 hb; replace HB := hba hb; (try clear hb)) | ((with_reducible refine gate_callee (f := 96) rfl ?_); refine goesL_ (some 55) rfl rfl Try.func96 (by kernel_rfl) rfl #[] rfl gla ?_; (with_reducible refine (formelaw38_example.calls  t275 t276 t277 _ A14.out).mono ?_); rintro e w72 ⟨v278, rfl, ho0, hb⟩; refine ⟨_, rfl, ?_⟩; have HO279 := Aside0.mk (Kd.R_lower (Kd.R_new' (Kd.R_new' (Kd.R_new' (Kd.R_new' ho0 (Kd.R_lt (krl HO206))) (Kd.R_lt (krl HO236))) (Kd.R_lt (krl HO254))) (Kd.R_lt (krl HO272))) (below_size bel)); replace HO206 := Aside0.mk (Kd.R_elder' (krl HO206) (Kd.R_base ho0) hb); replace HO221 := hoa HO221 hb; replace HO229 := hoa HO229 hb; replace HO236 := Aside0.mk (Kd.R_elder' (krl HO236) (Kd.R_base ho0) hb); replace HO254 := Aside0.mk (Kd.R_elder' (krl HO254) (Kd.R_base ho0) hb); replace HO272 := Aside0.mk (Kd.R_elder' (krl HO272) (Kd.R_base ho0) hb); replace BK231 := bka BK231 hb; replace BK249 := bka BK249 hb; replace BK267 := bka BK267 hb; replace HB := hba hb; (try clear hb); (try clear ho0); obtain ⟨Ao73, co73, eo73⟩ := Kd.R_slice HO279.out; subst eo73) | ((with_reducible refine gate_callee (f := 59) rfl ?_); refine goesL_ (some 56) rfl rfl Try.func59 (by kernel_rfl) rfl #[.agg #[.int .i64 t275, .int .i64 t276, .slice Ao73 t277.length co73], .int .i64 1000] rfl gla ?_; (with_reducible refine (contract_Promised.calls t275 t276 _ _ t277 1000 t280 t281 _ ?side1 ?side2 A15.out).mono ?_); (case side1 => repeat (first | exact (Kd.R_reads' HO279.out).2.2 | (with_reducible refine Kd.C_alloc ?_ _) | (with_reducible refine Kd.C_drewN ?_ _) | (with_reducible refine Kd.C_drew ?_))); (case side2 => exact (Kd.R_reads' HO279.out).2.1); rintro e w74 ⟨rfl, hb⟩; refine ⟨_, rfl, ?_⟩; replace HO206 := hoa HO206 hb; replace HO221 := hoa HO221 hb; replace HO229 := hoa HO229 hb; replace HO236 := hoa HO236 hb; replace HO254 := hoa HO254 hb; replace HO272 := hoa HO272 hb; replace HO279 := hoa HO279 hb; replace BK231 := bka BK231 hb; replace BK249 := bka BK249 hb; replace BK267 := bka BK267 hb; replace HB := hba hb; (try clear hb)) | ((with_reducible refine gate_callee (f := 96) rfl ?_); refine goesL_ (some 60) rfl rfl Try.func96 (by kernel_rfl) rfl #[] rfl gla ?_; (with_reducible refine (formelaw38_example.calls  t282 t283 t284 _ A16.out).mono ?_); rintro e w75 ⟨v285, rfl, ho0, hb⟩; refine ⟨_, rfl, ?_⟩; have HO286 := Aside0.mk (Kd.R_lower (Kd.R_new' (Kd.R_new' (Kd.R_new' (Kd.R_new' (Kd.R_new' ho0 (Kd.R_lt (krl HO206))) (Kd.R_lt (krl HO236))) (Kd.R_lt (krl HO254))) (Kd.R_lt (krl HO272))) (Kd.R_lt (krl HO279))) (below_size bel)); replace HO206 := Aside0.mk (Kd.R_elder' (krl HO206) (Kd.R_base ho0) hb); replace HO221 := hoa HO221 hb; replace HO229 := hoa HO229 hb; replace HO236 := Aside0.mk (Kd.R_elder' (krl HO236) (Kd.R_base ho0) hb); replace HO254 := Aside0.mk (Kd.R_elder' (krl HO254) (Kd.R_base ho0) hb); replace HO272 := Aside0.mk (Kd.R_elder' (krl HO272) (Kd.R_base ho0) hb); replace HO279 := Aside0.mk (Kd.R_elder' (krl HO279) (Kd.R_base ho0) hb); replace BK231 := bka BK231 hb; replace BK249 := bka BK249 hb; replace BK267 := bka BK267 hb; replace HB := hba hb; (try clear hb); (try clear ho0)) | ((with_reducible refine gate_callee (f := 97) rfl ?_); refine goesL_ (some 62) rfl rfl Try.func97 (by kernel_rfl) rfl #[.int .i64 250, .int .i64 90] rfl gla ?_; (with_reducible refine (formelaw38_answer.calls 250 90 t287 t288 t289 t290 _ A17.out).mono ?_); rintro e w76 ⟨rfl, hb⟩; refine ⟨_, rfl, ?_⟩; replace HO206 := hoa HO206 hb; replace HO221 := hoa HO221 hb; replace HO229 := hoa HO229 hb; replace HO236 := hoa HO236 hb; replace HO254 := hoa HO254 hb; replace HO272 := hoa HO272 hb; replace HO279 := hoa HO279 hb; replace HO286 := hoa HO286 hb; replace BK231 := bka BK231 hb; replace BK249 := bka BK249 hb; replace BK267 := bka BK267 hb; replace HB := hba hb; (try clear hb); obtain ⟨Ao77, co77, eo77⟩ := Kd.R_slice HO286.out; subst eo77) | ((with_reducible refine gate_callee (f := 63) rfl ?_); refine goesL_ (some 63) rfl rfl Try.func63 (by kernel_rfl) rfl #[.agg #[.int .i64 t282, .int .i64 t283, .slice Ao77 t284.length co77], .agg #[.int .i64 6, .int .i64 0, .int .i64 0, .int .i64 0, .bool false], .agg #[.int .i64 t287, .int .i64 t288, .int .i64 t289, .int .i64 t290]] rfl gla ?_; (with_reducible refine (contract_Judge.calls t282 t283 _ _ t284 6 0 0 0 false t287 t288 t289 t290 t291 t292 t293 t294 t295 t296 t297 t298 _ ?side1 ?side2 A18.out).mono ?_); (case side1 => repeat (first | exact (Kd.R_reads' HO286.out).2.2 | (with_reducible refine Kd.C_alloc ?_ _) | (with_reducible refine Kd.C_drewN ?_ _) | (with_reducible refine Kd.C_drew ?_))); (case side2 => exact (Kd.R_reads' HO286.out).2.1); rintro e w78 ⟨rfl, hb⟩; refine ⟨_, rfl, ?_⟩; replace HO206 := hoa HO206 hb; replace HO221 := hoa HO221 hb; replace HO229 := hoa HO229 hb; replace HO236 := hoa HO236 hb; replace HO254 := hoa HO254 hb; replace HO272 := hoa HO272 hb; replace HO279 := hoa HO279 hb; replace HO286 := hoa HO286 hb; replace BK231 := bka BK231 hb; replace BK249 := bka BK249 hb; replace BK267 := bka BK267 hb; replace HB := hba hb; (try clear hb)) | ((with_reducible refine gate_dst (N := 16) rfl ?_); (try (refine gate_guard (by rfl) ?_; dsimp only)); refine box_event ?hg (N := 16) ?hd (cs := #[.int .i64 0, .int .i64 0, .int .i64 0, .int .i64 0, .bool false]) (t := 71) ?hr ?_; (case hd => rfl); (case hg => rfl); (case hr => first | (go_simp; done) | (go_simp; rfl)); intro gb299 hg w79 hbox hb; have BK299 := Aside0.mk (hbox); have GW299 := gwa w hg; have GE299 := gwa w hg; have NB231_299 := nal BK231 hg; have NB299_231 := nag BK231 hg; have NB249_299 := nal BK249 hg; have NB299_249 := nag BK249 hg; have NB267_299 := nal BK267 hg; have NB299_267 := nag BK267 hg; replace HO206 := hoa HO206 hb; replace HO221 := hoa HO221 hb; replace HO229 := hoa HO229 hb; replace HO236 := hoa HO236 hb; replace HO254 := hoa HO254 hb; replace HO272 := hoa HO272 hb; replace HO279 := hoa HO279 hb; replace HO286 := hoa HO286 hb; replace BK231 := bka BK231 hb; replace BK249 := bka BK249 hb; replace BK267 := bka BK267 hb; replace HB := hba hb; clear hb hbox hg; have hnb80 := NB299_231.out; have hnc80 := NB231_299.out; have hnb81 := NB299_249.out; have hnc81 := NB249_299.out; have hnb82 := NB299_267.out; have hnc82 := NB267_299.out; obtain ⟨hcz83_0, hcz83_1, hcz83_2, hcz83_3, hcz83_4, hfz83_0, hfz83_1, hfz83_2, hfz83_3, hfz83_4⟩ := cz5 BK299) | (go_at_call 96; (with_reducible refine (formelaw38_example.calls  t300 t301 t302 _ A25.out).mono ?_); rintro e w84 ⟨v303, rfl, ho0, hb⟩; have HO304 := Aside0.mk (Kd.R_lower (Kd.R_new' (Kd.R_new' (Kd.R_new' (Kd.R_new' (Kd.R_new' (Kd.R_new' ho0 (Kd.R_lt (kr5 HO206 BK299))) (Kd.R_lt (kr5 HO236 BK299))) (Kd.R_lt (kr5 HO254 BK299))) (Kd.R_lt (kr5 HO272 BK299))) (Kd.R_lt (kr5 HO279 BK299))) (Kd.R_lt (kr5 HO286 BK299))) (below_size bel)); replace HO206 := Aside0.mk (Kd.R_elder' (kr5 HO206 BK299) (Kd.R_base ho0) hb); replace HO221 := Aside0.mk (Kd.R_below (kr5 HO221 BK299) hb); replace HO229 := Aside0.mk (Kd.R_below (kr5 HO229 BK299) hb); replace HO236 := Aside0.mk (Kd.R_elder' (kr5 HO236 BK299) (Kd.R_base ho0) hb); replace HO254 := Aside0.mk (Kd.R_elder' (kr5 HO254 BK299) (Kd.R_base ho0) hb); replace HO272 := Aside0.mk (Kd.R_elder' (kr5 HO272 BK299) (Kd.R_base ho0) hb); replace HO279 := Aside0.mk (Kd.R_elder' (kr5 HO279 BK299) (Kd.R_base ho0) hb); replace HO286 := Aside0.mk (Kd.R_elder' (kr5 HO286 BK299) (Kd.R_base ho0) hb); replace BK231 := Aside0.mk (blk_below (g := gb231) (o := .cells #[.int .i64 t222, .int .i64 t223, .int .i64 t224, .int .i64 t225, .bool t226] 71 (0, 0)) (bkf BK231) hb); replace BK249 := Aside0.mk (blk_below (g := gb249) (o := .cells #[.int .i64 t241, .int .i64 t242, .int .i64 t243, .int .i64 t244, .bool t245] 71 (0, 0)) (bkf BK249) hb); replace BK267 := Aside0.mk (blk_below (g := gb267) (o := .cells #[.int .i64 t259, .int .i64 t260, .int .i64 t261, .int .i64 t262, .bool t263] 71 (0, 0)) (bkf BK267) hb); replace BK299 := Aside0.mk (blk_below (g := gb299) (o := .cells #[.int .i64 t291, .int .i64 t292, .int .i64 t293, .int .i64 t294, .bool t295] 71 (0, 0)) (by (with_reducible repeat (first | refine blk_drewN ?_ _ | refine blk_drew ?_ | refine blk_alloc ?_ _)); refine blk_put (cs := #[.int .i64 t291, .int .i64 t292, .int .i64 t293, .int .i64 t294, .bool false]) ?_ 4 _ rfl; (with_reducible repeat (first | refine blk_drewN ?_ _ | refine blk_drew ?_ | refine blk_alloc ?_ _)); refine blk_put (cs := #[.int .i64 t291, .int .i64 t292, .int .i64 t293, .int .i64 0, .bool false]) ?_ 3 _ rfl; (with_reducible repeat (first | refine blk_drewN ?_ _ | refine blk_drew ?_ | refine blk_alloc ?_ _)); refine blk_put (cs := #[.int .i64 t291, .int .i64 t292, .int .i64 0, .int .i64 0, .bool false]) ?_ 2 _ rfl; (with_reducible repeat (first | refine blk_drewN ?_ _ | refine blk_drew ?_ | refine blk_alloc ?_ _)); refine blk_put (cs := #[.int .i64 t291, .int .i64 0, .int .i64 0, .int .i64 0, .bool false]) ?_ 1 _ rfl; (with_reducible repeat (first | refine blk_drewN ?_ _ | refine blk_drew ?_ | refine blk_alloc ?_ _)); refine blk_put (cs := #[.int .i64 0, .int .i64 0, .int .i64 0, .int .i64 0, .bool false]) ?_ 0 _ rfl; (with_reducible repeat (first | refine blk_drewN ?_ _ | refine blk_drew ?_ | refine blk_alloc ?_ _)); exact BK299.out) hb); replace HB := hba hb; (try clear hb); (try clear ho0); obtain ⟨Ao85, co85, eo85⟩ := Kd.R_slice HO304.out; subst eo85) | (go_at_call 61; (with_reducible refine (contract_Valid.calls t300 t301 _ _ t302 true _ ?side1 ?side2 A26.out).mono ?_); (case side1 => repeat (first | exact (Kd.R_reads' HO304.out).2.2 | (with_reducible refine Kd.C_alloc ?_ _) | (with_reducible refine Kd.C_drewN ?_ _) | (with_reducible refine Kd.C_drew ?_))); (case side2 => exact (Kd.R_reads' HO304.out).2.1); rintro e w86 ⟨rfl, hb⟩; replace HO206 := hoa HO206 hb; replace HO221 := hoa HO221 hb; replace HO229 := hoa HO229 hb; replace HO236 := hoa HO236 hb; replace HO254 := hoa HO254 hb; replace HO272 := hoa HO272 hb; replace HO279 := hoa HO279 hb; replace HO286 := hoa HO286 hb; replace HO304 := hoa HO304 hb; replace BK231 := bka BK231 hb; replace BK249 := bka BK249 hb; replace BK267 := bka BK267 hb; replace BK299 := bka BK299 hb; replace HB := hba hb; (try clear hb); have hnb87 := NB231_249.out; have hnc87 := NB249_231.out; obtain ⟨hcz88_0, hcz88_1, hcz88_2, hcz88_3, hcz88_4, hfz88_0, hfz88_1, hfz88_2, hfz88_3, hfz88_4⟩ := cz5 BK231) | ((with_reducible refine gate_dst (N := 102) rfl ?_); (try (refine gate_guard (by rfl) ?_; dsimp only)); refine Kd.R_lit (Kd.int .i64) _ 3 ?hg (N := 102) ?hd (xs := ([100, 100, 100] : List Int)) (inner := [.int .i64 100, .int .i64 100, .int .i64 100]) (ok := fun _ => True) (okp := fun _ => True) ?hr ?hp (fun _ hk => hk) trivial (Below.refl _ _) (Nat.le_refl _) (by simp) ?_; (case hd => rfl); (case hg => rfl); (case hr => first | (go_simp; done) | (go_simp; rfl)); (case hp => exact (Reps.one (show Kd.M (Kd.int .i64) _ _ _ 100 [.int .i64 100] from rfl) (Reps.one (show Kd.M (Kd.int .i64) _ _ _ 100 [.int .i64 100] from rfl) (Reps.one (show Kd.M (Kd.int .i64) _ _ _ 100 [.int .i64 100] from rfl) (Reps.none _ _))))); intro v307 w89 ho90 hb hg_ hnew_; clear hg_ hnew_; (first | rw [← Ny306.out] at ho90 | (simp only [Int.reduceToNat] at ho90; rw [← Ny306.out] at ho90)); have HO308 := Aside0.mk (Kd.R_lower (Kd.R_new' ho90 (Kd.R_lt (krl HO229))) (below_size bel)); replace HO206 := hoa HO206 hb; replace HO221 := hoa HO221 hb; replace HO229 := Aside0.mk (Kd.R_elder' (krl HO229) (Kd.R_base ho90) hb); replace HO236 := hoa HO236 hb; replace HO254 := hoa HO254 hb; replace HO272 := hoa HO272 hb; replace HO279 := hoa HO279 hb; replace HO286 := hoa HO286 hb; replace HO304 := hoa HO304 hb; replace BK231 := bka BK231 hb; replace BK249 := bka BK249 hb; replace BK267 := bka BK267 hb; replace BK299 := bka BK299 hb; replace HB := hba hb; clear hb ho90; obtain ⟨Ao91, co91, eo91⟩ := Kd.R_slice HO229.out; subst eo91; obtain ⟨Ao92, co92, eo92⟩ := Kd.R_slice HO308.out; subst eo92) | (go_at_call 45; (with_reducible refine (formeref02_SameInts.calls k _ _ t227 _ _ y306 true _ ?side1 ?side2 ?side3 ?side4 A29.out).mono ?_); (case side1 => repeat (first | exact (Kd.R_reads' HO229.out).2.2 | (with_reducible refine Kd.C_alloc ?_ _) | (with_reducible refine Kd.C_drewN ?_ _) | (with_reducible refine Kd.C_drew ?_))); (case side2 => exact (Kd.R_reads' HO229.out).2.1); (case side3 => repeat (first | exact (Kd.R_reads' HO308.out).2.2 | (with_reducible refine Kd.C_alloc ?_ _) | (with_reducible refine Kd.C_drewN ?_ _) | (with_reducible refine Kd.C_drew ?_))); (case side4 => exact (Kd.R_reads' HO308.out).2.1); rintro e w' ⟨rfl, ⟨nd, rfl⟩⟩; obtain ⟨hcz93_0, hcz93_1, hcz93_2, hcz93_3, hcz93_4, hfz93_0, hfz93_1, hfz93_2, hfz93_3, hfz93_4⟩ := cz5 BK249))
                go_ret
                exact ⟨by first | rfl | (simp [errW_none, errW_some] <;> rfl) | (simp [*, errW_none, errW_some] <;> rfl), bel⟩
               ·rw [if_neg c36] at H
                have c36b0 : (t273 == 100) = false := beq_eq_false_iff_ne.mpr c36
                have c36b1 : (t273 != 100) = true := bne_iff_ne.mpr c36
                exact absurd ((Option.some.inj H).trans HTr.out) (by decide)
              ·rw [if_neg c35] at H
               have c35b0 : (t241 == 5 && (t242 == 3 && (t243 == 2 && (t244 == (-10) && (t245))))) = false := by simpa using c35
               (try (have c35b1 : decide (t241 = 5 && (t242 == 3 && (t243 == 2 && (t244 == (-10) && (t245))))) = false := by simpa using c35))
               (try (have c35b2 : (t241 == 5 && (t242 == 3 && (t243 == 2 && (t244 == (-10) && (t245))))) = false := by simpa using c35))
               (try (have c35b3 : ¬ (t241 = 5 && (t242 == 3 && (t243 == 2 && (t244 == (-10) && (t245))))) := by simpa using c35))
               clear c35
               exact absurd ((Option.some.inj H).trans HTr.out) (by decide)
             ·replace c34 := Bool.eq_false_iff.mpr c34
              subst c34
              rw [if_neg (show ¬ (false = true) by decide)] at H
              exact absurd ((Option.some.inj H).trans HTr.out) (by decide)
            ·rw [if_neg c33] at H
             have c33b0 : (t264 == 100) = false := beq_eq_false_iff_ne.mpr c33
             have c33b1 : (t264 != 100) = true := bne_iff_ne.mpr c33
             exact absurd ((Option.some.inj H).trans HTr.out) (by decide)
          ·rw [if_neg c31] at H
           have c31b0 : (t246 == 100) = false := beq_eq_false_iff_ne.mpr c31
           have c31b1 : (t246 != 100) = true := bne_iff_ne.mpr c31
           exact absurd ((Option.some.inj H).trans HTr.out) (by decide)
         ·replace c30 := Bool.eq_false_iff.mpr c30
          subst c30
          rw [if_neg (show ¬ (false = true) by decide)] at H
          exact absurd ((Option.some.inj H).trans HTr.out) (by decide)
        ·rw [if_neg c28] at H
         have c28b0 : (t222 == 5 && (t223 == 2 && (t224 == 1 && (t225 == 20 && (!t226))))) = false := by simpa using c28
         (try (have c28b1 : decide (t222 = 5 && (t223 == 2 && (t224 == 1 && (t225 == 20 && (!t226))))) = false := by simpa using c28))
         (try (have c28b2 : (t222 == 5 && (t223 == 2 && (t224 == 1 && (t225 == 20 && (!t226))))) = false := by simpa using c28))
         (try (have c28b3 : ¬ (t222 = 5 && (t223 == 2 && (t224 == 1 && (t225 == 20 && (!t226))))) := by simpa using c28))
         clear c28
         exact absurd ((Option.some.inj H).trans HTr.out) (by decide)
       ·replace c27 := Bool.eq_false_iff.mpr c27
        subst c27
        rw [if_neg (show ¬ (false = true) by decide)] at H
        exact absurd ((Option.some.inj H).trans HTr.out) (by decide)
      ·rw [if_neg c24] at H
       have c24b0 : (t298 == 1) = false := beq_eq_false_iff_ne.mpr c24
       have c24b1 : (t298 != 1) = true := bne_iff_ne.mpr c24
       exact absurd ((Option.some.inj H).trans HTr.out) (by decide)
     ·rw [if_neg c23] at H
      have c23b0 : (t281 == 0) = false := beq_eq_false_iff_ne.mpr c23
      have c23b1 : (t281 != 0) = true := bne_iff_ne.mpr c23
      exact absurd ((Option.some.inj H).trans HTr.out) (by decide)
    ·rw [if_neg c22] at H
     have c22b0 : (t274 == 0) = false := beq_eq_false_iff_ne.mpr c22
     have c22b1 : (t274 != 0) = true := bne_iff_ne.mpr c22
     exact absurd ((Option.some.inj H).trans HTr.out) (by decide)
   ·rw [if_neg c21] at H
    have c21b0 : (t266 == 0) = false := beq_eq_false_iff_ne.mpr c21
    have c21b1 : (t266 != 0) = true := bne_iff_ne.mpr c21
    exact absurd ((Option.some.inj H).trans HTr.out) (by decide)
  ·rw [if_neg c20] at H
   have c20b0 : (t248 == 0) = false := beq_eq_false_iff_ne.mpr c20
   have c20b1 : (t248 != 0) = true := bne_iff_ne.mpr c20
   exact absurd ((Option.some.inj H).trans HTr.out) (by decide)
 ·rw [if_neg c19] at H
  have c19b0 : (t230 == 0) = false := beq_eq_false_iff_ne.mpr c19
  have c19b1 : (t230 != 0) = true := bne_iff_ne.mpr c19
  exact absurd ((Option.some.inj H).trans HTr.out) (by decide)
end Go.Proofs.Ytjpghfjaloglhaa.PContract

