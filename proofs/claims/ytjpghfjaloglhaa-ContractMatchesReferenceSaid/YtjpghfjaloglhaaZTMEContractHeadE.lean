import Derived.KernelRfl
import Derived.Test.YtjpghfjaloglhaaZTMEContractCPlain
import Derived.Test.YtjpghfjaloglhaaZTMPContractx0
import Derived.Test.YtjpghfjaloglhaaZTMPContractx8
import Derived.Test.YtjpghfjaloglhaaZTMPContractx7
/-
The examples of the chapter on contracts, worked out.
Conditions: none.
-/
namespace Go.Proofs.Ytjpghfjaloglhaa.PContract
open Go.RowKit Go.Proofs.YtjpghfjaloglhaaW.PrintWords
def exL : List SP := [⟨200, 300, ⟨0, 100, 1⟩⟩, ⟨300, 401, ⟨0, 50, 1⟩⟩]
set_option maxRecDepth 100000 in
theorem ex_valid : validB exL = true := by kernel_rfl
set_option maxRecDepth 100000 in
theorem ex_c : cvalidB 5 1 exL = true := by
 unfold cvalidB
 rw [ex_valid]
 kernel_rfl
set_option maxRecDepth 100000 in
theorem ex_250 : promI exL 250 = 100 := by kernel_rfl
set_option maxRecDepth 100000 in
theorem ex_180 : promI exL 180 = 100 := by kernel_rfl
set_option maxRecDepth 100000 in
theorem ex_1000 : promI exL 1000 = 50 := by kernel_rfl
theorem exE1 : contract_Course.f 5 1 exL [⟨5, 250, 1, 100⟩, ⟨5, 250, 1, 120⟩, ⟨5, 250, 1, 120⟩] = some (5, 2, 1, 20, false, [100, 100, 100], 0) := by
 unfold contract_Course.f courseOut
 rw [if_neg (by rw [ex_c]; simp), if_neg (by simp), if_neg (by decide)]
 simp only [runA, List.foldl_cons, List.foldl_nil, List.map_cons, List.map_nil, ex_250]
 rfl
theorem judge_ex (an ch cg la : Int) (fr : Bool) (xh : Int) (h1 : accB an ⟨ch, cg, la, fr⟩ = true) (h2 : ansB 5 250 1 xh = true) (h3 : an = 5) :
  contract_Judge.f 5 1 exL an ch cg la fr 5 250 1 xh = some (5, (enterA ⟨ch, cg, la, fr⟩ 1 xh 100 1).ch, (enterA ⟨ch, cg, la, fr⟩ 1 xh 100 1).cg, (enterA ⟨ch, cg, la, fr⟩ 1 xh 100 1).la, (enterA ⟨ch, cg, la, fr⟩ 1 xh 100 1).fr, 100, decide (100 < xh), 0) := by
 unfold contract_Judge.f judgeOut
 rw [if_pos ⟨ex_c, h1, h2, h3, rfl⟩]
 simp only [ex_250]
theorem exE2 : contract_Judge.f 5 1 exL 5 2 1 20 false 5 250 1 90 = some (5, 3, 2, -10, true, 100, false, 0) := judge_ex 5 2 1 20 false 90 (by decide) (by decide) rfl
theorem exE3 : contract_Judge.f 5 1 exL 5 0 0 0 false 5 250 1 120 = some (5, 1, 1, 20, false, 100, true, 0) := judge_ex 5 0 0 0 false 120 (by decide) (by decide) rfl
theorem prom_ex (w : Int) (h : HOk w) : contract_Promised.f 5 1 exL w = some (promI exL w, 0) := by
 unfold contract_Promised.f contract_Valid.f
 rw [ex_c, isHeight_f, decide_eq_true h, promised_f ex_valid]
 rfl
theorem exE4 : contract_Promised.f 5 1 exL 180 = some (100, 0) := by rw [prom_ex _ (by decide), ex_180]
theorem exE5 : contract_Promised.f 5 1 exL 1000 = some (50, 0) := by rw [prom_ex _ (by decide), ex_1000]
theorem exE6 : contract_Judge.f 5 1 exL 6 0 0 0 false 5 250 1 90 = some (0, 0, 0, 0, false, 0, false, 1) := by
 unfold contract_Judge.f judgeOut
 rw [if_neg (fun h => by have := h.2.2.2.1; omega)]
theorem exE7 : contract_Valid.f 5 1 exL = some true := by
 unfold contract_Valid.f
 rw [ex_c]
theorem exE0 : formelaw38_example.f = some (5, 1, exL) := rfl
end Go.Proofs.Ytjpghfjaloglhaa.PContract

