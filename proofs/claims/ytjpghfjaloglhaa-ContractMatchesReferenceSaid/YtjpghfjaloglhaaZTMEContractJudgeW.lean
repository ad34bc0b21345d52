import Derived.Test.YtjpghfjaloglhaaZTMZip
import Derived.WalkKit
import Derived.Lib.Hide
import Derived.IntWalk
import Derived.Test.YtjpghfjaloglhaaZTMEContractEnter
import Derived.Test.YtjpghfjaloglhaaZTMPContractx0
import Derived.Test.YtjpghfjaloglhaaZTMPContractx8
import Derived.Test.YtjpghfjaloglhaaZTMPContractx7
/-
contract.Judge returns the account after an answer, the height of the box and whether it is cut: at every contract, account and answer.
Conditions: none.
-/
namespace Go.Proofs.Ytjpghfjaloglhaa.PContract
open Go.RowKit Go.Proofs.YtjpghfjaloglhaaW.PrintWords Go.Proofs.YtjpghfjaloglhaaW.PrintLast Go.Proofs.YtjpghfjaloglhaaW.PrintMore Go.Proofs.Ytjpghfjaloglhaa.Zip
set_option linter.unusedVariables false
set_option linter.unusedSimpArgs false
theorem results_cttt {P : Program} {fn : Func} {p u v x : Tmp} {ty : TypeId} (h : fn.results = #[.cell p ty, .tmp u, .tmp v, .tmp x]) (tmps : Array Value) (w : World) (g : Nat) (t : TypeId) (cs : Array Value) (fr : Nat × Nat) (d : TypeDesc)
    (hp : tmps.getD p undef = .pointer (some ⟨g, 0, none⟩)) (hg : w.heap[g]? = some (.cells cs t fr))
    (hu : P.underlying ty = some d) (hd : (match d with | .struct _ | .array _ _ => true | _ => false) = true) (hi : (P.info? ty).map (·.size) = some cs.size) :
    (results fn tmps).run P w = .ok (.tuple #[.agg cs, tmps.getD u undef, tmps.getD v undef, tmps.getD x undef]) w := by
  have hp' : tmps[p]?.getD undef = .pointer (some ⟨g, 0, none⟩) := by simpa using hp
  simp [results, h, hp', asAddr, run_loadVar_row w g t ty cs fr d hg hu hd hi]
def JudgePost (w : World) (n : Int) (b : Acc) (h : Int) (cut : Bool) (er : Int) (e : Ending) (w' : World) : Prop :=
  e = .returned (.tuple #[.agg (b.cells n), .int .i64 h, .bool cut, .int .i64 er]) ∧ Below w.heap.size w w'
set_option maxHeartbeats 1000000 in
set_option maxRecDepth 100000 in
theorem judge_valid (n m : Int) (A : Option Addr) (c : Nat) (l : List SP) (an ch cg la : Int) (fr : Bool) (xn xw xk xh : Int) (w : World) (hr : Kd.C k61 w A l.length l) (hc : l.length ≤ c) (hv : contract_Valid.f n m l = some false) :
    Calls Try.prog 63 #[.agg #[(.int .i64 n), (.int .i64 m), (.slice A l.length c)], .agg #[(.int .i64 an), (.int .i64 ch), (.int .i64 cg), (.int .i64 la), (.bool fr)], .agg #[(.int .i64 xn), (.int .i64 xw), (.int .i64 xk), (.int .i64 xh)]] w (JudgePost w 0 ⟨0, 0, 0, false⟩ 0 false 1) := by
  have hund : undef = Value.tuple #[] := rfl
  have hu1 := Try.underlying69
  have hu2 := Try.underlying71
  have hu3 := Try.underlying78
  have hc0 := blk_alloc (blk_alloc (blk_alloc (blk_new w (.cells #[(.int .i64 n), (.int .i64 m), (.slice A l.length c)] 69)) (.cells #[(.int .i64 an), (.int .i64 ch), (.int .i64 cg), (.int .i64 la), (.bool fr)] 71)) (.cells #[(.int .i64 xn), (.int .i64 xw), (.int .i64 xk), (.int .i64 xh)] 78)) (.cells #[(.int .i64 0), (.int .i64 0), (.int .i64 0), (.int .i64 0), (.bool false)] 71)
  have ha0 := blk_alloc (blk_alloc (blk_new (w.alloc (.cells #[(.int .i64 n), (.int .i64 m), (.slice A l.length c)] 69)) (.cells #[(.int .i64 an), (.int .i64 ch), (.int .i64 cg), (.int .i64 la), (.bool fr)] 71)) (.cells #[(.int .i64 xn), (.int .i64 xw), (.int .i64 xk), (.int .i64 xh)] 78)) (.cells #[(.int .i64 0), (.int .i64 0), (.int .i64 0), (.int .i64 0), (.bool false)] 71)
  have hx0 := blk_alloc (blk_new ((w.alloc (.cells #[(.int .i64 n), (.int .i64 m), (.slice A l.length c)] 69)).alloc (.cells #[(.int .i64 an), (.int .i64 ch), (.int .i64 cg), (.int .i64 la), (.bool fr)] 71)) (.cells #[(.int .i64 xn), (.int .i64 xw), (.int .i64 xk), (.int .i64 xh)] 78)) (.cells #[(.int .i64 0), (.int .i64 0), (.int .i64 0), (.int .i64 0), (.bool false)] 71)
  have hr0 := blk_new (((w.alloc (.cells #[(.int .i64 n), (.int .i64 m), (.slice A l.length c)] 69)).alloc (.cells #[(.int .i64 an), (.int .i64 ch), (.int .i64 cg), (.int .i64 la), (.bool fr)] 71)).alloc (.cells #[(.int .i64 xn), (.int .i64 xw), (.int .i64 xk), (.int .i64 xh)] 78)) (.cells #[(.int .i64 0), (.int .i64 0), (.int .i64 0), (.int .i64 0), (.bool false)] 71)
  simp only [World.size_alloc, Nat.add_assoc, Nat.reduceAdd] at ha0 hx0 hr0
  have B0 := ((((Below.refl w.heap.size w).alloc (Nat.le_refl _) (.cells #[(.int .i64 n), (.int .i64 m), (.slice A l.length c)] 69)).alloc (by simp) (.cells #[(.int .i64 an), (.int .i64 ch), (.int .i64 cg), (.int .i64 la), (.bool fr)] 71)).alloc (by simp; omega) (.cells #[(.int .i64 xn), (.int .i64 xw), (.int .i64 xk), (.int .i64 xh)] 78)).alloc (by simp; omega) (.cells #[(.int .i64 0), (.int .i64 0), (.int .i64 0), (.int .i64 0), (.bool false)] 71)
  go_enter Try.func63, Try.ntmps63
  go_wp2_with (first
    | (go_at_call 61; (with_reducible refine (contract_Valid.calls n m _ _ l false _ (Kd.C_below hr B0) hc hv).mono ?_); rintro e w1 ⟨rfl, hb1⟩; have hc1 := blk_below hc0 hb1; have ha1 := blk_below ha0 hb1; have hx1 := blk_below hx0 hb1; have hr1 := blk_below hr0 hb1; obtain ⟨c10, c11, c12, -⟩ := cz3 ⟨hc1⟩; obtain ⟨a10, a11, a12, a13, a14, -⟩ := cz5 ⟨ha1⟩; obtain ⟨x10, x11, x12, x13, -⟩ := cz4 ⟨hx1⟩; obtain ⟨r10, r11, r12, r13, r14, f10, f11, f12, f13, f14⟩ := cz5 ⟨hr1⟩; have B1 := B0.trans (hb1.mono B0.size); clear hc0 ha0 hx0 hr0))
  refine bodyPost_ret (results_cttt rfl _ _ (w.heap.size + 3) 71 #[(.int .i64 0), (.int .i64 0), (.int .i64 0), (.int .i64 0), (.bool false)] (0, 0) _ rfl ?_ Try.underlying71 rfl (by kernel_rfl)) rfl ⟨rfl, ?_⟩
  · (with_reducible repeat (first | refine blk_drewN ?_ _ | refine blk_drew ?_))
    exact blk_put (blk_put (blk_put (blk_put (blk_put hr1 0 _ rfl) 1 _ rfl) 2 _ rfl) 3 _ rfl) 4 _ rfl
  · repeat (first | exact B1 | apply pw_below_drewN | apply below_drew1 | refine Below.setCell ?_ (by show _ ≤ w.heap.size + 3; omega) _)
set_option maxHeartbeats 1000000 in
set_option maxRecDepth 100000 in
theorem judge_account (n m : Int) (A : Option Addr) (c : Nat) (l : List SP) (an ch cg la : Int) (fr : Bool) (xn xw xk xh : Int) (w : World) (hr : Kd.C k61 w A l.length l) (hc : l.length ≤ c) (hv : contract_Valid.f n m l = some true) (hacc : contract_rightAccount.f an ch cg la fr = some false) :
    Calls Try.prog 63 #[.agg #[(.int .i64 n), (.int .i64 m), (.slice A l.length c)], .agg #[(.int .i64 an), (.int .i64 ch), (.int .i64 cg), (.int .i64 la), (.bool fr)], .agg #[(.int .i64 xn), (.int .i64 xw), (.int .i64 xk), (.int .i64 xh)]] w (JudgePost w 0 ⟨0, 0, 0, false⟩ 0 false 1) := by
  have hund : undef = Value.tuple #[] := rfl
  have hu1 := Try.underlying69
  have hu2 := Try.underlying71
  have hu3 := Try.underlying78
  have hc0 := blk_alloc (blk_alloc (blk_alloc (blk_new w (.cells #[(.int .i64 n), (.int .i64 m), (.slice A l.length c)] 69)) (.cells #[(.int .i64 an), (.int .i64 ch), (.int .i64 cg), (.int .i64 la), (.bool fr)] 71)) (.cells #[(.int .i64 xn), (.int .i64 xw), (.int .i64 xk), (.int .i64 xh)] 78)) (.cells #[(.int .i64 0), (.int .i64 0), (.int .i64 0), (.int .i64 0), (.bool false)] 71)
  have ha0 := blk_alloc (blk_alloc (blk_new (w.alloc (.cells #[(.int .i64 n), (.int .i64 m), (.slice A l.length c)] 69)) (.cells #[(.int .i64 an), (.int .i64 ch), (.int .i64 cg), (.int .i64 la), (.bool fr)] 71)) (.cells #[(.int .i64 xn), (.int .i64 xw), (.int .i64 xk), (.int .i64 xh)] 78)) (.cells #[(.int .i64 0), (.int .i64 0), (.int .i64 0), (.int .i64 0), (.bool false)] 71)
  have hx0 := blk_alloc (blk_new ((w.alloc (.cells #[(.int .i64 n), (.int .i64 m), (.slice A l.length c)] 69)).alloc (.cells #[(.int .i64 an), (.int .i64 ch), (.int .i64 cg), (.int .i64 la), (.bool fr)] 71)) (.cells #[(.int .i64 xn), (.int .i64 xw), (.int .i64 xk), (.int .i64 xh)] 78)) (.cells #[(.int .i64 0), (.int .i64 0), (.int .i64 0), (.int .i64 0), (.bool false)] 71)
  have hr0 := blk_new (((w.alloc (.cells #[(.int .i64 n), (.int .i64 m), (.slice A l.length c)] 69)).alloc (.cells #[(.int .i64 an), (.int .i64 ch), (.int .i64 cg), (.int .i64 la), (.bool fr)] 71)).alloc (.cells #[(.int .i64 xn), (.int .i64 xw), (.int .i64 xk), (.int .i64 xh)] 78)) (.cells #[(.int .i64 0), (.int .i64 0), (.int .i64 0), (.int .i64 0), (.bool false)] 71)
  simp only [World.size_alloc, Nat.add_assoc, Nat.reduceAdd] at ha0 hx0 hr0
  have B0 := ((((Below.refl w.heap.size w).alloc (Nat.le_refl _) (.cells #[(.int .i64 n), (.int .i64 m), (.slice A l.length c)] 69)).alloc (by simp) (.cells #[(.int .i64 an), (.int .i64 ch), (.int .i64 cg), (.int .i64 la), (.bool fr)] 71)).alloc (by simp; omega) (.cells #[(.int .i64 xn), (.int .i64 xw), (.int .i64 xk), (.int .i64 xh)] 78)).alloc (by simp; omega) (.cells #[(.int .i64 0), (.int .i64 0), (.int .i64 0), (.int .i64 0), (.bool false)] 71)
  go_enter Try.func63, Try.ntmps63
  go_wp2_with (first
    | (go_at_call 61; (with_reducible refine (contract_Valid.calls n m _ _ l true _ (Kd.C_below hr B0) hc hv).mono ?_); rintro e w1 ⟨rfl, hb1⟩; have hc1 := blk_below hc0 hb1; have ha1 := blk_below ha0 hb1; have hx1 := blk_below hx0 hb1; have hr1 := blk_below hr0 hb1; obtain ⟨c10, c11, c12, -⟩ := cz3 ⟨hc1⟩; obtain ⟨a10, a11, a12, a13, a14, -⟩ := cz5 ⟨ha1⟩; obtain ⟨x10, x11, x12, x13, -⟩ := cz4 ⟨hx1⟩; obtain ⟨r10, r11, r12, r13, r14, f10, f11, f12, f13, f14⟩ := cz5 ⟨hr1⟩; have B1 := B0.trans (hb1.mono B0.size); clear hc0 ha0 hx0 hr0)
    | (go_at_call 107; (with_reducible refine (contract_rightAccount.calls an ch cg la fr false _ hacc).mono ?_); rintro e w2 ⟨rfl, hb2⟩; have hc2 := blk_below hc1 hb2; have ha2 := blk_below ha1 hb2; have hx2 := blk_below hx1 hb2; have hr2 := blk_below hr1 hb2; obtain ⟨c20, c21, c22, -⟩ := cz3 ⟨hc2⟩; obtain ⟨a20, a21, a22, a23, a24, -⟩ := cz5 ⟨ha2⟩; obtain ⟨x20, x21, x22, x23, -⟩ := cz4 ⟨hx2⟩; obtain ⟨r20, r21, r22, r23, r24, f20, f21, f22, f23, f24⟩ := cz5 ⟨hr2⟩; have B2 := B1.trans (hb2.mono B1.size); clear hc1 ha1 hx1 hr1))
  refine bodyPost_ret (results_cttt rfl _ _ (w.heap.size + 3) 71 #[(.int .i64 0), (.int .i64 0), (.int .i64 0), (.int .i64 0), (.bool false)] (0, 0) _ rfl ?_ Try.underlying71 rfl (by kernel_rfl)) rfl ⟨rfl, ?_⟩
  · (with_reducible repeat (first | refine blk_drewN ?_ _ | refine blk_drew ?_))
    exact blk_put (blk_put (blk_put (blk_put (blk_put hr2 0 _ rfl) 1 _ rfl) 2 _ rfl) 3 _ rfl) 4 _ rfl
  · repeat (first | exact B2 | apply pw_below_drewN | apply below_drew1 | refine Below.setCell ?_ (by show _ ≤ w.heap.size + 3; omega) _)
set_option maxHeartbeats 1000000 in
set_option maxRecDepth 100000 in
theorem judge_answer (n m : Int) (A : Option Addr) (c : Nat) (l : List SP) (an ch cg la : Int) (fr : Bool) (xn xw xk xh : Int) (w : World) (hr : Kd.C k61 w A l.length l) (hc : l.length ≤ c) (hv : contract_Valid.f n m l = some true) (hacc : contract_rightAccount.f an ch cg la fr = some true) (hans : contract_rightAnswer.f 5 xn xw xk xh = some false) :
    Calls Try.prog 63 #[.agg #[(.int .i64 n), (.int .i64 m), (.slice A l.length c)], .agg #[(.int .i64 an), (.int .i64 ch), (.int .i64 cg), (.int .i64 la), (.bool fr)], .agg #[(.int .i64 xn), (.int .i64 xw), (.int .i64 xk), (.int .i64 xh)]] w (JudgePost w 0 ⟨0, 0, 0, false⟩ 0 false 1) := by
  have hund : undef = Value.tuple #[] := rfl
  have hu1 := Try.underlying69
  have hu2 := Try.underlying71
  have hu3 := Try.underlying78
  have hc0 := blk_alloc (blk_alloc (blk_alloc (blk_new w (.cells #[(.int .i64 n), (.int .i64 m), (.slice A l.length c)] 69)) (.cells #[(.int .i64 an), (.int .i64 ch), (.int .i64 cg), (.int .i64 la), (.bool fr)] 71)) (.cells #[(.int .i64 xn), (.int .i64 xw), (.int .i64 xk), (.int .i64 xh)] 78)) (.cells #[(.int .i64 0), (.int .i64 0), (.int .i64 0), (.int .i64 0), (.bool false)] 71)
  have ha0 := blk_alloc (blk_alloc (blk_new (w.alloc (.cells #[(.int .i64 n), (.int .i64 m), (.slice A l.length c)] 69)) (.cells #[(.int .i64 an), (.int .i64 ch), (.int .i64 cg), (.int .i64 la), (.bool fr)] 71)) (.cells #[(.int .i64 xn), (.int .i64 xw), (.int .i64 xk), (.int .i64 xh)] 78)) (.cells #[(.int .i64 0), (.int .i64 0), (.int .i64 0), (.int .i64 0), (.bool false)] 71)
  have hx0 := blk_alloc (blk_new ((w.alloc (.cells #[(.int .i64 n), (.int .i64 m), (.slice A l.length c)] 69)).alloc (.cells #[(.int .i64 an), (.int .i64 ch), (.int .i64 cg), (.int .i64 la), (.bool fr)] 71)) (.cells #[(.int .i64 xn), (.int .i64 xw), (.int .i64 xk), (.int .i64 xh)] 78)) (.cells #[(.int .i64 0), (.int .i64 0), (.int .i64 0), (.int .i64 0), (.bool false)] 71)
  have hr0 := blk_new (((w.alloc (.cells #[(.int .i64 n), (.int .i64 m), (.slice A l.length c)] 69)).alloc (.cells #[(.int .i64 an), (.int .i64 ch), (.int .i64 cg), (.int .i64 la), (.bool fr)] 71)).alloc (.cells #[(.int .i64 xn), (.int .i64 xw), (.int .i64 xk), (.int .i64 xh)] 78)) (.cells #[(.int .i64 0), (.int .i64 0), (.int .i64 0), (.int .i64 0), (.bool false)] 71)
  simp only [World.size_alloc, Nat.add_assoc, Nat.reduceAdd] at ha0 hx0 hr0
  have B0 := ((((Below.refl w.heap.size w).alloc (Nat.le_refl _) (.cells #[(.int .i64 n), (.int .i64 m), (.slice A l.length c)] 69)).alloc (by simp) (.cells #[(.int .i64 an), (.int .i64 ch), (.int .i64 cg), (.int .i64 la), (.bool fr)] 71)).alloc (by simp; omega) (.cells #[(.int .i64 xn), (.int .i64 xw), (.int .i64 xk), (.int .i64 xh)] 78)).alloc (by simp; omega) (.cells #[(.int .i64 0), (.int .i64 0), (.int .i64 0), (.int .i64 0), (.bool false)] 71)
  go_enter Try.func63, Try.ntmps63
  go_wp2_with (first
    | (go_at_call 61; (with_reducible refine (contract_Valid.calls n m _ _ l true _ (Kd.C_below hr B0) hc hv).mono ?_); rintro e w1 ⟨rfl, hb1⟩; have hc1 := blk_below hc0 hb1; have ha1 := blk_below ha0 hb1; have hx1 := blk_below hx0 hb1; have hr1 := blk_below hr0 hb1; obtain ⟨c10, c11, c12, -⟩ := cz3 ⟨hc1⟩; obtain ⟨a10, a11, a12, a13, a14, -⟩ := cz5 ⟨ha1⟩; obtain ⟨x10, x11, x12, x13, -⟩ := cz4 ⟨hx1⟩; obtain ⟨r10, r11, r12, r13, r14, f10, f11, f12, f13, f14⟩ := cz5 ⟨hr1⟩; have B1 := B0.trans (hb1.mono B0.size); clear hc0 ha0 hx0 hr0)
    | (go_at_call 107; (with_reducible refine (contract_rightAccount.calls an ch cg la fr true _ hacc).mono ?_); rintro e w2 ⟨rfl, hb2⟩; have hc2 := blk_below hc1 hb2; have ha2 := blk_below ha1 hb2; have hx2 := blk_below hx1 hb2; have hr2 := blk_below hr1 hb2; obtain ⟨c20, c21, c22, -⟩ := cz3 ⟨hc2⟩; obtain ⟨a20, a21, a22, a23, a24, -⟩ := cz5 ⟨ha2⟩; obtain ⟨x20, x21, x22, x23, -⟩ := cz4 ⟨hx2⟩; obtain ⟨r20, r21, r22, r23, r24, f20, f21, f22, f23, f24⟩ := cz5 ⟨hr2⟩; have B2 := B1.trans (hb2.mono B1.size); clear hc1 ha1 hx1 hr1)
    | (go_at_call 108; (with_reducible refine (contract_rightAnswer.calls 5 xn xw xk xh false _ hans).mono ?_); rintro e w3 ⟨rfl, hb3⟩; have hc3 := blk_below hc2 hb3; have ha3 := blk_below ha2 hb3; have hx3 := blk_below hx2 hb3; have hr3 := blk_below hr2 hb3; obtain ⟨c30, c31, c32, -⟩ := cz3 ⟨hc3⟩; obtain ⟨a30, a31, a32, a33, a34, -⟩ := cz5 ⟨ha3⟩; obtain ⟨x30, x31, x32, x33, -⟩ := cz4 ⟨hx3⟩; obtain ⟨r30, r31, r32, r33, r34, f30, f31, f32, f33, f34⟩ := cz5 ⟨hr3⟩; have B3 := B2.trans (hb3.mono B2.size); clear hc2 ha2 hx2 hr2))
  refine bodyPost_ret (results_cttt rfl _ _ (w.heap.size + 3) 71 #[(.int .i64 0), (.int .i64 0), (.int .i64 0), (.int .i64 0), (.bool false)] (0, 0) _ rfl ?_ Try.underlying71 rfl (by kernel_rfl)) rfl ⟨rfl, ?_⟩
  · (with_reducible repeat (first | refine blk_drewN ?_ _ | refine blk_drew ?_))
    exact blk_put (blk_put (blk_put (blk_put (blk_put hr3 0 _ rfl) 1 _ rfl) 2 _ rfl) 3 _ rfl) 4 _ rfl
  · repeat (first | exact B3 | apply pw_below_drewN | apply below_drew1 | refine Below.setCell ?_ (by show _ ≤ w.heap.size + 3; omega) _)
set_option maxHeartbeats 1000000 in
set_option maxRecDepth 100000 in
theorem judge_node (n m : Int) (A : Option Addr) (c : Nat) (l : List SP) (an ch cg la : Int) (fr : Bool) (xn xw xk xh : Int) (w : World) (hr : Kd.C k61 w A l.length l) (hc : l.length ≤ c) (hv : contract_Valid.f n m l = some true) (hacc : contract_rightAccount.f an ch cg la fr = some true) (hans : contract_rightAnswer.f 5 xn xw xk xh = some true) (hn : an ≠ n) :
    Calls Try.prog 63 #[.agg #[(.int .i64 n), (.int .i64 m), (.slice A l.length c)], .agg #[(.int .i64 an), (.int .i64 ch), (.int .i64 cg), (.int .i64 la), (.bool fr)], .agg #[(.int .i64 xn), (.int .i64 xw), (.int .i64 xk), (.int .i64 xh)]] w (JudgePost w 0 ⟨0, 0, 0, false⟩ 0 false 1) := by
  have hund : undef = Value.tuple #[] := rfl
  have hu1 := Try.underlying69
  have hu2 := Try.underlying71
  have hu3 := Try.underlying78
  have hc0 := blk_alloc (blk_alloc (blk_alloc (blk_new w (.cells #[(.int .i64 n), (.int .i64 m), (.slice A l.length c)] 69)) (.cells #[(.int .i64 an), (.int .i64 ch), (.int .i64 cg), (.int .i64 la), (.bool fr)] 71)) (.cells #[(.int .i64 xn), (.int .i64 xw), (.int .i64 xk), (.int .i64 xh)] 78)) (.cells #[(.int .i64 0), (.int .i64 0), (.int .i64 0), (.int .i64 0), (.bool false)] 71)
  have ha0 := blk_alloc (blk_alloc (blk_new (w.alloc (.cells #[(.int .i64 n), (.int .i64 m), (.slice A l.length c)] 69)) (.cells #[(.int .i64 an), (.int .i64 ch), (.int .i64 cg), (.int .i64 la), (.bool fr)] 71)) (.cells #[(.int .i64 xn), (.int .i64 xw), (.int .i64 xk), (.int .i64 xh)] 78)) (.cells #[(.int .i64 0), (.int .i64 0), (.int .i64 0), (.int .i64 0), (.bool false)] 71)
  have hx0 := blk_alloc (blk_new ((w.alloc (.cells #[(.int .i64 n), (.int .i64 m), (.slice A l.length c)] 69)).alloc (.cells #[(.int .i64 an), (.int .i64 ch), (.int .i64 cg), (.int .i64 la), (.bool fr)] 71)) (.cells #[(.int .i64 xn), (.int .i64 xw), (.int .i64 xk), (.int .i64 xh)] 78)) (.cells #[(.int .i64 0), (.int .i64 0), (.int .i64 0), (.int .i64 0), (.bool false)] 71)
  have hr0 := blk_new (((w.alloc (.cells #[(.int .i64 n), (.int .i64 m), (.slice A l.length c)] 69)).alloc (.cells #[(.int .i64 an), (.int .i64 ch), (.int .i64 cg), (.int .i64 la), (.bool fr)] 71)).alloc (.cells #[(.int .i64 xn), (.int .i64 xw), (.int .i64 xk), (.int .i64 xh)] 78)) (.cells #[(.int .i64 0), (.int .i64 0), (.int .i64 0), (.int .i64 0), (.bool false)] 71)
  simp only [World.size_alloc, Nat.add_assoc, Nat.reduceAdd] at ha0 hx0 hr0
  have B0 := ((((Below.refl w.heap.size w).alloc (Nat.le_refl _) (.cells #[(.int .i64 n), (.int .i64 m), (.slice A l.length c)] 69)).alloc (by simp) (.cells #[(.int .i64 an), (.int .i64 ch), (.int .i64 cg), (.int .i64 la), (.bool fr)] 71)).alloc (by simp; omega) (.cells #[(.int .i64 xn), (.int .i64 xw), (.int .i64 xk), (.int .i64 xh)] 78)).alloc (by simp; omega) (.cells #[(.int .i64 0), (.int .i64 0), (.int .i64 0), (.int .i64 0), (.bool false)] 71)
  have hn1 : (an != n) = true := by simpa using hn
  clear hn
  go_enter Try.func63, Try.ntmps63
  go_wp2_with (first
    | (go_at_call 61; (with_reducible refine (contract_Valid.calls n m _ _ l true _ (Kd.C_below hr B0) hc hv).mono ?_); rintro e w1 ⟨rfl, hb1⟩; have hc1 := blk_below hc0 hb1; have ha1 := blk_below ha0 hb1; have hx1 := blk_below hx0 hb1; have hr1 := blk_below hr0 hb1; obtain ⟨c10, c11, c12, -⟩ := cz3 ⟨hc1⟩; obtain ⟨a10, a11, a12, a13, a14, -⟩ := cz5 ⟨ha1⟩; obtain ⟨x10, x11, x12, x13, -⟩ := cz4 ⟨hx1⟩; obtain ⟨r10, r11, r12, r13, r14, f10, f11, f12, f13, f14⟩ := cz5 ⟨hr1⟩; have B1 := B0.trans (hb1.mono B0.size); clear hc0 ha0 hx0 hr0)
    | (go_at_call 107; (with_reducible refine (contract_rightAccount.calls an ch cg la fr true _ hacc).mono ?_); rintro e w2 ⟨rfl, hb2⟩; have hc2 := blk_below hc1 hb2; have ha2 := blk_below ha1 hb2; have hx2 := blk_below hx1 hb2; have hr2 := blk_below hr1 hb2; obtain ⟨c20, c21, c22, -⟩ := cz3 ⟨hc2⟩; obtain ⟨a20, a21, a22, a23, a24, -⟩ := cz5 ⟨ha2⟩; obtain ⟨x20, x21, x22, x23, -⟩ := cz4 ⟨hx2⟩; obtain ⟨r20, r21, r22, r23, r24, f20, f21, f22, f23, f24⟩ := cz5 ⟨hr2⟩; have B2 := B1.trans (hb2.mono B1.size); clear hc1 ha1 hx1 hr1)
    | (go_at_call 108; (with_reducible refine (contract_rightAnswer.calls 5 xn xw xk xh true _ hans).mono ?_); rintro e w3 ⟨rfl, hb3⟩; have hc3 := blk_below hc2 hb3; have ha3 := blk_below ha2 hb3; have hx3 := blk_below hx2 hb3; have hr3 := blk_below hr2 hb3; obtain ⟨c30, c31, c32, -⟩ := cz3 ⟨hc3⟩; obtain ⟨a30, a31, a32, a33, a34, -⟩ := cz5 ⟨ha3⟩; obtain ⟨x30, x31, x32, x33, -⟩ := cz4 ⟨hx3⟩; obtain ⟨r30, r31, r32, r33, r34, f30, f31, f32, f33, f34⟩ := cz5 ⟨hr3⟩; have B3 := B2.trans (hb3.mono B2.size); clear hc2 ha2 hx2 hr2))
  refine bodyPost_ret (results_cttt rfl _ _ (w.heap.size + 3) 71 #[(.int .i64 0), (.int .i64 0), (.int .i64 0), (.int .i64 0), (.bool false)] (0, 0) _ rfl ?_ Try.underlying71 rfl (by kernel_rfl)) rfl ⟨rfl, ?_⟩
  · (with_reducible repeat (first | refine blk_drewN ?_ _ | refine blk_drew ?_))
    exact blk_put (blk_put (blk_put (blk_put (blk_put hr3 0 _ rfl) 1 _ rfl) 2 _ rfl) 3 _ rfl) 4 _ rfl
  · repeat (first | exact B3 | apply pw_below_drewN | apply below_drew1 | refine Below.setCell ?_ (by show _ ≤ w.heap.size + 3; omega) _)
set_option maxHeartbeats 1000000 in
set_option maxRecDepth 100000 in
theorem judge_of (n m : Int) (A : Option Addr) (c : Nat) (l : List SP) (an ch cg la : Int) (fr : Bool) (xn xw xk xh : Int) (w : World) (hr : Kd.C k61 w A l.length l) (hc : l.length ≤ c) (hv : contract_Valid.f n m l = some true) (hacc : contract_rightAccount.f an ch cg la fr = some true) (hans : contract_rightAnswer.f 5 xn xw xk xh = some true) (hn : an = n) (hx : xn ≠ n) :
    Calls Try.prog 63 #[.agg #[(.int .i64 n), (.int .i64 m), (.slice A l.length c)], .agg #[(.int .i64 an), (.int .i64 ch), (.int .i64 cg), (.int .i64 la), (.bool fr)], .agg #[(.int .i64 xn), (.int .i64 xw), (.int .i64 xk), (.int .i64 xh)]] w (JudgePost w 0 ⟨0, 0, 0, false⟩ 0 false 1) := by
  have hund : undef = Value.tuple #[] := rfl
  have hu1 := Try.underlying69
  have hu2 := Try.underlying71
  have hu3 := Try.underlying78
  have hc0 := blk_alloc (blk_alloc (blk_alloc (blk_new w (.cells #[(.int .i64 n), (.int .i64 m), (.slice A l.length c)] 69)) (.cells #[(.int .i64 an), (.int .i64 ch), (.int .i64 cg), (.int .i64 la), (.bool fr)] 71)) (.cells #[(.int .i64 xn), (.int .i64 xw), (.int .i64 xk), (.int .i64 xh)] 78)) (.cells #[(.int .i64 0), (.int .i64 0), (.int .i64 0), (.int .i64 0), (.bool false)] 71)
  have ha0 := blk_alloc (blk_alloc (blk_new (w.alloc (.cells #[(.int .i64 n), (.int .i64 m), (.slice A l.length c)] 69)) (.cells #[(.int .i64 an), (.int .i64 ch), (.int .i64 cg), (.int .i64 la), (.bool fr)] 71)) (.cells #[(.int .i64 xn), (.int .i64 xw), (.int .i64 xk), (.int .i64 xh)] 78)) (.cells #[(.int .i64 0), (.int .i64 0), (.int .i64 0), (.int .i64 0), (.bool false)] 71)
  have hx0 := blk_alloc (blk_new ((w.alloc (.cells #[(.int .i64 n), (.int .i64 m), (.slice A l.length c)] 69)).alloc (.cells #[(.int .i64 an), (.int .i64 ch), (.int .i64 cg), (.int .i64 la), (.bool fr)] 71)) (.cells #[(.int .i64 xn), (.int .i64 xw), (.int .i64 xk), (.int .i64 xh)] 78)) (.cells #[(.int .i64 0), (.int .i64 0), (.int .i64 0), (.int .i64 0), (.bool false)] 71)
  have hr0 := blk_new (((w.alloc (.cells #[(.int .i64 n), (.int .i64 m), (.slice A l.length c)] 69)).alloc (.cells #[(.int .i64 an), (.int .i64 ch), (.int .i64 cg), (.int .i64 la), (.bool fr)] 71)).alloc (.cells #[(.int .i64 xn), (.int .i64 xw), (.int .i64 xk), (.int .i64 xh)] 78)) (.cells #[(.int .i64 0), (.int .i64 0), (.int .i64 0), (.int .i64 0), (.bool false)] 71)
  simp only [World.size_alloc, Nat.add_assoc, Nat.reduceAdd] at ha0 hx0 hr0
  have B0 := ((((Below.refl w.heap.size w).alloc (Nat.le_refl _) (.cells #[(.int .i64 n), (.int .i64 m), (.slice A l.length c)] 69)).alloc (by simp) (.cells #[(.int .i64 an), (.int .i64 ch), (.int .i64 cg), (.int .i64 la), (.bool fr)] 71)).alloc (by simp; omega) (.cells #[(.int .i64 xn), (.int .i64 xw), (.int .i64 xk), (.int .i64 xh)] 78)).alloc (by simp; omega) (.cells #[(.int .i64 0), (.int .i64 0), (.int .i64 0), (.int .i64 0), (.bool false)] 71)
  have hn1 : (an != n) = false := by simpa using hn
  have hx1 : (xn != n) = true := by simpa using hx
  clear hn hx
  go_enter Try.func63, Try.ntmps63
  go_wp2_with (first
    | (go_at_call 61; (with_reducible refine (contract_Valid.calls n m _ _ l true _ (Kd.C_below hr B0) hc hv).mono ?_); rintro e w1 ⟨rfl, hb1⟩; have hc1 := blk_below hc0 hb1; have ha1 := blk_below ha0 hb1; have hx1 := blk_below hx0 hb1; have hr1 := blk_below hr0 hb1; obtain ⟨c10, c11, c12, -⟩ := cz3 ⟨hc1⟩; obtain ⟨a10, a11, a12, a13, a14, -⟩ := cz5 ⟨ha1⟩; obtain ⟨x10, x11, x12, x13, -⟩ := cz4 ⟨hx1⟩; obtain ⟨r10, r11, r12, r13, r14, f10, f11, f12, f13, f14⟩ := cz5 ⟨hr1⟩; have B1 := B0.trans (hb1.mono B0.size); clear hc0 ha0 hx0 hr0)
    | (go_at_call 107; (with_reducible refine (contract_rightAccount.calls an ch cg la fr true _ hacc).mono ?_); rintro e w2 ⟨rfl, hb2⟩; have hc2 := blk_below hc1 hb2; have ha2 := blk_below ha1 hb2; have hx2 := blk_below hx1 hb2; have hr2 := blk_below hr1 hb2; obtain ⟨c20, c21, c22, -⟩ := cz3 ⟨hc2⟩; obtain ⟨a20, a21, a22, a23, a24, -⟩ := cz5 ⟨ha2⟩; obtain ⟨x20, x21, x22, x23, -⟩ := cz4 ⟨hx2⟩; obtain ⟨r20, r21, r22, r23, r24, f20, f21, f22, f23, f24⟩ := cz5 ⟨hr2⟩; have B2 := B1.trans (hb2.mono B1.size); clear hc1 ha1 hx1 hr1)
    | (go_at_call 108; (with_reducible refine (contract_rightAnswer.calls 5 xn xw xk xh true _ hans).mono ?_); rintro e w3 ⟨rfl, hb3⟩; have hc3 := blk_below hc2 hb3; have ha3 := blk_below ha2 hb3; have hx3 := blk_below hx2 hb3; have hr3 := blk_below hr2 hb3; obtain ⟨c30, c31, c32, -⟩ := cz3 ⟨hc3⟩; obtain ⟨a30, a31, a32, a33, a34, -⟩ := cz5 ⟨ha3⟩; obtain ⟨x30, x31, x32, x33, -⟩ := cz4 ⟨hx3⟩; obtain ⟨r30, r31, r32, r33, r34, f30, f31, f32, f33, f34⟩ := cz5 ⟨hr3⟩; have B3 := B2.trans (hb3.mono B2.size); clear hc2 ha2 hx2 hr2))
  refine bodyPost_ret (results_cttt rfl _ _ (w.heap.size + 3) 71 #[(.int .i64 0), (.int .i64 0), (.int .i64 0), (.int .i64 0), (.bool false)] (0, 0) _ rfl ?_ Try.underlying71 rfl (by kernel_rfl)) rfl ⟨rfl, ?_⟩
  · (with_reducible repeat (first | refine blk_drewN ?_ _ | refine blk_drew ?_))
    exact blk_put (blk_put (blk_put (blk_put (blk_put hr3 0 _ rfl) 1 _ rfl) 2 _ rfl) 3 _ rfl) 4 _ rfl
  · repeat (first | exact B3 | apply pw_below_drewN | apply below_drew1 | refine Below.setCell ?_ (by show _ ≤ w.heap.size + 3; omega) _)
set_option maxHeartbeats 2000000 in
set_option maxRecDepth 100000 in
theorem judge_go (n m : Int) (A : Option Addr) (c : Nat) (l : List SP) (ch cg la : Int) (fr : Bool) (xw xk xh : Int) (w : World) (hr : Kd.C k61 w A l.length l) (hc : l.length ≤ c) (hv : contract_Valid.f n m l = some true) (hacc : contract_rightAccount.f n ch cg la fr = some true) (hans : contract_rightAnswer.f 5 n xw xk xh = some true) (p : Int) (hp : contract_promised.f n m l xw = some p) (hok : (Acc.mk ch cg la fr).Ok) (hxo : HOk xh) (hpo : HOk p) (bch bcg bla : Int) (bfr : Bool) (hen : enterA ⟨ch, cg, la, fr⟩ xk xh p m = ⟨bch, bcg, bla, bfr⟩) :
    Calls Try.prog 63 #[.agg #[(.int .i64 n), (.int .i64 m), (.slice A l.length c)], .agg #[(.int .i64 n), (.int .i64 ch), (.int .i64 cg), (.int .i64 la), (.bool fr)], .agg #[(.int .i64 n), (.int .i64 xw), (.int .i64 xk), (.int .i64 xh)]] w (JudgePost w n ⟨bch, bcg, bla, bfr⟩ p (decide (p < xh)) 0) := by
  have hund : undef = Value.tuple #[] := rfl
  have hu1 := Try.underlying69
  have hu2 := Try.underlying71
  have hu3 := Try.underlying78
  have hc0 := blk_alloc (blk_alloc (blk_alloc (blk_new w (.cells #[(.int .i64 n), (.int .i64 m), (.slice A l.length c)] 69)) (.cells #[(.int .i64 n), (.int .i64 ch), (.int .i64 cg), (.int .i64 la), (.bool fr)] 71)) (.cells #[(.int .i64 n), (.int .i64 xw), (.int .i64 xk), (.int .i64 xh)] 78)) (.cells #[(.int .i64 0), (.int .i64 0), (.int .i64 0), (.int .i64 0), (.bool false)] 71)
  have ha0 := blk_alloc (blk_alloc (blk_new (w.alloc (.cells #[(.int .i64 n), (.int .i64 m), (.slice A l.length c)] 69)) (.cells #[(.int .i64 n), (.int .i64 ch), (.int .i64 cg), (.int .i64 la), (.bool fr)] 71)) (.cells #[(.int .i64 n), (.int .i64 xw), (.int .i64 xk), (.int .i64 xh)] 78)) (.cells #[(.int .i64 0), (.int .i64 0), (.int .i64 0), (.int .i64 0), (.bool false)] 71)
  have hx0 := blk_alloc (blk_new ((w.alloc (.cells #[(.int .i64 n), (.int .i64 m), (.slice A l.length c)] 69)).alloc (.cells #[(.int .i64 n), (.int .i64 ch), (.int .i64 cg), (.int .i64 la), (.bool fr)] 71)) (.cells #[(.int .i64 n), (.int .i64 xw), (.int .i64 xk), (.int .i64 xh)] 78)) (.cells #[(.int .i64 0), (.int .i64 0), (.int .i64 0), (.int .i64 0), (.bool false)] 71)
  have hr0 := blk_new (((w.alloc (.cells #[(.int .i64 n), (.int .i64 m), (.slice A l.length c)] 69)).alloc (.cells #[(.int .i64 n), (.int .i64 ch), (.int .i64 cg), (.int .i64 la), (.bool fr)] 71)).alloc (.cells #[(.int .i64 n), (.int .i64 xw), (.int .i64 xk), (.int .i64 xh)] 78)) (.cells #[(.int .i64 0), (.int .i64 0), (.int .i64 0), (.int .i64 0), (.bool false)] 71)
  simp only [World.size_alloc, Nat.add_assoc, Nat.reduceAdd] at ha0 hx0 hr0
  have B0 := ((((Below.refl w.heap.size w).alloc (Nat.le_refl _) (.cells #[(.int .i64 n), (.int .i64 m), (.slice A l.length c)] 69)).alloc (by simp) (.cells #[(.int .i64 n), (.int .i64 ch), (.int .i64 cg), (.int .i64 la), (.bool fr)] 71)).alloc (by simp; omega) (.cells #[(.int .i64 n), (.int .i64 xw), (.int .i64 xk), (.int .i64 xh)] 78)).alloc (by simp; omega) (.cells #[(.int .i64 0), (.int .i64 0), (.int .i64 0), (.int .i64 0), (.bool false)] 71)
  go_enter Try.func63, Try.ntmps63
  go_wp2_with (first
    | (go_at_call 61; (with_reducible refine (contract_Valid.calls n m _ _ l true _ (Kd.C_below hr B0) hc hv).mono ?_); rintro e w1 ⟨rfl, hb1⟩; have hc1 := blk_below hc0 hb1; have ha1 := blk_below ha0 hb1; have hx1 := blk_below hx0 hb1; have hr1 := blk_below hr0 hb1; obtain ⟨c10, c11, c12, -⟩ := cz3 ⟨hc1⟩; obtain ⟨a10, a11, a12, a13, a14, -⟩ := cz5 ⟨ha1⟩; obtain ⟨x10, x11, x12, x13, -⟩ := cz4 ⟨hx1⟩; obtain ⟨r10, r11, r12, r13, r14, f10, f11, f12, f13, f14⟩ := cz5 ⟨hr1⟩; have B1 := B0.trans (hb1.mono B0.size); clear hc0 ha0 hx0 hr0)
    | (go_at_call 107; (with_reducible refine (contract_rightAccount.calls n ch cg la fr true _ hacc).mono ?_); rintro e w2 ⟨rfl, hb2⟩; have hc2 := blk_below hc1 hb2; have ha2 := blk_below ha1 hb2; have hx2 := blk_below hx1 hb2; have hr2 := blk_below hr1 hb2; obtain ⟨c20, c21, c22, -⟩ := cz3 ⟨hc2⟩; obtain ⟨a20, a21, a22, a23, a24, -⟩ := cz5 ⟨ha2⟩; obtain ⟨x20, x21, x22, x23, -⟩ := cz4 ⟨hx2⟩; obtain ⟨r20, r21, r22, r23, r24, f20, f21, f22, f23, f24⟩ := cz5 ⟨hr2⟩; have B2 := B1.trans (hb2.mono B1.size); clear hc1 ha1 hx1 hr1)
    | (go_at_call 108; (with_reducible refine (contract_rightAnswer.calls 5 n xw xk xh true _ hans).mono ?_); rintro e w3 ⟨rfl, hb3⟩; have hc3 := blk_below hc2 hb3; have ha3 := blk_below ha2 hb3; have hx3 := blk_below hx2 hb3; have hr3 := blk_below hr2 hb3; obtain ⟨c30, c31, c32, -⟩ := cz3 ⟨hc3⟩; obtain ⟨a30, a31, a32, a33, a34, -⟩ := cz5 ⟨ha3⟩; obtain ⟨x30, x31, x32, x33, -⟩ := cz4 ⟨hx3⟩; obtain ⟨r30, r31, r32, r33, r34, f30, f31, f32, f33, f34⟩ := cz5 ⟨hr3⟩; have B3 := B2.trans (hb3.mono B2.size); clear hc2 ha2 hx2 hr2)
    | (go_at_call 99; (with_reducible refine (contract_promised.calls n m _ _ l xw p _ (Kd.C_below hr B3) hc hp).mono ?_); rintro e w4 ⟨rfl, hb4⟩; have hc4 := blk_below hc3 hb4; have ha4 := blk_below ha3 hb4; have hx4 := blk_below hx3 hb4; have hr4 := blk_below hr3 hb4; obtain ⟨c40, c41, c42, -⟩ := cz3 ⟨hc4⟩; obtain ⟨a40, a41, a42, a43, a44, -⟩ := cz5 ⟨ha4⟩; obtain ⟨x40, x41, x42, x43, -⟩ := cz4 ⟨hx4⟩; obtain ⟨r40, r41, r42, r43, r44, f40, f41, f42, f43, f44⟩ := cz5 ⟨hr4⟩; have B4 := B3.trans (hb4.mono B3.size); clear hc3 ha3 hx3 hr3; have hc9 := blk_alloc hc4 (.cells #[(.int .i64 n), (.int .i64 ch), (.int .i64 cg), (.int .i64 la), (.bool fr)] 118); have hx9 := blk_alloc hx4 (.cells #[(.int .i64 n), (.int .i64 ch), (.int .i64 cg), (.int .i64 la), (.bool fr)] 118); have hr9 := blk_alloc hr4 (.cells #[(.int .i64 n), (.int .i64 ch), (.int .i64 cg), (.int .i64 la), (.bool fr)] 118); obtain ⟨c90, c91, c92, -⟩ := cz3 ⟨hc9⟩; obtain ⟨x90, x91, x92, x93, -⟩ := cz4 ⟨hx9⟩)
    | (go_at_call 109; have N4 := blk_new w4 (.cells #[(.int .i64 n), (.int .i64 ch), (.int .i64 cg), (.int .i64 la), (.bool fr)] 118); have s4 := blk_lt hr4; (with_reducible refine (enter_calls w4.heap.size n ⟨ch, cg, la, fr⟩ n xw xk xh p m _ N4 hok hxo hpo).mono ?_); rintro e w5 ⟨rfl, hk5, hb5⟩; rw [hen] at hk5; have hx5 := hb5.blk hx9 (by omega); have hr5 := hb5.blk hr9 (by omega); have B5 : Below w.heap.size w w5 := Below.but (B4.alloc B4.size (.cells #[(.int .i64 n), (.int .i64 ch), (.int .i64 cg), (.int .i64 la), (.bool fr)] 118)) hb5 B4.size (by have := B4.size; simp; omega); obtain ⟨x50, x51, x52, x53, -⟩ := cz4 ⟨hx5⟩; obtain ⟨r50, r51, r52, r53, r54, f50, f51, f52, f53, f54⟩ := cz5 ⟨hr5⟩; obtain ⟨k50, k51, k52, k53, k54, -⟩ := cz5 ⟨hk5⟩; clear N4 hb5 hok hxo hpo hen; clear c40 c41 c42 a40 a41 a42 a43 a44 x40 x41 x42 x43 r40 r41 r42 r43 r44))
  go_region_with fail
  all_goals go_wp2
  all_goals refine bodyPost_ret (results_cttt rfl _ _ (w.heap.size + 3) 71 #[(.int .i64 n), (.int .i64 bch), (.int .i64 bcg), (.int .i64 bla), (.bool bfr)] (0, 0) _ rfl ?_ Try.underlying71 rfl (by kernel_rfl)) rfl ⟨rfl, ?_⟩
  all_goals first
    | ((with_reducible repeat (first | refine blk_drewN ?_ _ | refine blk_drew ?_))
       exact blk_put (blk_put (blk_put (blk_put (blk_put hr5 0 _ rfl) 1 _ rfl) 2 _ rfl) 3 _ rfl) 4 _ rfl)
    | (repeat (first | exact B5 | apply pw_below_drewN | apply below_drew1 | refine Below.setCell ?_ (by show _ ≤ w.heap.size + 3; omega) _))
end Go.Proofs.Ytjpghfjaloglhaa.PContract

