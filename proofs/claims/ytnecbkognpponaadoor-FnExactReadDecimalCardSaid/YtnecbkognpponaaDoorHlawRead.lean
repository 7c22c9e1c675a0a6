/- laws.FnExactReadDecimal, walked: where the specification's ReadDecimal comes to what the program's does, the law comes to true. -/
import Derived.Test.YtnecbkognpponaaDoorHRead
namespace Go.Proofs.YtnecbkognpponaaDoor.Q
open Go.RowKit Go.Proofs.YtnecbkognpponaaDoorW.PrintWords Go.Proofs.YtnecbkognpponaaDoorW.PrintLast Go.Proofs.YtnecbkognpponaaDoorW.PrintMore
set_option linter.unusedVariables false
set_option linter.unusedSimpArgs false
set_option maxHeartbeats 8000000 in
set_option maxRecDepth 100000 in
theorem read_big (s : ByteArray) (w : World) (hb : 1048576 < s.size) :
    Calls Tryd.prog 6 #[.string s] w fun e w' => e = .returned (.bool true) ∧ Below w.heap.size w w' := by
  have c0 : decide ((s.size : Int) > 1048576) = true := decide_eq_true (by omega)
  have HB := Aside0.mk (Below.refl w.heap.size w)
  go_enter Tryd.func6, Tryd.ntmps6
  go_wp2
  go_ret
  exact ⟨rfl, HB.out⟩
set_option maxHeartbeats 8000000 in
set_option maxRecDepth 100000 in
theorem read_small (k : Nat) (s : ByteArray) (r1 : Int) (r2 : Bool) (w : World) (hb : ¬ 1048576 < s.size) (ht : Tab w) (hE : Errs w) (hr : rdN s = (r1, r2)) (h : spec_ReadDecimal.f k s = some (r1, r2)) :
    Calls Tryd.prog 6 #[.string s] w fun e w' => e = .returned (.bool true) ∧ Below w.heap.size w w' := by
  have hlim : s.size ≤ 281474976710656 := by omega
  have HC := Aside0.mk (impl_ReadDecimal.calls s · hlim)
  rw [hr] at HC
  have HL := Aside0.mk hlim
  have HT := Aside0.mk ht
  have HE := Aside0.mk hE
  have HS := Aside0.mk h
  clear ht hE h hr hlim
  have c0 : decide ((s.size : Int) > 1048576) = false := decide_eq_false (by omega)
  have HB := Aside0.mk (Below.refl w.heap.size w)
  cases r2
  all_goals
    go_enter Tryd.func6, Tryd.ntmps6
    go_wp2_with (first | ((with_reducible refine gate_callee (f := 24) rfl ?_); refine goesL_ (some 12) rfl rfl Tryd.func24 (by kernel_rfl) rfl #[.string s] rfl mp_q ?_; (with_reducible refine (spec_ReadDecimal.calls k s _ _ _ HS.out).mono ?_); rintro e w1 ⟨rfl, hb⟩; refine ⟨_, rfl, ?_⟩; replace HT := Aside0.mk (Tab.below HT.out hb); replace HE := Aside0.mk (Errs.below HE.out hb); replace HB := Aside0.mk (below_step HB.out hb); clear hb) | ((with_reducible refine gate_callee (f := 11) rfl ?_); refine goesL_ (some 17) rfl rfl Tryd.func11 (by kernel_rfl) rfl #[.string s] rfl mp_q ?_; (with_reducible refine (HC.out _ HT.out HE.out).mono ?_); rintro e w2 ⟨rfl, hb⟩; refine ⟨_, rfl, ?_⟩; replace HB := Aside0.mk (below_step HB.out hb); clear hb))
    go_ret
    exact ⟨rfl, HB.out⟩
theorem laws_FnExactReadDecimal.calls (k : Nat) (s : ByteArray) (w : World) (ht : Tab w) (hE : Errs w) (h : s.size ≤ 1048576 → spec_ReadDecimal.f k s = some (rdN s)) :
    Calls Tryd.prog 6 #[.string s] w fun e w' => e = .returned (.bool true) ∧ Below w.heap.size w w' := by
  by_cases hb : 1048576 < s.size
  · exact read_big s w hb
  · exact read_small k s (rdN s).1 (rdN s).2 w hb ht hE rfl (h (by omega))
end Go.Proofs.YtnecbkognpponaaDoor.Q
