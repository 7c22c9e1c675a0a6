/- impl.ReadDecimal's contract, for every text; and laws.FnExactReadDecimal, walked: where the specification's ReadDecimal comes to the same two answers, the law comes to true. -/
import Derived.Test.YtnecbkognpponaaDoorHDec
import Derived.Test.YtnecbkognpponaaDoorShA
import Derived.Test.YtnecbkognpponaaDoorQimplin
import Derived.Test.YtnecbkognpponaaDoorQspecReadDecimal
import Derived.Stop.LaidErr
namespace Go.Proofs.YtnecbkognpponaaDoor.Q
open Go.RowKit Go.Proofs.YtnecbkognpponaaDoorW.PrintWords Go.Proofs.YtnecbkognpponaaDoorW.PrintLast Go.Proofs.YtnecbkognpponaaDoorW.PrintMore
set_option linter.unusedVariables false
set_option linter.unusedSimpArgs false
/-- strconv's two sentinels hold pointers. -/
structure Errs (w : World) : Prop where
  syn : ∃ p, w.var? Tryd.prog "strconv.ErrSyntax" = some #[.iface 91 p]
  ran : ∃ p, w.var? Tryd.prog "strconv.ErrRange" = some #[.iface 91 p]
theorem gSyn : Tryd.prog.globalNamed "strconv.ErrSyntax" = some 0 := by kernel_rfl
theorem gRan : Tryd.prog.globalNamed "strconv.ErrRange" = some 1 := by kernel_rfl
theorem Errs.below {w w' : World} (h : Errs w) (hb : Below w.heap.size w w') : Errs w' :=
  ⟨h.syn.elim fun p hp => ⟨p, Joins.var_stays gSyn hp hb (Nat.le_refl _)⟩, h.ran.elim fun p hp => ⟨p, Joins.var_stays gRan hp hb (Nat.le_refl _)⟩⟩
/-- What strconv.Atoi hands back: the number, or an error that is not nil. -/
theorem atoi_ok (s : ByteArray) (v : Int) (w : World) (hlim : s.size ≤ 281474976710656) (h : Lib.atoiAll s.data.toList = .ok v) :
    Calls Tryd.prog 28 #[.string s] w fun e w' => e = .returned (.tuple #[.int .i64 v, .nilIface]) ∧ Below w.heap.size w w' := by
  refine (Tryd.strconv_Atoi_ok s (Nat.le_trans hlim (by decide)) v h w).mono ?_
  rintro e w' ⟨rfl, rfl | ⟨t, rfl⟩⟩
  · exact ⟨rfl, Below.refl _ _⟩
  · exact ⟨rfl, Joins.below_bytesWorld _ _ _ _ (Nat.le_refl _)⟩
theorem atoi_no (s : ByteArray) (w : World) (hlim : s.size ≤ 281474976710656) (hE : Errs w) (h : ∀ v, Lib.atoiAll s.data.toList ≠ .ok v) :
    Calls Tryd.prog 28 #[.string s] w fun e w' => ∃ (v : Int) (N : Nat), e = .returned (.tuple #[.int .i64 v, .iface 68 (.pointer (some ⟨N, 0, none⟩))]) ∧ Below w.heap.size w w' := by
  obtain ⟨p, hp⟩ := hE.syn
  obtain ⟨q, hq⟩ := hE.ran
  cases ha : Lib.atoiAll s.data.toList with
  | ok v => exact absurd ha (h v)
  | «syntax» =>
    refine (Tryd.strconv_Atoi_syntax_var s hlim ha _ _ w hp).mono ?_
    rintro e w' ⟨N, rfl, _, _, hb⟩
    exact ⟨_, N, rfl, hb⟩
  | range =>
    refine (Tryd.strconv_Atoi_range_var s hlim ha _ _ w hq).mono ?_
    rintro e w' ⟨N, rfl, _, _, hb⟩
    exact ⟨_, N, rfl, hb⟩
theorem atoi_fits {s : ByteArray} {v : Int} (h : Lib.atoiAll s.data.toList = .ok v) : -9223372036854775808 ≤ v ∧ v ≤ 9223372036854775807 := by
  obtain ⟨a, b⟩ := Lib.atoiAll_bounds h
  exact ⟨by omega, by omega⟩
set_option maxHeartbeats 8000000 in
set_option maxRecDepth 100000 in
/-- No numeral: 0, false. -/
theorem read_no (s : ByteArray) (w : World) (hlim : s.size ≤ 281474976710656) (hE : Errs w) (h : ∀ v, Lib.atoiAll s.data.toList ≠ .ok v) :
    Calls Tryd.prog 11 #[.string s] w fun e w' => e = .returned (.tuple #[.int .i64 0, .bool false]) ∧ Below w.heap.size w w' := by
  have HE := Aside0.mk hE
  have HN := Aside0.mk h
  clear hE h
  have HB := Aside0.mk (Below.refl w.heap.size w)
  go_enter Tryd.func11, Tryd.ntmps11
  go_wp2_with (first | ((with_reducible refine gate_callee (f := 28) rfl ?_); refine goesL_ (some 8) rfl rfl Tryd.func28 (by kernel_rfl) rfl #[.string s] rfl mp_q ?_; (with_reducible refine (atoi_no s _ hlim HE.out HN.out).mono ?_); rintro e w1 ⟨v, N, rfl, hb⟩; refine ⟨_, rfl, ?_⟩; replace HB := Aside0.mk (below_step HB.out hb); clear hb))
  go_ret2
  exact ⟨rfl, HB.out⟩
set_option maxHeartbeats 8000000 in
set_option maxRecDepth 100000 in
/-- A numeral out of bounds: 0, false. -/
theorem read_out (s : ByteArray) (v : Int) (w : World) (hlim : s.size ≤ 281474976710656) (h : Lib.atoiAll s.data.toList = .ok v) (hi : impl_in.f v 0 1000000000 = some false) :
    Calls Tryd.prog 11 #[.string s] w fun e w' => e = .returned (.tuple #[.int .i64 0, .bool false]) ∧ Below w.heap.size w w' := by
  have HN := Aside0.mk h
  have HI := Aside0.mk hi
  clear h hi
  have HB := Aside0.mk (Below.refl w.heap.size w)
  go_enter Tryd.func11, Tryd.ntmps11
  go_wp2_with (first | ((with_reducible refine gate_callee (f := 28) rfl ?_); refine goesL_ (some 8) rfl rfl Tryd.func28 (by kernel_rfl) rfl #[.string s] rfl mp_q ?_; (with_reducible refine (atoi_ok s v _ hlim HN.out).mono ?_); rintro e w1 ⟨rfl, hb⟩; refine ⟨_, rfl, ?_⟩; replace HB := Aside0.mk (below_step HB.out hb); clear hb) | ((with_reducible refine gate_callee (f := 27) rfl ?_); (try (refine gate_guard (by rfl) ?_; dsimp only)); refine goesL_ (some 15) rfl rfl Tryd.func27 (by kernel_rfl) rfl #[.int .i64 v, .int .i64 0, .int .i64 1000000000] rfl mp_q ?_; (with_reducible refine (impl_in.calls v 0 1000000000 false _ HI.out).mono ?_); rintro e w2 ⟨rfl, hd⟩; refine ⟨_, rfl, ?_⟩; have hb := Drawn0.below hd; clear hd; replace HB := Aside0.mk (below_step HB.out hb); clear hb))
  go_ret2
  exact ⟨rfl, HB.out⟩
set_option maxHeartbeats 8000000 in
set_option maxRecDepth 100000 in
/-- A numeral within bounds: the number where the text is spelled as Itoa spells it. -/
theorem read_in (s : ByteArray) (v : Int) (w : World) (b : Bool) (hlim : s.size ≤ 281474976710656) (ht : Tab w) (h : Lib.atoiAll s.data.toList = .ok v) (hi : impl_in.f v 0 1000000000 = some true) (hb0 : ((itoaB v).toList == s.toList) = b) (hb1 : ((itoaB v).toList != s.toList) = !b) :
    Calls Tryd.prog 11 #[.string s] w fun e w' => e = .returned (.tuple #[.int .i64 (if b then v else 0), .bool b]) ∧ Below w.heap.size w w' := by
  have hv := atoi_fits h
  have HV := Aside0.mk hv
  have HN := Aside0.mk h
  have HI := Aside0.mk hi
  have HT := Aside0.mk ht
  clear h hi ht hv
  have HB := Aside0.mk (Below.refl w.heap.size w)
  cases b <;> simp only [Bool.not_false, Bool.not_true] at hb1
  all_goals
    go_enter Tryd.func11, Tryd.ntmps11
    go_wp2_with (first | ((with_reducible refine gate_callee (f := 28) rfl ?_); refine goesL_ (some 8) rfl rfl Tryd.func28 (by kernel_rfl) rfl #[.string s] rfl mp_q ?_; (with_reducible refine (atoi_ok s v _ hlim HN.out).mono ?_); rintro e w1 ⟨rfl, hb⟩; refine ⟨_, rfl, ?_⟩; replace HT := Aside0.mk (Tab.below HT.out hb); replace HB := Aside0.mk (below_step HB.out hb); clear hb) | ((with_reducible refine gate_callee (f := 27) rfl ?_); (try (refine gate_guard (by rfl) ?_; dsimp only)); refine goesL_ (some 15) rfl rfl Tryd.func27 (by kernel_rfl) rfl #[.int .i64 v, .int .i64 0, .int .i64 1000000000] rfl mp_q ?_; (with_reducible refine (impl_in.calls v 0 1000000000 true _ HI.out).mono ?_); rintro e w2 ⟨rfl, hd⟩; refine ⟨_, rfl, ?_⟩; have hb := Drawn0.below hd; clear hd; replace HT := Aside0.mk (Tab.below HT.out hb); replace HB := Aside0.mk (below_step HB.out hb); clear hb) | ((with_reducible refine gate_callee (f := 12) rfl ?_); (try (refine gate_guard (by rfl) ?_; dsimp only)); refine goesL_ (some 20) rfl rfl Tryd.func12 (by kernel_rfl) rfl #[.int .i64 v] rfl mp_q ?_; (with_reducible refine (impl_Decimal.calls v _ HV.out.1 HV.out.2 HT.out).mono ?_); rintro e w3 ⟨rfl, hb⟩; refine ⟨_, rfl, ?_⟩; replace HB := Aside0.mk (below_step HB.out hb); clear hb))
    go_ret2
    exact ⟨rfl, HB.out⟩
/-- What impl.ReadDecimal answers. -/
def rdN (s : ByteArray) : Int × Bool :=
  match Lib.atoiAll s.data.toList with
  | .ok v => if 0 ≤ v then (if v ≤ 1000000000 then (if (itoaB v).toList = s.toList then (v, true) else (0, false)) else (0, false)) else (0, false)
  | _ => (0, false)
theorem impl_ReadDecimal.calls (s : ByteArray) (w : World) (hlim : s.size ≤ 281474976710656) (ht : Tab w) (hE : Errs w) :
    Calls Tryd.prog 11 #[.string s] w fun e w' => e = .returned (.tuple #[.int .i64 (rdN s).1, .bool (rdN s).2]) ∧ Below w.heap.size w w' := by
  unfold rdN
  cases ha : Lib.atoiAll s.data.toList with
  | «syntax» => exact read_no s w hlim hE (fun v hv => by rw [ha] at hv; cases hv)
  | range => exact read_no s w hlim hE (fun v hv => by rw [ha] at hv; cases hv)
  | ok v =>
    simp only
    by_cases h0 : 0 ≤ v
    · by_cases h1 : v ≤ 1000000000
      · have hi : impl_in.f v 0 1000000000 = some true := by unfold impl_in.f; rw [if_pos h0, decide_eq_true h1]
        rw [if_pos h0, if_pos h1]
        by_cases he : (itoaB v).toList = s.toList
        · rw [if_pos he]; exact read_in s v w true hlim ht ha hi (beq_iff_eq.mpr he) (bne_eq_false_iff_eq.mpr he)
        · rw [if_neg he]; exact read_in s v w false hlim ht ha hi (beq_eq_false_iff_ne.mpr he) (bne_iff_ne.mpr he)
      · have hi : impl_in.f v 0 1000000000 = some false := by unfold impl_in.f; rw [if_pos h0, decide_eq_false h1]
        rw [if_pos h0, if_neg h1]; exact read_out s v w hlim ha hi
    · have hi : impl_in.f v 0 1000000000 = some false := by unfold impl_in.f; rw [if_neg (by omega)]
      rw [if_neg h0]; exact read_out s v w hlim ha hi
end Go.Proofs.YtnecbkognpponaaDoor.Q
