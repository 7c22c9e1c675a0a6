import Derived.Test.YtnecbkognpponaaXReadPacketQx45
import Derived.Test.YtnecbkognpponaaXReadPacketQspecSealed
/- The contract of a Go function. -/



namespace Go.Proofs.Ytnecbkognpponaa.Q
open Go.RowKit Go.Proofs.YtnecbkognpponaaW.PrintWords Go.Proofs.YtnecbkognpponaaW.PrintLast Go.Proofs.YtnecbkognpponaaW.PrintMore
attribute [local go_sem] max2_int min2_int max_two min_two max_three min_three max_four min_four   -- for this text's walks alone
set_option linter.unusedVariables false
set_option linter.unusedSimpArgs false

/-! ### spec_Unsealed: function 58 -/
def spec_Unsealed.f (k : Nat) (a0 : ByteArray) : Option (ByteArray × Bool) := if (wrap64 ((a0.size : Int) - 4)) < 0 then (some ((⟨#[]⟩ : ByteArray), false)) else (if (wrap64 ((a0.size : Int) - 4)) > 20000 then (some ((⟨#[]⟩ : ByteArray), false)) else (if 0 ≤ (wrap64 ((a0.size : Int) - 4)) then (if (wrap64 ((a0.size : Int) - 4)) ≤ (a0.size : Int) then ((spec_SumOf.f k (a0.extract 0 ((wrap64 ((a0.size : Int) - 4)) : Int).toNat)).bind fun a => ((spec_l02Four.f a).bind fun b => (if (a0.extract ((wrap64 ((a0.size : Int) - 4)) : Int).toNat a0.size).toList = b.toList then (some (a0.extract 0 ((wrap64 ((a0.size : Int) - 4)) : Int).toNat, true)) else (some ((⟨#[]⟩ : ByteArray), false))))) else (none)) else (none)))
theorem spec_Unsealed.mono : ∀ a0 k, LeO (spec_Unsealed.f k a0) (spec_Unsealed.f (k + 1) a0) := by
 intro a0 k
 unfold spec_Unsealed.f
 with_reducible repeat' (first | apply spec_SumOf.mono | exact LeO.refl _ | exact LeO.none _ | refine LeO.ite ?_ ?_ | refine LeO.bind ?_ (fun _ => ?_))
def spec_Unsealed.T2 : Bool × List (List Nat × List Nat) := (true, [([], []), ([0], [0]), ([1], [1]), ([2], [2]), ([3, 2], [2, 3]), ([2, 4], [2, 4]), ([5, 2], [5]), ([6], [6]), ([6], [6]), ([7, 8, 6], [6, 7, 8]), ([6], [6]), ([6], [6]), ([10, 11, 6], [6, 10, 11]), ([12, 6, 6], [6, 12]), ([13, 13, 6], [6, 13]), ([9, 14, 6], [6, 9, 14]), ([6, 15], [6, 15])])
def spec_Unsealed.B2 : List Nat := [0, 1, 3, 7, 15, 31, 63, 127, 127, 511, 127, 127, 3199, 7295, 15487, 32767, 65535]
theorem spec_Unsealed.tab2 : rtab .any (opsOf Try.f58 2) = spec_Unsealed.T2 := by kernel_rfl
theorem spec_Unsealed.bits2 : waitsOk spec_Unsealed.T2.2 spec_Unsealed.B2 = true := by kernel_rfl
set_option maxHeartbeats 8000000 in
set_option maxRecDepth 100000 in
theorem spec_Unsealed.calls (k : Nat) (a0 : ByteArray) (r1 : ByteArray) (r2 : Bool) (w : World) (h : spec_Unsealed.f k a0 = some (r1, r2)) :
  Calls Try.prog 58 #[.string a0] w fun e w' => e = .returned (.tuple #[.string r1, .bool r2]) ∧ Below w.heap.size w w' := by
 have HB := ak (Below.refl w.heap.size w); have H := h
 clear h; unfold spec_Unsealed.f at H; have HZ25 := ak H; clear H
 go_enter Try.func58, Try.ntmps58
 try go_wp2
 replace HB := ak (below_drew1 HB.out)
 refine start_ (n := 17) (S := fun w' => True) (ds := []) (bL 17 0) (by kernel_rfl) rfl rfl trivial (fun hHeld => ?_); refine with_tabW spec_Unsealed.tab2 spec_Unsealed.bits2 (fun HT_ HW_ => ?_)
 generalize w.drew = w3 at HB hHeld ⊢
 refine pq_ 0 8 (bL 17 1) HT_.out rfl rfl ?_
 refine pq_ 1 9 (bL 17 3) HT_.out rfl rfl ?_
 refine pq_ 2 10 (bL 17 7) HT_.out rfl rfl ?_
 have H := HZ25.out; clear HZ25
 by_cases c2 : (wrap64 ((a0.size : Int) - 4)) < 0
 ·rw [if_pos c2] at H
  have Ad : decide ((wrap64 ((a0.size : Int) - 4)) < 0) = true := decide_eq_true c2
  (first | rw [Ad] | (simp only [i64_w, i32_w]; first | rw [Ad]) | skip)
  clear c2
  simp only [Option.some.injEq, Prod.mk.injEq] at H
  obtain ⟨rfl, rfl⟩ := H
  refine pu_ 3 11 (bL 17 15) HT_.out rfl rfl ?_
  refine pu_ 4 12 (bL 17 31) HT_.out rfl rfl ?_
  refine pq_ 5 13 (bL 17 63) HT_.out rfl rfl ?_
  refine pq_ 6 14 (bL 17 127) HT_.out rfl rfl ?_
  refine pu_ 7 15 (bL 17 255) HT_.out rfl rfl ?_
  refine pu_ 8 16 (bL 17 511) HT_.out rfl rfl ?_
  refine pu_ 9 17 (bL 17 1023) HT_.out rfl rfl ?_
  refine pu_ 10 18 (bL 17 2047) HT_.out rfl rfl ?_
  refine pu_ 11 19 (bL 17 4095) HT_.out rfl rfl ?_
  refine pu_ 12 20 (bL 17 8191) HT_.out rfl rfl ?_
  refine pu_ 13 21 (bL 17 16383) HT_.out rfl rfl ?_
  refine pu_ 14 22 (bL 17 32767) HT_.out rfl rfl ?_
  refine pu_ 15 23 (bL 17 65535) HT_.out rfl rfl ?_
  refine pq_ 16 24 (bL 17 131071) HT_.out rfl rfl ?_
  refine done_ (done_of HT_.out (by kernel_rfl)) ?_
  try go_wp2
  go_ret2
  exact ⟨er_q, bw_q HB⟩
 ·rw [if_neg c2] at H
  have Ad : decide ((wrap64 ((a0.size : Int) - 4)) < 0) = false := decide_eq_false c2
  (first | rw [Ad] | (simp only [i64_w, i32_w]; first | rw [Ad]) | skip)
  clear c2; have HZ26 := ak H; clear H
  refine pq_ 3 11 (bL 17 15) HT_.out rfl rfl ?_
  refine pq_ 4 12 (bL 17 31) HT_.out rfl rfl ?_
  refine pq_ 5 13 (bL 17 63) HT_.out rfl rfl ?_
  refine pq_ 6 14 (bL 17 127) HT_.out rfl rfl ?_
  have H := HZ26.out; clear HZ26
  by_cases c4 : (wrap64 ((a0.size : Int) - 4)) > 20000
  ·rw [if_pos c4] at H
   have Ae : decide (20000 < (wrap64 ((a0.size : Int) - 4))) = true := decide_eq_true c4
   (first | rw [Ae] | (simp only [i64_w, i32_w]; first | rw [Ae]) | skip)
   clear c4
   simp only [Option.some.injEq, Prod.mk.injEq] at H
   obtain ⟨rfl, rfl⟩ := H
   refine pu_ 7 15 (bL 17 255) HT_.out rfl rfl ?_
   refine pu_ 8 16 (bL 17 511) HT_.out rfl rfl ?_
   refine pu_ 9 17 (bL 17 1023) HT_.out rfl rfl ?_
   refine pu_ 10 18 (bL 17 2047) HT_.out rfl rfl ?_
   refine pu_ 11 19 (bL 17 4095) HT_.out rfl rfl ?_
   refine pu_ 12 20 (bL 17 8191) HT_.out rfl rfl ?_
   refine pu_ 13 21 (bL 17 16383) HT_.out rfl rfl ?_
   refine pu_ 14 22 (bL 17 32767) HT_.out rfl rfl ?_
   refine pu_ 15 23 (bL 17 65535) HT_.out rfl rfl ?_
   refine pq_ 16 24 (bL 17 131071) HT_.out rfl rfl ?_
   refine done_ (done_of HT_.out (by kernel_rfl)) ?_
   try go_wp2
   go_ret2
   exact ⟨er_q, bw_q HB⟩
  ·rw [if_neg c4] at H
   have Ae : decide (20000 < (wrap64 ((a0.size : Int) - 4))) = false := decide_eq_false c4
   (first | rw [Ae] | (simp only [i64_w, i32_w]; first | rw [Ae]) | skip)
   clear c4; obtain ⟨ji6, hji6⟩ : ∃ j_ : Int, (wrap64 ((a0.size : Int) - 4)) = j_ := ⟨_, rfl⟩
   replace H : (if 0 ≤ (ji6) then (if (ji6) ≤ (a0.size : Int) then ((spec_SumOf.f k (a0.extract 0 ((ji6) : Int).toNat)).bind fun Af => ((spec_l02Four.f Af).bind fun Aa => (if (a0.extract ((ji6) : Int).toNat a0.size).toList = Aa.toList then (some (a0.extract 0 ((ji6) : Int).toNat, true)) else (some ((⟨#[]⟩ : ByteArray), false))))) else (none)) else (none)) = some (r1, r2) := by first | (rw [hji6] at H; exact H) | (simp only [hji6] at H ⊢; exact H)
   (try rw [hji6] at Ad)
   (try rw [hji6] at Ae)
   have hji6w : (IntKind.i64.wrap ((a0.size : Int) - 4)) = ji6 := (i64_w _).trans hji6
   by_cases c7 : 0 ≤ (ji6)
   ·rw [if_pos c7] at H; have Aj := eq_true c7
    have Ak : decide (0 ≤ (ji6)) = true := decide_eq_true c7
    clear c7
    by_cases c8 : (ji6) ≤ (a0.size : Int)
    ·rw [if_pos c8] at H; have Al := eq_true c8
     have Am : decide ((ji6) ≤ (a0.size : Int)) = true := decide_eq_true c8
     clear c8; have An := eq_true (of_decide_eq_true as_q : 0 ≤ (ji6)); have Ag := eq_true (of_decide_eq_true as_q : (ji6) ≤ (a0.size : Int)); replace H := bsi H; obtain ⟨Af, A110, H⟩ := H
     (try dsimp only at H)
     have A11 := ak A110; clear A110; replace H := bsi H; obtain ⟨Aa, A120, H⟩ := H
     (try dsimp only at H)
     have A12 := ak A120; clear A120; have HZ27 := ak H; clear H
     refine pq_ 7 15 (bL 17 255) HT_.out rfl rfl ?_
     refine pq_ 8 16 (bL 17 511) HT_.out rfl rfl ?_
     refine pq_ 9 17 (bL 17 1023) HT_.out rfl rfl ?_
     refine pq_ 10 18 (bL 17 2047) HT_.out rfl rfl ?_
     refine pq_ 11 19 (bL 17 4095) HT_.out rfl rfl ?_
     refine pq_ 12 20 (bL 17 8191) HT_.out rfl rfl ?_
     refine one_ (i := 13) (N := some 21) (bL 17 16383) rfl rfl (one_of HT_.out (by kernel_rfl)) (by decide) (fun K hK => ?_)
     refine goes_ Try.func87 (by kernel_rfl) rfl #[.string (a0.extract 0 ((ji6) : Int).toNat)] (by rfl) rfl rfl (by (try simp only [List.map_toArray, List.map_cons, List.map_nil]); first | done | (simp only [hji6]; rfl) | rfl | (simp only [List.length_drop, List.length_take]; rfl)) ?_
     with_reducible refine (spec_SumOf.calls k (a0.extract 0 ((ji6) : Int).toNat) Af _ A11.out).mono ?_
     rintro e w' ⟨rfl, ⟨nd, rfl⟩⟩
     refine ⟨_, rfl, ?_⟩
     refine hK.out _ _ trivial (fun hHeld => ?_)
     clear hK K
     refine norm_ (a' := ?_) ?_ ?_; rotate_left; (show Act.put _ (some 21) _ = _; simp only [Act.put, List.setIfInBounds_toArray, List.set_cons_zero, List.set_cons_succ, i64_w, i32_w]; rfl)
     refine one_ (i := 14) (N := some 22) (bL 17 32767) rfl rfl (one_of HT_.out (by kernel_rfl)) (by decide) (fun K hK => ?_)
     refine goes_ Try.func86 (by kernel_rfl) rfl #[.int .u32 Af] (by rfl) rfl rfl mp_q ?_
     with_reducible refine (spec_l02Four.calls Af Aa _ A12.out).mono ?_
     rintro e w17 ⟨rfl, hb⟩
     refine ⟨_, rfl, ?_⟩
     replace HB := ak (below_step (bw_q HB) hb)
     refine hK.out _ _ trivial (fun hHeld => ?_)
     clear hK K
     refine norm_ (a' := ?_) ?_ ?_; rotate_left; (show Act.put _ (some 22) _ = _; simp only [Act.put, List.setIfInBounds_toArray, List.set_cons_zero, List.set_cons_succ, i64_w, i32_w]; rfl)
     refine pq_ 15 23 (bL 17 65535) HT_.out rfl rfl ?_
     refine pq_ 16 24 (bL 17 131071) HT_.out rfl rfl ?_
     have H := HZ27.out; clear HZ27
     by_cases c13 : (a0.extract ((ji6) : Int).toNat a0.size).toList = Aa.toList
     ·rw [if_pos c13] at H
      have Ab : ((a0.extract ((ji6) : Int).toNat a0.size).toList == Aa.toList) = true := bqi c13
      have Ac : ((a0.extract ((ji6) : Int).toNat a0.size).toList != Aa.toList) = false := bnf c13
      (first | rw [Ab] | rw [Ac] | (simp only [i64_w, i32_w]; first | rw [Ab] | rw [Ac]) | skip)
      clear c13; have Ah := eq_true (of_decide_eq_true as_q : 0 ≤ (ji6)); have Ai := eq_true (of_decide_eq_true as_q : (ji6) ≤ (a0.size : Int))
      simp only [Option.some.injEq, Prod.mk.injEq] at H
      obtain ⟨rfl, rfl⟩ := H
      refine done_ (done_of HT_.out (by kernel_rfl)) ?_
      try go_wp2
      go_ret2
      exact ⟨by first | rfl | (simp [errW_none, errW_some] <;> rfl) | (simp only [← hji6]; first | rfl | (simp [errW_none, errW_some] <;> rfl)) | (simp [*, errW_none, errW_some] <;> rfl), bw_q HB⟩
     ·rw [if_neg c13] at H
      have Ab : ((a0.extract ((ji6) : Int).toNat a0.size).toList == Aa.toList) = false := bqf c13
      have Ac : ((a0.extract ((ji6) : Int).toNat a0.size).toList != Aa.toList) = true := bni c13
      (first | rw [Ab] | rw [Ac] | (simp only [i64_w, i32_w]; first | rw [Ab] | rw [Ac]) | skip)
      simp only [Option.some.injEq, Prod.mk.injEq] at H
      obtain ⟨rfl, rfl⟩ := H
      refine done_ (done_of HT_.out (by kernel_rfl)) ?_
      try go_wp2
      go_ret2
      exact ⟨by first | rfl | (simp [errW_none, errW_some] <;> rfl) | (simp only [← hji6]; first | rfl | (simp [errW_none, errW_some] <;> rfl)) | (simp [*, errW_none, errW_some] <;> rfl), bw_q HB⟩
    ·rw [if_neg c8] at H
     exact absurd H (by simp)
   ·rw [if_neg c7] at H
    exact absurd H (by simp)

end Go.Proofs.Ytnecbkognpponaa.Q
