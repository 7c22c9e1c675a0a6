import Derived.Test.YthjmdiggglkeaaaXMergeQS
import Derived.Test.YthjmdiggglkeaaaXMergeQlawsheldNearS
/- A Go function as a Lean function, and its contract: for every input the Go code comes to what the Lean function tells. -/


namespace Go.Proofs.Ythjmdiggglkeaaa.Q
open Go.RowKit Go.Proofs.YthjmdiggglkeaaaW.PrintWords Go.Proofs.YthjmdiggglkeaaaW.PrintLast Go.Proofs.YthjmdiggglkeaaaW.PrintMore
attribute [local go_sem] max2_int min2_int max_two min_two max_three min_three max_four min_four   -- for this text's walks alone
set_option linter.unusedVariables false
set_option linter.unusedSimpArgs false

/-! ### laws_heldRecordS: function 33 -/
def laws_heldRecordS.l0 : Nat → List (S61) → Int → Int → Option (Int)
 | 0, _, _, _ => none
 | k + 1, x0, x1, x5 => if x5 < (x0.length : Int) then (if 0 ≤ x5 then (if ((rd_T61 x0 x5).f0) = x1 then (if ((rd_T61 x0 x5).f1) = (wrap64 (x1 + 1)) then (if ((rd_T61 x0 x5).f2) = (wrap64 ((wrap64 (x1 + 1)) + 1)) then (if ((rd_T61 x0 x5).f3) = (wrap64 ((wrap64 ((wrap64 (x1 + 1)) + 1)) + 1)) then (if ((rd_T61 x0 x5).f4) = (wrap64 ((wrap64 ((wrap64 ((wrap64 (x1 + 1)) + 1)) + 1)) + 1)) then ((laws_heldNearS.f k ((rd_T61 x0 x5).f5) (wrap64 ((wrap64 ((wrap64 ((wrap64 ((wrap64 (x1 + 1)) + 1)) + 1)) + 1)) + 1))).bind fun t764 => (if t764 < 0 then (some (-1)) else (if ((rd_T61 x0 x5).f6) = t764 then (if (((rd_T61 x0 x5).f7) != ((Int.tmod (wrap64 (t764 + 1)) 3) == 0)) = true then (some (-1)) else (laws_heldRecordS.l0 k x0 (wrap64 ((wrap64 (t764 + 1)) + 1)) (wrap64 (x5 + 1)))) else (some (-1))))) else (some (-1))) else (some (-1))) else (some (-1))) else (some (-1))) else (some (-1))) else (none)) else (some x1)
def laws_heldRecordS.f (k : Nat) (l0 : List (S61)) (a1 : Int) : Option (Int) := laws_heldRecordS.l0 k l0 a1 0
theorem laws_heldRecordS.mono_l : ∀ k, (∀ y0 y1 y2, LeO (laws_heldRecordS.l0 k y0 y1 y2) (laws_heldRecordS.l0 (k + 1) y0 y1 y2))
 | 0 => fun _ _ _ r h => by simp [laws_heldRecordS.l0] at h
 | k + 1 => by
  have ih0 := laws_heldRecordS.mono_l k
  ·intro y0 y1 y2
   unfold laws_heldRecordS.l0
   repeat' first
   | (with_reducible exact ih0 _ _ _)
   | (with_reducible exact laws_heldNearS.mono _ _ _)
   | (with_reducible exact LeO.refl _)
   | (with_reducible exact LeO.none _)
   | (with_reducible refine LeO.ite ?_ ?_)
   | (with_reducible refine LeO.bind ?_ (fun _ => ?_))
   | exact ih0 _ _ _
   | exact laws_heldNearS.mono _ _ _
   | exact LeO.none _
   | refine LeO.ite ?_ ?_
   | refine LeO.bind ?_ (fun _ => ?_)
theorem laws_heldRecordS.mono : ∀ a0 a1 k, LeO (laws_heldRecordS.f k a0 a1) (laws_heldRecordS.f (k + 1) a0 a1) := by
 intro a0 a1 k
 have ih0 := laws_heldRecordS.mono_l k
 unfold laws_heldRecordS.f
 repeat' first
   | (with_reducible exact ih0 _ _ _)
   | (with_reducible exact laws_heldNearS.mono _ _ _)
   | (with_reducible exact LeO.refl _)
   | (with_reducible exact LeO.none _)
   | (with_reducible refine LeO.ite ?_ ?_)
   | (with_reducible refine LeO.bind ?_ (fun _ => ?_))
   | exact ih0 _ _ _
   | exact laws_heldNearS.mono _ _ _
   | exact LeO.none _
   | refine LeO.ite ?_ ?_
   | refine LeO.bind ?_ (fun _ => ?_)
set_option maxHeartbeats 8000000 in
set_option maxRecDepth 100000 in
theorem laws_heldRecordS.calls (k : Nat) (A0 : Option Addr) (c0 : Nat) (l0 : List (S61)) (a1 : Int) (r : Int) (w : World) (hr0 : Kd.C k61 w A0 l0.length l0) (hc0 : l0.length ≤ c0) (h : laws_heldRecordS.f k l0 a1 = some r) :
  Calls Try.prog 33 #[.slice A0 l0.length c0, .int .i64 a1] w fun e w' => e = .returned (.int .i64 r) ∧ Drawn0 w w' := by
 have HR0 := Aside0.mk hr0
 have HC0 := Aside0.mk hc0
 clear hr0 hc0
 have H : (laws_heldRecordS.l0 k l0 a1 0) = some r := h
 clear h
 have H' := Aside0.mk H
 clear H
 go_enter Try.func33, Try.ntmps33
 go_wp2
 go_loopg [1, 5] k (fun kq v1 v5 w' => ∃ (x1_1 : Int) (x5_1 : Int), v1 = .int .i64 x1_1 ∧ v5 = .int .i64 x5_1 ∧ Aside0 (laws_heldRecordS.l0 kq l0 x1_1 x5_1 = some r) ∧ Aside0 (kq ≤ k) ∧ Drawn0 w w')
 case atStart => exact ⟨(a1), (0), (by first | rfl | (simp; done) | (simp [*]; done)), (by first | rfl | (simp; done) | (simp [*]; done)), H', ⟨Nat.le_refl _⟩, by repeat (first | exact Drawn0.refl _ | apply Drawn0.step)⟩
 case round =>
  clear H'
  try clear p2
  obtain ⟨x1_1, x5_1, rfl, rfl, HA, HK1, ⟨m1, rfl⟩⟩ := hrel
  cases gk with
  | zero => exact absurd HA.out (by simp [laws_heldRecordS.l0])
  | succ k1 =>
   have H := HA.out
   clear HA
   simp only [laws_heldRecordS.l0] at H
   by_cases c3 : x5_1 < (l0.length : Int)
   ·rw [if_pos c3] at H
    have c3b0 : decide (x5_1 < (l0.length : Int)) = true := decide_eq_true c3
    clear c3
    by_cases c4 : 0 ≤ x5_1
    ·rw [if_pos c4] at H
     have c4b0 : decide (0 ≤ x5_1) = true := decide_eq_true c4
     clear c4
     have HC5 := Aside0.mk H
     clear H
     have p758 : 0 ≤ (x5_1 : Int) := of_decide_eq_true (by first | (with_reducible assumption) | assumption)
     have q758 : x5_1 < (l0.length : Int) := of_decide_eq_true (by first | (with_reducible assumption) | assumption)
     obtain ⟨ad758, A758_5, c758_5, e758, hx758_0, hx758_1, hx758_2, hx758_3, hx758_4, hx758_5, hx758_6, hx758_7, hl758_5, hi758_5⟩ := at_T61 HR0.out x5_1 p758 q758
     cases e758
     have HR758_5 := Aside0.mk hi758_5
     have HC758_5 := Aside0.mk hl758_5
     clear hi758_5 hl758_5
     replace p758 := eq_true p758
     replace q758 := eq_true q758
     go_upto_if 18 with (fail)
     (try clear hx758_0); (try clear hx758_1); (try clear hx758_2); (try clear hx758_3); (try clear hx758_4); (try clear hx758_5); (try clear hx758_6); (try clear hx758_7)
     have H := HC5.out
     clear HC5
     by_cases c6 : ((rd_T61 l0 x5_1).f0) = x1_1
     ·rw [if_pos c6] at H
      have c6b0 : (((rd_T61 l0 x5_1).f0) == x1_1) = true := beq_iff_eq.mpr c6
      have c6b1 : (((rd_T61 l0 x5_1).f0) != x1_1) = false := bne_eq_false_iff_eq.mpr c6
      clear c6
      (first | rw [c6b0] | rw [c6b1] | (simp only [i64_w, i32_w]; first | rw [c6b0] | rw [c6b1]) | skip)
      have HC7 := Aside0.mk H
      clear H
      have p759 : 0 ≤ (x5_1 : Int) := of_decide_eq_true (by first | (with_reducible assumption) | assumption)
      have q759 : x5_1 < (l0.length : Int) := of_decide_eq_true (by first | (with_reducible assumption) | assumption)
      obtain ⟨ad759, A759_5, c759_5, e759, hx759_0, hx759_1, hx759_2, hx759_3, hx759_4, hx759_5, hx759_6, hx759_7, hl759_5, hi759_5⟩ := at_T61 HR0.out x5_1 p759 q759
      obtain rfl : ad758 = ad759 := (by injection e759)
      have HR759_5 := Aside0.mk hi759_5
      have HC759_5 := Aside0.mk hl759_5
      clear hi759_5 hl759_5
      replace p759 := eq_true p759
      replace q759 := eq_true q759
      go_upto_if 27 with (fail)
      (try clear hx759_0); (try clear hx759_1); (try clear hx759_2); (try clear hx759_3); (try clear hx759_4); (try clear hx759_5); (try clear hx759_6); (try clear hx759_7)
      have H := HC7.out
      clear HC7
      by_cases c8 : ((rd_T61 l0 x5_1).f1) = (wrap64 (x1_1 + 1))
      ·rw [if_pos c8] at H
       have c8b0 : (((rd_T61 l0 x5_1).f1) == (wrap64 (x1_1 + 1))) = true := beq_iff_eq.mpr c8
       have c8b1 : (((rd_T61 l0 x5_1).f1) != (wrap64 (x1_1 + 1))) = false := bne_eq_false_iff_eq.mpr c8
       clear c8
       (first | rw [c8b0] | rw [c8b1] | (simp only [i64_w, i32_w]; first | rw [c8b0] | rw [c8b1]) | skip)
       have HC9 := Aside0.mk H
       clear H
       have p760 : 0 ≤ (x5_1 : Int) := of_decide_eq_true (by first | (with_reducible assumption) | assumption)
       have q760 : x5_1 < (l0.length : Int) := of_decide_eq_true (by first | (with_reducible assumption) | assumption)
       obtain ⟨ad760, A760_5, c760_5, e760, hx760_0, hx760_1, hx760_2, hx760_3, hx760_4, hx760_5, hx760_6, hx760_7, hl760_5, hi760_5⟩ := at_T61 HR0.out x5_1 p760 q760
       obtain rfl : ad758 = ad760 := (by injection e760)
       have HR760_5 := Aside0.mk hi760_5
       have HC760_5 := Aside0.mk hl760_5
       clear hi760_5 hl760_5
       replace p760 := eq_true p760
       replace q760 := eq_true q760
       go_upto_if 36 with (fail)
       (try clear hx760_0); (try clear hx760_1); (try clear hx760_2); (try clear hx760_3); (try clear hx760_4); (try clear hx760_5); (try clear hx760_6); (try clear hx760_7)
       have H := HC9.out
       clear HC9
       by_cases c10 : ((rd_T61 l0 x5_1).f2) = (wrap64 ((wrap64 (x1_1 + 1)) + 1))
       ·rw [if_pos c10] at H
        have c10b0 : (((rd_T61 l0 x5_1).f2) == (wrap64 ((wrap64 (x1_1 + 1)) + 1))) = true := beq_iff_eq.mpr c10
        have c10b1 : (((rd_T61 l0 x5_1).f2) != (wrap64 ((wrap64 (x1_1 + 1)) + 1))) = false := bne_eq_false_iff_eq.mpr c10
        clear c10
        (first | rw [c10b0] | rw [c10b1] | (simp only [i64_w, i32_w]; first | rw [c10b0] | rw [c10b1]) | skip)
        have HC11 := Aside0.mk H
        clear H
        have p761 : 0 ≤ (x5_1 : Int) := of_decide_eq_true (by first | (with_reducible assumption) | assumption)
        have q761 : x5_1 < (l0.length : Int) := of_decide_eq_true (by first | (with_reducible assumption) | assumption)
        obtain ⟨ad761, A761_5, c761_5, e761, hx761_0, hx761_1, hx761_2, hx761_3, hx761_4, hx761_5, hx761_6, hx761_7, hl761_5, hi761_5⟩ := at_T61 HR0.out x5_1 p761 q761
        obtain rfl : ad758 = ad761 := (by injection e761)
        have HR761_5 := Aside0.mk hi761_5
        have HC761_5 := Aside0.mk hl761_5
        clear hi761_5 hl761_5
        replace p761 := eq_true p761
        replace q761 := eq_true q761
        go_upto_if 45 with (fail)
        (try clear hx761_0); (try clear hx761_1); (try clear hx761_2); (try clear hx761_3); (try clear hx761_4); (try clear hx761_5); (try clear hx761_6); (try clear hx761_7)
        have H := HC11.out
        clear HC11
        by_cases c12 : ((rd_T61 l0 x5_1).f3) = (wrap64 ((wrap64 ((wrap64 (x1_1 + 1)) + 1)) + 1))
        ·rw [if_pos c12] at H
         have c12b0 : (((rd_T61 l0 x5_1).f3) == (wrap64 ((wrap64 ((wrap64 (x1_1 + 1)) + 1)) + 1))) = true := beq_iff_eq.mpr c12
         have c12b1 : (((rd_T61 l0 x5_1).f3) != (wrap64 ((wrap64 ((wrap64 (x1_1 + 1)) + 1)) + 1))) = false := bne_eq_false_iff_eq.mpr c12
         clear c12
         (first | rw [c12b0] | rw [c12b1] | (simp only [i64_w, i32_w]; first | rw [c12b0] | rw [c12b1]) | skip)
         have HC13 := Aside0.mk H
         clear H
         have p762 : 0 ≤ (x5_1 : Int) := of_decide_eq_true (by first | (with_reducible assumption) | assumption)
         have q762 : x5_1 < (l0.length : Int) := of_decide_eq_true (by first | (with_reducible assumption) | assumption)
         obtain ⟨ad762, A762_5, c762_5, e762, hx762_0, hx762_1, hx762_2, hx762_3, hx762_4, hx762_5, hx762_6, hx762_7, hl762_5, hi762_5⟩ := at_T61 HR0.out x5_1 p762 q762
         obtain rfl : ad758 = ad762 := (by injection e762)
         have HR762_5 := Aside0.mk hi762_5
         have HC762_5 := Aside0.mk hl762_5
         clear hi762_5 hl762_5
         replace p762 := eq_true p762
         replace q762 := eq_true q762
         go_upto_if 54 with (fail)
         (try clear hx762_0); (try clear hx762_1); (try clear hx762_2); (try clear hx762_3); (try clear hx762_4); (try clear hx762_5); (try clear hx762_6); (try clear hx762_7)
         have H := HC13.out
         clear HC13
         by_cases c14 : ((rd_T61 l0 x5_1).f4) = (wrap64 ((wrap64 ((wrap64 ((wrap64 (x1_1 + 1)) + 1)) + 1)) + 1))
         ·rw [if_pos c14] at H
          have c14b0 : (((rd_T61 l0 x5_1).f4) == (wrap64 ((wrap64 ((wrap64 ((wrap64 (x1_1 + 1)) + 1)) + 1)) + 1))) = true := beq_iff_eq.mpr c14
          have c14b1 : (((rd_T61 l0 x5_1).f4) != (wrap64 ((wrap64 ((wrap64 ((wrap64 (x1_1 + 1)) + 1)) + 1)) + 1))) = false := bne_eq_false_iff_eq.mpr c14
          clear c14
          (first | rw [c14b0] | rw [c14b1] | (simp only [i64_w, i32_w]; first | rw [c14b0] | rw [c14b1]) | skip)
          replace H := Option.bind_eq_some_iff.mp H
          obtain ⟨t764, A150, H⟩ := H
          replace H : (if t764 < 0 then (some (-1)) else (if ((rd_T61 l0 x5_1).f6) = t764 then (if (((rd_T61 l0 x5_1).f7) != ((Int.tmod (wrap64 (t764 + 1)) 3) == 0)) = true then (some (-1)) else (laws_heldRecordS.l0 k1 l0 (wrap64 ((wrap64 (t764 + 1)) + 1)) (wrap64 (x5_1 + 1)))) else (some (-1)))) = some r := H
          have A15 := Aside0.mk A150
          clear A150
          have HC16 := Aside0.mk H
          clear H
          have p763 : 0 ≤ (x5_1 : Int) := of_decide_eq_true (by first | (with_reducible assumption) | assumption)
          have q763 : x5_1 < (l0.length : Int) := of_decide_eq_true (by first | (with_reducible assumption) | assumption)
          obtain ⟨ad763, A763_5, c763_5, e763, hx763_0, hx763_1, hx763_2, hx763_3, hx763_4, hx763_5, hx763_6, hx763_7, hl763_5, hi763_5⟩ := at_T61 HR0.out x5_1 p763 q763
          obtain rfl : ad758 = ad763 := (by injection e763)
          have HR763_5 := Aside0.mk hi763_5
          have HC763_5 := Aside0.mk hl763_5
          clear hi763_5 hl763_5
          replace p763 := eq_true p763
          replace q763 := eq_true q763
          go_upto_if 65 with (first | ((with_reducible refine gate_callee (f := 103) rfl ?_); refine goesL_ (some 63) rfl rfl Try.func103 (by kernel_rfl) rfl #[.slice A763_5 ((rd_T61 l0 x5_1).f5).length c763_5, .int .i64 (wrap64 ((wrap64 ((wrap64 ((wrap64 ((wrap64 (x1_1 + 1)) + 1)) + 1)) + 1)) + 1))] rfl mp_q ?_; (with_reducible refine (laws_heldNearS.calls k1 _ _ ((rd_T61 l0 x5_1).f5) (wrap64 ((wrap64 ((wrap64 ((wrap64 ((wrap64 (x1_1 + 1)) + 1)) + 1)) + 1)) + 1)) t764 _ ?side1 ?side2 A15.out).mono ?_); (case side1 => repeat (first | exact HR763_5.out | (with_reducible refine Kd.C_alloc ?_ _) | (with_reducible refine Kd.C_drewN ?_ _) | (with_reducible refine Kd.C_drew ?_))); (case side2 => exact HC763_5.out); rintro e w' ⟨rfl, ⟨nd, rfl⟩⟩; refine ⟨_, rfl, ?_⟩))
          (try clear hx763_0); (try clear hx763_1); (try clear hx763_2); (try clear hx763_3); (try clear hx763_4); (try clear hx763_5); (try clear hx763_6); (try clear hx763_7)
          have H := HC16.out
          clear HC16
          by_cases c17 : t764 < 0
          ·rw [if_pos c17] at H
           have c17b0 : decide (t764 < 0) = true := decide_eq_true c17
           clear c17
           (first | rw [c17b0] | rw [c17b1] | (simp only [i64_w, i32_w]; first | rw [c17b0] | rw [c17b1]) | skip)
           obtain rfl := Option.some.inj H
           go_wp2
           go_ret
           exact ⟨by first | rfl | (simp; done) | (simp [*]; done), by repeat (first | exact Drawn0.refl _ | apply Drawn0.step)⟩
          ·rw [if_neg c17] at H
           have c17b0 : decide (t764 < 0) = false := decide_eq_false c17
           clear c17
           (first | rw [c17b0] | rw [c17b1] | (simp only [i64_w, i32_w]; first | rw [c17b0] | rw [c17b1]) | skip)
           have HC18 := Aside0.mk H
           clear H
           have p765 : 0 ≤ (x5_1 : Int) := of_decide_eq_true (by first | (with_reducible assumption) | assumption)
           have q765 : x5_1 < (l0.length : Int) := of_decide_eq_true (by first | (with_reducible assumption) | assumption)
           obtain ⟨ad765, A765_5, c765_5, e765, hx765_0, hx765_1, hx765_2, hx765_3, hx765_4, hx765_5, hx765_6, hx765_7, hl765_5, hi765_5⟩ := at_T61 HR0.out x5_1 p765 q765
           obtain rfl : ad758 = ad765 := (by injection e765)
           have HR765_5 := Aside0.mk hi765_5
           have HC765_5 := Aside0.mk hl765_5
           clear hi765_5 hl765_5
           replace p765 := eq_true p765
           replace q765 := eq_true q765
           go_upto_if 72 with (fail)
           (try clear hx765_0); (try clear hx765_1); (try clear hx765_2); (try clear hx765_3); (try clear hx765_4); (try clear hx765_5); (try clear hx765_6); (try clear hx765_7)
           have H := HC18.out
           clear HC18
           by_cases c19 : ((rd_T61 l0 x5_1).f6) = t764
           ·rw [if_pos c19] at H
            have c19b0 : (((rd_T61 l0 x5_1).f6) == t764) = true := beq_iff_eq.mpr c19
            have c19b1 : (((rd_T61 l0 x5_1).f6) != t764) = false := bne_eq_false_iff_eq.mpr c19
            clear c19
            (first | rw [c19b0] | rw [c19b1] | (simp only [i64_w, i32_w]; first | rw [c19b0] | rw [c19b1]) | skip)
            by_cases c20 : (((rd_T61 l0 x5_1).f7) != ((Int.tmod (wrap64 (t764 + 1)) 3) == 0)) = true
            ·rw [if_pos c20] at H
             have c20b0 : (((rd_T61 l0 x5_1).f7) != ((Int.tmod (wrap64 (t764 + 1)) 3) == 0)) = true := c20
             (try (have c20b1 : decide (((rd_T61 l0 x5_1).f7) = ((Int.tmod (wrap64 (t764 + 1)) 3) == 0)) = false := by simpa using c20))
             (try (have c20b2 : (((rd_T61 l0 x5_1).f7) == ((Int.tmod (wrap64 (t764 + 1)) 3) == 0)) = false := by simpa using c20))
             (try (have c20b3 : ¬ (((rd_T61 l0 x5_1).f7) = ((Int.tmod (wrap64 (t764 + 1)) 3) == 0)) := by simpa using c20))
             clear c20
             obtain rfl := Option.some.inj H
             have p766 : 0 ≤ (x5_1 : Int) := of_decide_eq_true (by first | (with_reducible assumption) | assumption)
             have q766 : x5_1 < (l0.length : Int) := of_decide_eq_true (by first | (with_reducible assumption) | assumption)
             obtain ⟨ad766, A766_5, c766_5, e766, hx766_0, hx766_1, hx766_2, hx766_3, hx766_4, hx766_5, hx766_6, hx766_7, hl766_5, hi766_5⟩ := at_T61 HR0.out x5_1 p766 q766
             obtain rfl : ad758 = ad766 := (by injection e766)
             have HR766_5 := Aside0.mk hi766_5
             have HC766_5 := Aside0.mk hl766_5
             clear hi766_5 hl766_5
             replace p766 := eq_true p766
             replace q766 := eq_true q766
             go_wp2
             go_ret
             exact ⟨by first | rfl | (simp; done) | (simp [*]; done), by repeat (first | exact Drawn0.refl _ | apply Drawn0.step)⟩
            ·rw [if_neg c20] at H
             have c20b0 : (((rd_T61 l0 x5_1).f7) != ((Int.tmod (wrap64 (t764 + 1)) 3) == 0)) = false := by simpa using c20
             (try (have c20b1 : decide (((rd_T61 l0 x5_1).f7) = ((Int.tmod (wrap64 (t764 + 1)) 3) == 0)) = true := by simpa using c20))
             (try (have c20b2 : (((rd_T61 l0 x5_1).f7) == ((Int.tmod (wrap64 (t764 + 1)) 3) == 0)) = true := by simpa using c20))
             clear c20
             have H' := Aside0.mk H
             clear H
             have p766 : 0 ≤ (x5_1 : Int) := of_decide_eq_true (by first | (with_reducible assumption) | assumption)
             have q766 : x5_1 < (l0.length : Int) := of_decide_eq_true (by first | (with_reducible assumption) | assumption)
             obtain ⟨ad766, A766_5, c766_5, e766, hx766_0, hx766_1, hx766_2, hx766_3, hx766_4, hx766_5, hx766_6, hx766_7, hl766_5, hi766_5⟩ := at_T61 HR0.out x5_1 p766 q766
             obtain rfl : ad758 = ad766 := (by injection e766)
             have HR766_5 := Aside0.mk hi766_5
             have HC766_5 := Aside0.mk hl766_5
             clear hi766_5 hl766_5
             replace p766 := eq_true p766
             replace q766 := eq_true q766
             go_wp2
             go_roundg k1
             case measure => have := HK1.out; omega
             case rel => exact ⟨(wrap64 ((wrap64 (t764 + 1)) + 1)), (wrap64 (x5_1 + 1)), (by first | rfl | (simp; done) | (simp [*]; done)), (by first | rfl | (simp; done) | (simp [*]; done)), H', ⟨by have := HK1.out; omega⟩, by repeat (first | exact Drawn0.refl _ | apply Drawn0.step)⟩
           ·rw [if_neg c19] at H
            have c19b0 : (((rd_T61 l0 x5_1).f6) == t764) = false := beq_eq_false_iff_ne.mpr c19
            have c19b1 : (((rd_T61 l0 x5_1).f6) != t764) = true := bne_iff_ne.mpr c19
            (first | rw [c19b0] | rw [c19b1] | (simp only [i64_w, i32_w]; first | rw [c19b0] | rw [c19b1]) | skip)
            obtain rfl := Option.some.inj H
            go_wp2
            go_ret
            exact ⟨by first | rfl | (simp; done) | (simp [*]; done), by repeat (first | exact Drawn0.refl _ | apply Drawn0.step)⟩
         ·rw [if_neg c14] at H
          have c14b0 : (((rd_T61 l0 x5_1).f4) == (wrap64 ((wrap64 ((wrap64 ((wrap64 (x1_1 + 1)) + 1)) + 1)) + 1))) = false := beq_eq_false_iff_ne.mpr c14
          have c14b1 : (((rd_T61 l0 x5_1).f4) != (wrap64 ((wrap64 ((wrap64 ((wrap64 (x1_1 + 1)) + 1)) + 1)) + 1))) = true := bne_iff_ne.mpr c14
          (first | rw [c14b0] | rw [c14b1] | (simp only [i64_w, i32_w]; first | rw [c14b0] | rw [c14b1]) | skip)
          obtain rfl := Option.some.inj H
          go_wp2
          go_ret
          exact ⟨by first | rfl | (simp; done) | (simp [*]; done), by repeat (first | exact Drawn0.refl _ | apply Drawn0.step)⟩
        ·rw [if_neg c12] at H
         have c12b0 : (((rd_T61 l0 x5_1).f3) == (wrap64 ((wrap64 ((wrap64 (x1_1 + 1)) + 1)) + 1))) = false := beq_eq_false_iff_ne.mpr c12
         have c12b1 : (((rd_T61 l0 x5_1).f3) != (wrap64 ((wrap64 ((wrap64 (x1_1 + 1)) + 1)) + 1))) = true := bne_iff_ne.mpr c12
         (first | rw [c12b0] | rw [c12b1] | (simp only [i64_w, i32_w]; first | rw [c12b0] | rw [c12b1]) | skip)
         obtain rfl := Option.some.inj H
         go_wp2
         go_ret
         exact ⟨by first | rfl | (simp; done) | (simp [*]; done), by repeat (first | exact Drawn0.refl _ | apply Drawn0.step)⟩
       ·rw [if_neg c10] at H
        have c10b0 : (((rd_T61 l0 x5_1).f2) == (wrap64 ((wrap64 (x1_1 + 1)) + 1))) = false := beq_eq_false_iff_ne.mpr c10
        have c10b1 : (((rd_T61 l0 x5_1).f2) != (wrap64 ((wrap64 (x1_1 + 1)) + 1))) = true := bne_iff_ne.mpr c10
        (first | rw [c10b0] | rw [c10b1] | (simp only [i64_w, i32_w]; first | rw [c10b0] | rw [c10b1]) | skip)
        obtain rfl := Option.some.inj H
        go_wp2
        go_ret
        exact ⟨by first | rfl | (simp; done) | (simp [*]; done), by repeat (first | exact Drawn0.refl _ | apply Drawn0.step)⟩
      ·rw [if_neg c8] at H
       have c8b0 : (((rd_T61 l0 x5_1).f1) == (wrap64 (x1_1 + 1))) = false := beq_eq_false_iff_ne.mpr c8
       have c8b1 : (((rd_T61 l0 x5_1).f1) != (wrap64 (x1_1 + 1))) = true := bne_iff_ne.mpr c8
       (first | rw [c8b0] | rw [c8b1] | (simp only [i64_w, i32_w]; first | rw [c8b0] | rw [c8b1]) | skip)
       obtain rfl := Option.some.inj H
       go_wp2
       go_ret
       exact ⟨by first | rfl | (simp; done) | (simp [*]; done), by repeat (first | exact Drawn0.refl _ | apply Drawn0.step)⟩
     ·rw [if_neg c6] at H
      have c6b0 : (((rd_T61 l0 x5_1).f0) == x1_1) = false := beq_eq_false_iff_ne.mpr c6
      have c6b1 : (((rd_T61 l0 x5_1).f0) != x1_1) = true := bne_iff_ne.mpr c6
      (first | rw [c6b0] | rw [c6b1] | (simp only [i64_w, i32_w]; first | rw [c6b0] | rw [c6b1]) | skip)
      obtain rfl := Option.some.inj H
      go_wp2
      go_ret
      exact ⟨by first | rfl | (simp; done) | (simp [*]; done), by repeat (first | exact Drawn0.refl _ | apply Drawn0.step)⟩
    ·rw [if_neg c4] at H
     exact absurd H (by simp)
   ·rw [if_neg c3] at H
    have c3b0 : decide (x5_1 < (l0.length : Int)) = false := decide_eq_false c3
    clear c3
    obtain rfl := Option.some.inj H
    go_wp2
    go_ret
    exact ⟨by first | rfl | (simp; done) | (simp [*]; done), by repeat (first | exact Drawn0.refl _ | apply Drawn0.step)⟩

end Go.Proofs.Ythjmdiggglkeaaa.Q
