/- A Go function as a Lean function, and its contract: for every input the Go code comes to what the Lean function tells. -/
import Derived.Test.YtjkjhaiemephdabQk
import Derived.Test.YtjkjhaiemephdabQlawsheldNearS
namespace Go.Proofs.Ytjkjhaiemephdab.Q
open Go.RowKit Go.Proofs.YtjkjhaiemephdabW.PrintWords Go.Proofs.YtjkjhaiemephdabW.PrintLast Go.Proofs.YtjkjhaiemephdabW.PrintMore
attribute [local go_sem] max2_int min2_int max_two min_two max_three min_three max_four min_four   -- for this text's walks alone
set_option linter.unusedVariables false
set_option linter.unusedSimpArgs false

/-! ### laws_heldRecordS: function 54 -/
def laws_heldRecordS.l0 : Nat → List (S52) → Int → Int → Option (Int)
  | 0, _, _, _ => none
  | k + 1, x0, x1, x5 => if x5 < (x0.length : Int) then (if 0 ≤ x5 then (if ((rd_T52 x0 x5).f0) = x1 then (if ((rd_T52 x0 x5).f1) = (wrap64 (x1 + 1)) then (if ((rd_T52 x0 x5).f2) = (wrap64 ((wrap64 (x1 + 1)) + 1)) then (if ((rd_T52 x0 x5).f3) = (wrap64 ((wrap64 ((wrap64 (x1 + 1)) + 1)) + 1)) then (if ((rd_T52 x0 x5).f4) = (wrap64 ((wrap64 ((wrap64 ((wrap64 (x1 + 1)) + 1)) + 1)) + 1)) then ((laws_heldNearS.f k ((rd_T52 x0 x5).f5) (wrap64 ((wrap64 ((wrap64 ((wrap64 ((wrap64 (x1 + 1)) + 1)) + 1)) + 1)) + 1))).bind fun t1135 => (if t1135 < 0 then (some (-1)) else (if ((rd_T52 x0 x5).f6) = t1135 then (if (((rd_T52 x0 x5).f7) != ((Int.tmod (wrap64 (t1135 + 1)) 3) == 0)) = true then (some (-1)) else (laws_heldRecordS.l0 k x0 (wrap64 ((wrap64 (t1135 + 1)) + 1)) (wrap64 (x5 + 1)))) else (some (-1))))) else (some (-1))) else (some (-1))) else (some (-1))) else (some (-1))) else (some (-1))) else (none)) else (some x1)
def laws_heldRecordS.f (k : Nat) (l0 : List (S52)) (a1 : Int) : Option (Int) := laws_heldRecordS.l0 k l0 a1 0
theorem laws_heldRecordS.mono_l : ∀ k, (∀ y0 y1 y2, LeO (laws_heldRecordS.l0 k y0 y1 y2) (laws_heldRecordS.l0 (k + 1) y0 y1 y2))
  | 0 => fun _ _ _ r h => by simp [laws_heldRecordS.l0] at h
  | k + 1 => by
    have ih0 := laws_heldRecordS.mono_l k
    · intro y0 y1 y2
      unfold laws_heldRecordS.l0
      repeat' first
      | (with_reducible exact ih0 _ _ _)
      | (with_reducible exact laws_heldNearS.mono _ _ _)
      | (with_reducible exact LeO.refl _)
      | (with_reducible exact LeO.none _)
      | (with_reducible refine LeO.ite ?_ ?_)
      | (with_reducible refine LeO.bind ?_ (fun _ => ?_))
      | exact ih0 _ _ _
      | exact laws_heldNearS.mono _ _ _
      | exact LeO.none _
      | refine LeO.ite ?_ ?_
      | refine LeO.bind ?_ (fun _ => ?_)
theorem laws_heldRecordS.mono : ∀ a0 a1 k, LeO (laws_heldRecordS.f k a0 a1) (laws_heldRecordS.f (k + 1) a0 a1) := by
  intro a0 a1 k
  have ih0 := laws_heldRecordS.mono_l k
  unfold laws_heldRecordS.f
  repeat' first
      | (with_reducible exact ih0 _ _ _)
      | (with_reducible exact laws_heldNearS.mono _ _ _)
      | (with_reducible exact LeO.refl _)
      | (with_reducible exact LeO.none _)
      | (with_reducible refine LeO.ite ?_ ?_)
      | (with_reducible refine LeO.bind ?_ (fun _ => ?_))
      | exact ih0 _ _ _
      | exact laws_heldNearS.mono _ _ _
      | exact LeO.none _
      | refine LeO.ite ?_ ?_
      | refine LeO.bind ?_ (fun _ => ?_)
set_option maxHeartbeats 8000000 in
set_option maxRecDepth 100000 in
theorem laws_heldRecordS.calls (k : Nat) (A0 : Option Addr) (c0 : Nat) (l0 : List (S52)) (a1 : Int) (r : Int) (w : World) (hr0 : Kd.C k52 w A0 l0.length l0) (hc0 : l0.length ≤ c0) (h : laws_heldRecordS.f k l0 a1 = some r) :
    Calls Try.prog 54 #[.slice A0 l0.length c0, .int .i64 a1] w fun e w' => e = .returned (.int .i64 r) ∧ Drawn0 w w' := by
  have HR0 := Aside0.mk hr0
  have HC0 := Aside0.mk hc0
  clear hr0 hc0
  have H : (laws_heldRecordS.l0 k l0 a1 0) = some r := h
  clear h
  have H' := Aside0.mk H
  clear H
  go_enter Try.func54, Try.ntmps54
  go_wp2
  go_loopg [1, 5] k (fun kq v1 v5 w' => ∃ (x1_1 : Int) (x5_1 : Int), v1 = .int .i64 x1_1 ∧ v5 = .int .i64 x5_1 ∧ Aside0 (laws_heldRecordS.l0 kq l0 x1_1 x5_1 = some r) ∧ Aside0 (kq ≤ k) ∧ Drawn0 w w')
  case atStart => exact ⟨(a1), (0), (by first | rfl | (simp; done) | (simp [*]; done)), (by first | rfl | (simp; done) | (simp [*]; done)), H', ⟨Nat.le_refl _⟩, by repeat (first | exact Drawn0.refl _ | apply Drawn0.step)⟩
  case round =>
    clear H'
    try clear p2
    obtain ⟨x1_1, x5_1, rfl, rfl, HA, HK1, ⟨m1, rfl⟩⟩ := hrel
    cases gk with
    | zero => exact absurd HA.out (by simp [laws_heldRecordS.l0])
    | succ k1 =>
      have H := HA.out
      clear HA
      simp only [laws_heldRecordS.l0] at H
      by_cases c3 : x5_1 < (l0.length : Int)
      · rw [if_pos c3] at H
        have c3b0 : decide (x5_1 < (l0.length : Int)) = true := decide_eq_true c3
        clear c3
        by_cases c4 : 0 ≤ x5_1
        · rw [if_pos c4] at H
          have c4b0 : decide (0 ≤ x5_1) = true := decide_eq_true c4
          clear c4
          by_cases c5 : ((rd_T52 l0 x5_1).f0) = x1_1
          · rw [if_pos c5] at H
            have c5b0 : (((rd_T52 l0 x5_1).f0) == x1_1) = true := beq_iff_eq.mpr c5
            have c5b1 : (((rd_T52 l0 x5_1).f0) != x1_1) = false := bne_eq_false_iff_eq.mpr c5
            clear c5
            by_cases c6 : ((rd_T52 l0 x5_1).f1) = (wrap64 (x1_1 + 1))
            · rw [if_pos c6] at H
              have c6b0 : (((rd_T52 l0 x5_1).f1) == (wrap64 (x1_1 + 1))) = true := beq_iff_eq.mpr c6
              have c6b1 : (((rd_T52 l0 x5_1).f1) != (wrap64 (x1_1 + 1))) = false := bne_eq_false_iff_eq.mpr c6
              clear c6
              by_cases c7 : ((rd_T52 l0 x5_1).f2) = (wrap64 ((wrap64 (x1_1 + 1)) + 1))
              · rw [if_pos c7] at H
                have c7b0 : (((rd_T52 l0 x5_1).f2) == (wrap64 ((wrap64 (x1_1 + 1)) + 1))) = true := beq_iff_eq.mpr c7
                have c7b1 : (((rd_T52 l0 x5_1).f2) != (wrap64 ((wrap64 (x1_1 + 1)) + 1))) = false := bne_eq_false_iff_eq.mpr c7
                clear c7
                by_cases c8 : ((rd_T52 l0 x5_1).f3) = (wrap64 ((wrap64 ((wrap64 (x1_1 + 1)) + 1)) + 1))
                · rw [if_pos c8] at H
                  have c8b0 : (((rd_T52 l0 x5_1).f3) == (wrap64 ((wrap64 ((wrap64 (x1_1 + 1)) + 1)) + 1))) = true := beq_iff_eq.mpr c8
                  have c8b1 : (((rd_T52 l0 x5_1).f3) != (wrap64 ((wrap64 ((wrap64 (x1_1 + 1)) + 1)) + 1))) = false := bne_eq_false_iff_eq.mpr c8
                  clear c8
                  by_cases c9 : ((rd_T52 l0 x5_1).f4) = (wrap64 ((wrap64 ((wrap64 ((wrap64 (x1_1 + 1)) + 1)) + 1)) + 1))
                  · rw [if_pos c9] at H
                    have c9b0 : (((rd_T52 l0 x5_1).f4) == (wrap64 ((wrap64 ((wrap64 ((wrap64 (x1_1 + 1)) + 1)) + 1)) + 1))) = true := beq_iff_eq.mpr c9
                    have c9b1 : (((rd_T52 l0 x5_1).f4) != (wrap64 ((wrap64 ((wrap64 ((wrap64 (x1_1 + 1)) + 1)) + 1)) + 1))) = false := bne_eq_false_iff_eq.mpr c9
                    clear c9
                    replace H := Option.bind_eq_some_iff.mp H
                    obtain ⟨t1135, A100, H⟩ := H
                    replace H : (if t1135 < 0 then (some (-1)) else (if ((rd_T52 l0 x5_1).f6) = t1135 then (if (((rd_T52 l0 x5_1).f7) != ((Int.tmod (wrap64 (t1135 + 1)) 3) == 0)) = true then (some (-1)) else (laws_heldRecordS.l0 k1 l0 (wrap64 ((wrap64 (t1135 + 1)) + 1)) (wrap64 (x5_1 + 1)))) else (some (-1)))) = some r := H
                    have A10 := Aside0.mk A100
                    clear A100
                    by_cases c11 : t1135 < 0
                    · rw [if_pos c11] at H
                      have c11b0 : decide (t1135 < 0) = true := decide_eq_true c11
                      clear c11
                      obtain rfl := Option.some.inj H
                      have p1129 : 0 ≤ (x5_1 : Int) := of_decide_eq_true (by first | (with_reducible assumption) | assumption)
                      have q1129 : x5_1 < (l0.length : Int) := of_decide_eq_true (by first | (with_reducible assumption) | assumption)
                      obtain ⟨ad1129, A1129_5, c1129_5, e1129, hx1129_0, hx1129_1, hx1129_2, hx1129_3, hx1129_4, hx1129_5, hx1129_6, hx1129_7, hl1129_5, hi1129_5⟩ := at_T52 HR0.out x5_1 p1129 q1129
                      cases e1129
                      have HR1129_5 := Aside0.mk hi1129_5
                      have HC1129_5 := Aside0.mk hl1129_5
                      clear hi1129_5 hl1129_5
                      replace p1129 := eq_true p1129
                      replace q1129 := eq_true q1129
                      have p1130 : 0 ≤ (x5_1 : Int) := of_decide_eq_true (by first | (with_reducible assumption) | assumption)
                      have q1130 : x5_1 < (l0.length : Int) := of_decide_eq_true (by first | (with_reducible assumption) | assumption)
                      obtain ⟨ad1130, A1130_5, c1130_5, e1130, hx1130_0, hx1130_1, hx1130_2, hx1130_3, hx1130_4, hx1130_5, hx1130_6, hx1130_7, hl1130_5, hi1130_5⟩ := at_T52 HR0.out x5_1 p1130 q1130
                      obtain rfl : ad1129 = ad1130 := (by injection e1130)
                      have HR1130_5 := Aside0.mk hi1130_5
                      have HC1130_5 := Aside0.mk hl1130_5
                      clear hi1130_5 hl1130_5
                      replace p1130 := eq_true p1130
                      replace q1130 := eq_true q1130
                      have ea_ := Option.some.inj (hx1129_5.symm.trans hx1130_5)
                      injection ea_ with ea_ en_ ec_
                      subst ea_
                      subst ec_
                      clear en_
                      have p1131 : 0 ≤ (x5_1 : Int) := of_decide_eq_true (by first | (with_reducible assumption) | assumption)
                      have q1131 : x5_1 < (l0.length : Int) := of_decide_eq_true (by first | (with_reducible assumption) | assumption)
                      obtain ⟨ad1131, A1131_5, c1131_5, e1131, hx1131_0, hx1131_1, hx1131_2, hx1131_3, hx1131_4, hx1131_5, hx1131_6, hx1131_7, hl1131_5, hi1131_5⟩ := at_T52 HR0.out x5_1 p1131 q1131
                      obtain rfl : ad1129 = ad1131 := (by injection e1131)
                      have HR1131_5 := Aside0.mk hi1131_5
                      have HC1131_5 := Aside0.mk hl1131_5
                      clear hi1131_5 hl1131_5
                      replace p1131 := eq_true p1131
                      replace q1131 := eq_true q1131
                      have ea_ := Option.some.inj (hx1129_5.symm.trans hx1131_5)
                      injection ea_ with ea_ en_ ec_
                      subst ea_
                      subst ec_
                      clear en_
                      have p1132 : 0 ≤ (x5_1 : Int) := of_decide_eq_true (by first | (with_reducible assumption) | assumption)
                      have q1132 : x5_1 < (l0.length : Int) := of_decide_eq_true (by first | (with_reducible assumption) | assumption)
                      obtain ⟨ad1132, A1132_5, c1132_5, e1132, hx1132_0, hx1132_1, hx1132_2, hx1132_3, hx1132_4, hx1132_5, hx1132_6, hx1132_7, hl1132_5, hi1132_5⟩ := at_T52 HR0.out x5_1 p1132 q1132
                      obtain rfl : ad1129 = ad1132 := (by injection e1132)
                      have HR1132_5 := Aside0.mk hi1132_5
                      have HC1132_5 := Aside0.mk hl1132_5
                      clear hi1132_5 hl1132_5
                      replace p1132 := eq_true p1132
                      replace q1132 := eq_true q1132
                      have ea_ := Option.some.inj (hx1129_5.symm.trans hx1132_5)
                      injection ea_ with ea_ en_ ec_
                      subst ea_
                      subst ec_
                      clear en_
                      have p1133 : 0 ≤ (x5_1 : Int) := of_decide_eq_true (by first | (with_reducible assumption) | assumption)
                      have q1133 : x5_1 < (l0.length : Int) := of_decide_eq_true (by first | (with_reducible assumption) | assumption)
                      obtain ⟨ad1133, A1133_5, c1133_5, e1133, hx1133_0, hx1133_1, hx1133_2, hx1133_3, hx1133_4, hx1133_5, hx1133_6, hx1133_7, hl1133_5, hi1133_5⟩ := at_T52 HR0.out x5_1 p1133 q1133
                      obtain rfl : ad1129 = ad1133 := (by injection e1133)
                      have HR1133_5 := Aside0.mk hi1133_5
                      have HC1133_5 := Aside0.mk hl1133_5
                      clear hi1133_5 hl1133_5
                      replace p1133 := eq_true p1133
                      replace q1133 := eq_true q1133
                      have ea_ := Option.some.inj (hx1129_5.symm.trans hx1133_5)
                      injection ea_ with ea_ en_ ec_
                      subst ea_
                      subst ec_
                      clear en_
                      have p1134 : 0 ≤ (x5_1 : Int) := of_decide_eq_true (by first | (with_reducible assumption) | assumption)
                      have q1134 : x5_1 < (l0.length : Int) := of_decide_eq_true (by first | (with_reducible assumption) | assumption)
                      obtain ⟨ad1134, A1134_5, c1134_5, e1134, hx1134_0, hx1134_1, hx1134_2, hx1134_3, hx1134_4, hx1134_5, hx1134_6, hx1134_7, hl1134_5, hi1134_5⟩ := at_T52 HR0.out x5_1 p1134 q1134
                      obtain rfl : ad1129 = ad1134 := (by injection e1134)
                      have HR1134_5 := Aside0.mk hi1134_5
                      have HC1134_5 := Aside0.mk hl1134_5
                      clear hi1134_5 hl1134_5
                      replace p1134 := eq_true p1134
                      replace q1134 := eq_true q1134
                      have ea_ := Option.some.inj (hx1129_5.symm.trans hx1134_5)
                      injection ea_ with ea_ en_ ec_
                      subst ea_
                      subst ec_
                      clear en_
                      go_wp2_with (first | ((with_reducible refine gate_callee (f := 99) rfl ?_); refine goesL_ (some 63) rfl rfl Try.func99 (by kernel_rfl) rfl #[.slice A1129_5 ((rd_T52 l0 x5_1).f5).length c1129_5, .int .i64 (wrap64 ((wrap64 ((wrap64 ((wrap64 ((wrap64 (x1_1 + 1)) + 1)) + 1)) + 1)) + 1))] rfl (by (try simp only [List.map_toArray, List.map_cons, List.map_nil]); first | done | rfl | (simp only [List.length_drop, List.length_take]; rfl)) ?_; (with_reducible refine (laws_heldNearS.calls k1 _ _ ((rd_T52 l0 x5_1).f5) (wrap64 ((wrap64 ((wrap64 ((wrap64 ((wrap64 (x1_1 + 1)) + 1)) + 1)) + 1)) + 1)) t1135 _ ?side1 ?side2 A10.out).mono ?_); (case side1 => repeat (first | exact HR1134_5.out | (with_reducible refine Kd.C_alloc ?_ _) | (with_reducible refine Kd.C_drewN ?_ _) | (with_reducible refine Kd.C_drew ?_))); (case side2 => exact HC1134_5.out); rintro e w' ⟨rfl, ⟨nd, rfl⟩⟩; refine ⟨_, rfl, ?_⟩))
                      go_ret
                      exact ⟨by first | rfl | (simp; done) | (simp [*]; done), by repeat (first | exact Drawn0.refl _ | apply Drawn0.step)⟩
                    · rw [if_neg c11] at H
                      have c11b0 : decide (t1135 < 0) = false := decide_eq_false c11
                      clear c11
                      by_cases c12 : ((rd_T52 l0 x5_1).f6) = t1135
                      · rw [if_pos c12] at H
                        have c12b0 : (((rd_T52 l0 x5_1).f6) == t1135) = true := beq_iff_eq.mpr c12
                        have c12b1 : (((rd_T52 l0 x5_1).f6) != t1135) = false := bne_eq_false_iff_eq.mpr c12
                        clear c12
                        by_cases c13 : (((rd_T52 l0 x5_1).f7) != ((Int.tmod (wrap64 (t1135 + 1)) 3) == 0)) = true
                        · rw [if_pos c13] at H
                          have c13b0 : (((rd_T52 l0 x5_1).f7) != ((Int.tmod (wrap64 (t1135 + 1)) 3) == 0)) = true := c13
                          (try (have c13b1 : decide (((rd_T52 l0 x5_1).f7) = ((Int.tmod (wrap64 (t1135 + 1)) 3) == 0)) = false := by simpa using c13))
                          (try (have c13b2 : (((rd_T52 l0 x5_1).f7) == ((Int.tmod (wrap64 (t1135 + 1)) 3) == 0)) = false := by simpa using c13))
                          (try (have c13b3 : ¬ (((rd_T52 l0 x5_1).f7) = ((Int.tmod (wrap64 (t1135 + 1)) 3) == 0)) := by simpa using c13))
                          clear c13
                          obtain rfl := Option.some.inj H
                          have p1129 : 0 ≤ (x5_1 : Int) := of_decide_eq_true (by first | (with_reducible assumption) | assumption)
                          have q1129 : x5_1 < (l0.length : Int) := of_decide_eq_true (by first | (with_reducible assumption) | assumption)
                          obtain ⟨ad1129, A1129_5, c1129_5, e1129, hx1129_0, hx1129_1, hx1129_2, hx1129_3, hx1129_4, hx1129_5, hx1129_6, hx1129_7, hl1129_5, hi1129_5⟩ := at_T52 HR0.out x5_1 p1129 q1129
                          cases e1129
                          have HR1129_5 := Aside0.mk hi1129_5
                          have HC1129_5 := Aside0.mk hl1129_5
                          clear hi1129_5 hl1129_5
                          replace p1129 := eq_true p1129
                          replace q1129 := eq_true q1129
                          have p1130 : 0 ≤ (x5_1 : Int) := of_decide_eq_true (by first | (with_reducible assumption) | assumption)
                          have q1130 : x5_1 < (l0.length : Int) := of_decide_eq_true (by first | (with_reducible assumption) | assumption)
                          obtain ⟨ad1130, A1130_5, c1130_5, e1130, hx1130_0, hx1130_1, hx1130_2, hx1130_3, hx1130_4, hx1130_5, hx1130_6, hx1130_7, hl1130_5, hi1130_5⟩ := at_T52 HR0.out x5_1 p1130 q1130
                          obtain rfl : ad1129 = ad1130 := (by injection e1130)
                          have HR1130_5 := Aside0.mk hi1130_5
                          have HC1130_5 := Aside0.mk hl1130_5
                          clear hi1130_5 hl1130_5
                          replace p1130 := eq_true p1130
                          replace q1130 := eq_true q1130
                          have ea_ := Option.some.inj (hx1129_5.symm.trans hx1130_5)
                          injection ea_ with ea_ en_ ec_
                          subst ea_
                          subst ec_
                          clear en_
                          have p1131 : 0 ≤ (x5_1 : Int) := of_decide_eq_true (by first | (with_reducible assumption) | assumption)
                          have q1131 : x5_1 < (l0.length : Int) := of_decide_eq_true (by first | (with_reducible assumption) | assumption)
                          obtain ⟨ad1131, A1131_5, c1131_5, e1131, hx1131_0, hx1131_1, hx1131_2, hx1131_3, hx1131_4, hx1131_5, hx1131_6, hx1131_7, hl1131_5, hi1131_5⟩ := at_T52 HR0.out x5_1 p1131 q1131
                          obtain rfl : ad1129 = ad1131 := (by injection e1131)
                          have HR1131_5 := Aside0.mk hi1131_5
                          have HC1131_5 := Aside0.mk hl1131_5
                          clear hi1131_5 hl1131_5
                          replace p1131 := eq_true p1131
                          replace q1131 := eq_true q1131
                          have ea_ := Option.some.inj (hx1129_5.symm.trans hx1131_5)
                          injection ea_ with ea_ en_ ec_
                          subst ea_
                          subst ec_
                          clear en_
                          have p1132 : 0 ≤ (x5_1 : Int) := of_decide_eq_true (by first | (with_reducible assumption) | assumption)
                          have q1132 : x5_1 < (l0.length : Int) := of_decide_eq_true (by first | (with_reducible assumption) | assumption)
                          obtain ⟨ad1132, A1132_5, c1132_5, e1132, hx1132_0, hx1132_1, hx1132_2, hx1132_3, hx1132_4, hx1132_5, hx1132_6, hx1132_7, hl1132_5, hi1132_5⟩ := at_T52 HR0.out x5_1 p1132 q1132
                          obtain rfl : ad1129 = ad1132 := (by injection e1132)
                          have HR1132_5 := Aside0.mk hi1132_5
                          have HC1132_5 := Aside0.mk hl1132_5
                          clear hi1132_5 hl1132_5
                          replace p1132 := eq_true p1132
                          replace q1132 := eq_true q1132
                          have ea_ := Option.some.inj (hx1129_5.symm.trans hx1132_5)
                          injection ea_ with ea_ en_ ec_
                          subst ea_
                          subst ec_
                          clear en_
                          have p1133 : 0 ≤ (x5_1 : Int) := of_decide_eq_true (by first | (with_reducible assumption) | assumption)
                          have q1133 : x5_1 < (l0.length : Int) := of_decide_eq_true (by first | (with_reducible assumption) | assumption)
                          obtain ⟨ad1133, A1133_5, c1133_5, e1133, hx1133_0, hx1133_1, hx1133_2, hx1133_3, hx1133_4, hx1133_5, hx1133_6, hx1133_7, hl1133_5, hi1133_5⟩ := at_T52 HR0.out x5_1 p1133 q1133
                          obtain rfl : ad1129 = ad1133 := (by injection e1133)
                          have HR1133_5 := Aside0.mk hi1133_5
                          have HC1133_5 := Aside0.mk hl1133_5
                          clear hi1133_5 hl1133_5
                          replace p1133 := eq_true p1133
                          replace q1133 := eq_true q1133
                          have ea_ := Option.some.inj (hx1129_5.symm.trans hx1133_5)
                          injection ea_ with ea_ en_ ec_
                          subst ea_
                          subst ec_
                          clear en_
                          have p1134 : 0 ≤ (x5_1 : Int) := of_decide_eq_true (by first | (with_reducible assumption) | assumption)
                          have q1134 : x5_1 < (l0.length : Int) := of_decide_eq_true (by first | (with_reducible assumption) | assumption)
                          obtain ⟨ad1134, A1134_5, c1134_5, e1134, hx1134_0, hx1134_1, hx1134_2, hx1134_3, hx1134_4, hx1134_5, hx1134_6, hx1134_7, hl1134_5, hi1134_5⟩ := at_T52 HR0.out x5_1 p1134 q1134
                          obtain rfl : ad1129 = ad1134 := (by injection e1134)
                          have HR1134_5 := Aside0.mk hi1134_5
                          have HC1134_5 := Aside0.mk hl1134_5
                          clear hi1134_5 hl1134_5
                          replace p1134 := eq_true p1134
                          replace q1134 := eq_true q1134
                          have ea_ := Option.some.inj (hx1129_5.symm.trans hx1134_5)
                          injection ea_ with ea_ en_ ec_
                          subst ea_
                          subst ec_
                          clear en_
                          go_wp2_with (first | ((with_reducible refine gate_callee (f := 99) rfl ?_); refine goesL_ (some 63) rfl rfl Try.func99 (by kernel_rfl) rfl #[.slice A1129_5 ((rd_T52 l0 x5_1).f5).length c1129_5, .int .i64 (wrap64 ((wrap64 ((wrap64 ((wrap64 ((wrap64 (x1_1 + 1)) + 1)) + 1)) + 1)) + 1))] rfl (by (try simp only [List.map_toArray, List.map_cons, List.map_nil]); first | done | rfl | (simp only [List.length_drop, List.length_take]; rfl)) ?_; (with_reducible refine (laws_heldNearS.calls k1 _ _ ((rd_T52 l0 x5_1).f5) (wrap64 ((wrap64 ((wrap64 ((wrap64 ((wrap64 (x1_1 + 1)) + 1)) + 1)) + 1)) + 1)) t1135 _ ?side1 ?side2 A10.out).mono ?_); (case side1 => repeat (first | exact HR1134_5.out | (with_reducible refine Kd.C_alloc ?_ _) | (with_reducible refine Kd.C_drewN ?_ _) | (with_reducible refine Kd.C_drew ?_))); (case side2 => exact HC1134_5.out); rintro e w' ⟨rfl, ⟨nd, rfl⟩⟩; refine ⟨_, rfl, ?_⟩; have p1136 : 0 ≤ (x5_1 : Int) := of_decide_eq_true (by first | (with_reducible assumption) | assumption); have q1136 : x5_1 < (l0.length : Int) := of_decide_eq_true (by first | (with_reducible assumption) | assumption); obtain ⟨ad1136, A1136_5, c1136_5, e1136, hx1136_0, hx1136_1, hx1136_2, hx1136_3, hx1136_4, hx1136_5, hx1136_6, hx1136_7, hl1136_5, hi1136_5⟩ := at_T52 HR0.out x5_1 p1136 q1136; obtain rfl : ad1129 = ad1136 := (by injection e1136); have HR1136_5 := Aside0.mk hi1136_5; have HC1136_5 := Aside0.mk hl1136_5; clear hi1136_5 hl1136_5; replace p1136 := eq_true p1136; replace q1136 := eq_true q1136; have ea_ := Option.some.inj (hx1129_5.symm.trans hx1136_5); injection ea_ with ea_ en_ ec_; subst ea_; subst ec_; clear en_; have p1137 : 0 ≤ (x5_1 : Int) := of_decide_eq_true (by first | (with_reducible assumption) | assumption); have q1137 : x5_1 < (l0.length : Int) := of_decide_eq_true (by first | (with_reducible assumption) | assumption); obtain ⟨ad1137, A1137_5, c1137_5, e1137, hx1137_0, hx1137_1, hx1137_2, hx1137_3, hx1137_4, hx1137_5, hx1137_6, hx1137_7, hl1137_5, hi1137_5⟩ := at_T52 HR0.out x5_1 p1137 q1137; obtain rfl : ad1129 = ad1137 := (by injection e1137); have HR1137_5 := Aside0.mk hi1137_5; have HC1137_5 := Aside0.mk hl1137_5; clear hi1137_5 hl1137_5; replace p1137 := eq_true p1137; replace q1137 := eq_true q1137; have ea_ := Option.some.inj (hx1129_5.symm.trans hx1137_5); injection ea_ with ea_ en_ ec_; subst ea_; subst ec_; clear en_))
                          go_ret
                          exact ⟨by first | rfl | (simp; done) | (simp [*]; done), by repeat (first | exact Drawn0.refl _ | apply Drawn0.step)⟩
                        · rw [if_neg c13] at H
                          have c13b0 : (((rd_T52 l0 x5_1).f7) != ((Int.tmod (wrap64 (t1135 + 1)) 3) == 0)) = false := by simpa using c13
                          (try (have c13b1 : decide (((rd_T52 l0 x5_1).f7) = ((Int.tmod (wrap64 (t1135 + 1)) 3) == 0)) = true := by simpa using c13))
                          (try (have c13b2 : (((rd_T52 l0 x5_1).f7) == ((Int.tmod (wrap64 (t1135 + 1)) 3) == 0)) = true := by simpa using c13))
                          clear c13
                          have H' := Aside0.mk H
                          clear H
                          have p1129 : 0 ≤ (x5_1 : Int) := of_decide_eq_true (by first | (with_reducible assumption) | assumption)
                          have q1129 : x5_1 < (l0.length : Int) := of_decide_eq_true (by first | (with_reducible assumption) | assumption)
                          obtain ⟨ad1129, A1129_5, c1129_5, e1129, hx1129_0, hx1129_1, hx1129_2, hx1129_3, hx1129_4, hx1129_5, hx1129_6, hx1129_7, hl1129_5, hi1129_5⟩ := at_T52 HR0.out x5_1 p1129 q1129
                          cases e1129
                          have HR1129_5 := Aside0.mk hi1129_5
                          have HC1129_5 := Aside0.mk hl1129_5
                          clear hi1129_5 hl1129_5
                          replace p1129 := eq_true p1129
                          replace q1129 := eq_true q1129
                          have p1130 : 0 ≤ (x5_1 : Int) := of_decide_eq_true (by first | (with_reducible assumption) | assumption)
                          have q1130 : x5_1 < (l0.length : Int) := of_decide_eq_true (by first | (with_reducible assumption) | assumption)
                          obtain ⟨ad1130, A1130_5, c1130_5, e1130, hx1130_0, hx1130_1, hx1130_2, hx1130_3, hx1130_4, hx1130_5, hx1130_6, hx1130_7, hl1130_5, hi1130_5⟩ := at_T52 HR0.out x5_1 p1130 q1130
                          obtain rfl : ad1129 = ad1130 := (by injection e1130)
                          have HR1130_5 := Aside0.mk hi1130_5
                          have HC1130_5 := Aside0.mk hl1130_5
                          clear hi1130_5 hl1130_5
                          replace p1130 := eq_true p1130
                          replace q1130 := eq_true q1130
                          have ea_ := Option.some.inj (hx1129_5.symm.trans hx1130_5)
                          injection ea_ with ea_ en_ ec_
                          subst ea_
                          subst ec_
                          clear en_
                          have p1131 : 0 ≤ (x5_1 : Int) := of_decide_eq_true (by first | (with_reducible assumption) | assumption)
                          have q1131 : x5_1 < (l0.length : Int) := of_decide_eq_true (by first | (with_reducible assumption) | assumption)
                          obtain ⟨ad1131, A1131_5, c1131_5, e1131, hx1131_0, hx1131_1, hx1131_2, hx1131_3, hx1131_4, hx1131_5, hx1131_6, hx1131_7, hl1131_5, hi1131_5⟩ := at_T52 HR0.out x5_1 p1131 q1131
                          obtain rfl : ad1129 = ad1131 := (by injection e1131)
                          have HR1131_5 := Aside0.mk hi1131_5
                          have HC1131_5 := Aside0.mk hl1131_5
                          clear hi1131_5 hl1131_5
                          replace p1131 := eq_true p1131
                          replace q1131 := eq_true q1131
                          have ea_ := Option.some.inj (hx1129_5.symm.trans hx1131_5)
                          injection ea_ with ea_ en_ ec_
                          subst ea_
                          subst ec_
                          clear en_
                          have p1132 : 0 ≤ (x5_1 : Int) := of_decide_eq_true (by first | (with_reducible assumption) | assumption)
                          have q1132 : x5_1 < (l0.length : Int) := of_decide_eq_true (by first | (with_reducible assumption) | assumption)
                          obtain ⟨ad1132, A1132_5, c1132_5, e1132, hx1132_0, hx1132_1, hx1132_2, hx1132_3, hx1132_4, hx1132_5, hx1132_6, hx1132_7, hl1132_5, hi1132_5⟩ := at_T52 HR0.out x5_1 p1132 q1132
                          obtain rfl : ad1129 = ad1132 := (by injection e1132)
                          have HR1132_5 := Aside0.mk hi1132_5
                          have HC1132_5 := Aside0.mk hl1132_5
                          clear hi1132_5 hl1132_5
                          replace p1132 := eq_true p1132
                          replace q1132 := eq_true q1132
                          have ea_ := Option.some.inj (hx1129_5.symm.trans hx1132_5)
                          injection ea_ with ea_ en_ ec_
                          subst ea_
                          subst ec_
                          clear en_
                          have p1133 : 0 ≤ (x5_1 : Int) := of_decide_eq_true (by first | (with_reducible assumption) | assumption)
                          have q1133 : x5_1 < (l0.length : Int) := of_decide_eq_true (by first | (with_reducible assumption) | assumption)
                          obtain ⟨ad1133, A1133_5, c1133_5, e1133, hx1133_0, hx1133_1, hx1133_2, hx1133_3, hx1133_4, hx1133_5, hx1133_6, hx1133_7, hl1133_5, hi1133_5⟩ := at_T52 HR0.out x5_1 p1133 q1133
                          obtain rfl : ad1129 = ad1133 := (by injection e1133)
                          have HR1133_5 := Aside0.mk hi1133_5
                          have HC1133_5 := Aside0.mk hl1133_5
                          clear hi1133_5 hl1133_5
                          replace p1133 := eq_true p1133
                          replace q1133 := eq_true q1133
                          have ea_ := Option.some.inj (hx1129_5.symm.trans hx1133_5)
                          injection ea_ with ea_ en_ ec_
                          subst ea_
                          subst ec_
                          clear en_
                          have p1134 : 0 ≤ (x5_1 : Int) := of_decide_eq_true (by first | (with_reducible assumption) | assumption)
                          have q1134 : x5_1 < (l0.length : Int) := of_decide_eq_true (by first | (with_reducible assumption) | assumption)
                          obtain ⟨ad1134, A1134_5, c1134_5, e1134, hx1134_0, hx1134_1, hx1134_2, hx1134_3, hx1134_4, hx1134_5, hx1134_6, hx1134_7, hl1134_5, hi1134_5⟩ := at_T52 HR0.out x5_1 p1134 q1134
                          obtain rfl : ad1129 = ad1134 := (by injection e1134)
                          have HR1134_5 := Aside0.mk hi1134_5
                          have HC1134_5 := Aside0.mk hl1134_5
                          clear hi1134_5 hl1134_5
                          replace p1134 := eq_true p1134
                          replace q1134 := eq_true q1134
                          have ea_ := Option.some.inj (hx1129_5.symm.trans hx1134_5)
                          injection ea_ with ea_ en_ ec_
                          subst ea_
                          subst ec_
                          clear en_
                          go_wp2_with (first | ((with_reducible refine gate_callee (f := 99) rfl ?_); refine goesL_ (some 63) rfl rfl Try.func99 (by kernel_rfl) rfl #[.slice A1129_5 ((rd_T52 l0 x5_1).f5).length c1129_5, .int .i64 (wrap64 ((wrap64 ((wrap64 ((wrap64 ((wrap64 (x1_1 + 1)) + 1)) + 1)) + 1)) + 1))] rfl (by (try simp only [List.map_toArray, List.map_cons, List.map_nil]); first | done | rfl | (simp only [List.length_drop, List.length_take]; rfl)) ?_; (with_reducible refine (laws_heldNearS.calls k1 _ _ ((rd_T52 l0 x5_1).f5) (wrap64 ((wrap64 ((wrap64 ((wrap64 ((wrap64 (x1_1 + 1)) + 1)) + 1)) + 1)) + 1)) t1135 _ ?side1 ?side2 A10.out).mono ?_); (case side1 => repeat (first | exact HR1134_5.out | (with_reducible refine Kd.C_alloc ?_ _) | (with_reducible refine Kd.C_drewN ?_ _) | (with_reducible refine Kd.C_drew ?_))); (case side2 => exact HC1134_5.out); rintro e w' ⟨rfl, ⟨nd, rfl⟩⟩; refine ⟨_, rfl, ?_⟩; have p1136 : 0 ≤ (x5_1 : Int) := of_decide_eq_true (by first | (with_reducible assumption) | assumption); have q1136 : x5_1 < (l0.length : Int) := of_decide_eq_true (by first | (with_reducible assumption) | assumption); obtain ⟨ad1136, A1136_5, c1136_5, e1136, hx1136_0, hx1136_1, hx1136_2, hx1136_3, hx1136_4, hx1136_5, hx1136_6, hx1136_7, hl1136_5, hi1136_5⟩ := at_T52 HR0.out x5_1 p1136 q1136; obtain rfl : ad1129 = ad1136 := (by injection e1136); have HR1136_5 := Aside0.mk hi1136_5; have HC1136_5 := Aside0.mk hl1136_5; clear hi1136_5 hl1136_5; replace p1136 := eq_true p1136; replace q1136 := eq_true q1136; have ea_ := Option.some.inj (hx1129_5.symm.trans hx1136_5); injection ea_ with ea_ en_ ec_; subst ea_; subst ec_; clear en_; have p1137 : 0 ≤ (x5_1 : Int) := of_decide_eq_true (by first | (with_reducible assumption) | assumption); have q1137 : x5_1 < (l0.length : Int) := of_decide_eq_true (by first | (with_reducible assumption) | assumption); obtain ⟨ad1137, A1137_5, c1137_5, e1137, hx1137_0, hx1137_1, hx1137_2, hx1137_3, hx1137_4, hx1137_5, hx1137_6, hx1137_7, hl1137_5, hi1137_5⟩ := at_T52 HR0.out x5_1 p1137 q1137; obtain rfl : ad1129 = ad1137 := (by injection e1137); have HR1137_5 := Aside0.mk hi1137_5; have HC1137_5 := Aside0.mk hl1137_5; clear hi1137_5 hl1137_5; replace p1137 := eq_true p1137; replace q1137 := eq_true q1137; have ea_ := Option.some.inj (hx1129_5.symm.trans hx1137_5); injection ea_ with ea_ en_ ec_; subst ea_; subst ec_; clear en_))
                          go_roundg k1
                          case measure => have := HK1.out; omega
                          case rel => exact ⟨(wrap64 ((wrap64 (t1135 + 1)) + 1)), (wrap64 (x5_1 + 1)), (by first | rfl | (simp; done) | (simp [*]; done)), (by first | rfl | (simp; done) | (simp [*]; done)), H', ⟨by have := HK1.out; omega⟩, by repeat (first | exact Drawn0.refl _ | apply Drawn0.step)⟩
                      · rw [if_neg c12] at H
                        have c12b0 : (((rd_T52 l0 x5_1).f6) == t1135) = false := beq_eq_false_iff_ne.mpr c12
                        have c12b1 : (((rd_T52 l0 x5_1).f6) != t1135) = true := bne_iff_ne.mpr c12
                        obtain rfl := Option.some.inj H
                        have p1129 : 0 ≤ (x5_1 : Int) := of_decide_eq_true (by first | (with_reducible assumption) | assumption)
                        have q1129 : x5_1 < (l0.length : Int) := of_decide_eq_true (by first | (with_reducible assumption) | assumption)
                        obtain ⟨ad1129, A1129_5, c1129_5, e1129, hx1129_0, hx1129_1, hx1129_2, hx1129_3, hx1129_4, hx1129_5, hx1129_6, hx1129_7, hl1129_5, hi1129_5⟩ := at_T52 HR0.out x5_1 p1129 q1129
                        cases e1129
                        have HR1129_5 := Aside0.mk hi1129_5
                        have HC1129_5 := Aside0.mk hl1129_5
                        clear hi1129_5 hl1129_5
                        replace p1129 := eq_true p1129
                        replace q1129 := eq_true q1129
                        have p1130 : 0 ≤ (x5_1 : Int) := of_decide_eq_true (by first | (with_reducible assumption) | assumption)
                        have q1130 : x5_1 < (l0.length : Int) := of_decide_eq_true (by first | (with_reducible assumption) | assumption)
                        obtain ⟨ad1130, A1130_5, c1130_5, e1130, hx1130_0, hx1130_1, hx1130_2, hx1130_3, hx1130_4, hx1130_5, hx1130_6, hx1130_7, hl1130_5, hi1130_5⟩ := at_T52 HR0.out x5_1 p1130 q1130
                        obtain rfl : ad1129 = ad1130 := (by injection e1130)
                        have HR1130_5 := Aside0.mk hi1130_5
                        have HC1130_5 := Aside0.mk hl1130_5
                        clear hi1130_5 hl1130_5
                        replace p1130 := eq_true p1130
                        replace q1130 := eq_true q1130
                        have ea_ := Option.some.inj (hx1129_5.symm.trans hx1130_5)
                        injection ea_ with ea_ en_ ec_
                        subst ea_
                        subst ec_
                        clear en_
                        have p1131 : 0 ≤ (x5_1 : Int) := of_decide_eq_true (by first | (with_reducible assumption) | assumption)
                        have q1131 : x5_1 < (l0.length : Int) := of_decide_eq_true (by first | (with_reducible assumption) | assumption)
                        obtain ⟨ad1131, A1131_5, c1131_5, e1131, hx1131_0, hx1131_1, hx1131_2, hx1131_3, hx1131_4, hx1131_5, hx1131_6, hx1131_7, hl1131_5, hi1131_5⟩ := at_T52 HR0.out x5_1 p1131 q1131
                        obtain rfl : ad1129 = ad1131 := (by injection e1131)
                        have HR1131_5 := Aside0.mk hi1131_5
                        have HC1131_5 := Aside0.mk hl1131_5
                        clear hi1131_5 hl1131_5
                        replace p1131 := eq_true p1131
                        replace q1131 := eq_true q1131
                        have ea_ := Option.some.inj (hx1129_5.symm.trans hx1131_5)
                        injection ea_ with ea_ en_ ec_
                        subst ea_
                        subst ec_
                        clear en_
                        have p1132 : 0 ≤ (x5_1 : Int) := of_decide_eq_true (by first | (with_reducible assumption) | assumption)
                        have q1132 : x5_1 < (l0.length : Int) := of_decide_eq_true (by first | (with_reducible assumption) | assumption)
                        obtain ⟨ad1132, A1132_5, c1132_5, e1132, hx1132_0, hx1132_1, hx1132_2, hx1132_3, hx1132_4, hx1132_5, hx1132_6, hx1132_7, hl1132_5, hi1132_5⟩ := at_T52 HR0.out x5_1 p1132 q1132
                        obtain rfl : ad1129 = ad1132 := (by injection e1132)
                        have HR1132_5 := Aside0.mk hi1132_5
                        have HC1132_5 := Aside0.mk hl1132_5
                        clear hi1132_5 hl1132_5
                        replace p1132 := eq_true p1132
                        replace q1132 := eq_true q1132
                        have ea_ := Option.some.inj (hx1129_5.symm.trans hx1132_5)
                        injection ea_ with ea_ en_ ec_
                        subst ea_
                        subst ec_
                        clear en_
                        have p1133 : 0 ≤ (x5_1 : Int) := of_decide_eq_true (by first | (with_reducible assumption) | assumption)
                        have q1133 : x5_1 < (l0.length : Int) := of_decide_eq_true (by first | (with_reducible assumption) | assumption)
                        obtain ⟨ad1133, A1133_5, c1133_5, e1133, hx1133_0, hx1133_1, hx1133_2, hx1133_3, hx1133_4, hx1133_5, hx1133_6, hx1133_7, hl1133_5, hi1133_5⟩ := at_T52 HR0.out x5_1 p1133 q1133
                        obtain rfl : ad1129 = ad1133 := (by injection e1133)
                        have HR1133_5 := Aside0.mk hi1133_5
                        have HC1133_5 := Aside0.mk hl1133_5
                        clear hi1133_5 hl1133_5
                        replace p1133 := eq_true p1133
                        replace q1133 := eq_true q1133
                        have ea_ := Option.some.inj (hx1129_5.symm.trans hx1133_5)
                        injection ea_ with ea_ en_ ec_
                        subst ea_
                        subst ec_
                        clear en_
                        have p1134 : 0 ≤ (x5_1 : Int) := of_decide_eq_true (by first | (with_reducible assumption) | assumption)
                        have q1134 : x5_1 < (l0.length : Int) := of_decide_eq_true (by first | (with_reducible assumption) | assumption)
                        obtain ⟨ad1134, A1134_5, c1134_5, e1134, hx1134_0, hx1134_1, hx1134_2, hx1134_3, hx1134_4, hx1134_5, hx1134_6, hx1134_7, hl1134_5, hi1134_5⟩ := at_T52 HR0.out x5_1 p1134 q1134
                        obtain rfl : ad1129 = ad1134 := (by injection e1134)
                        have HR1134_5 := Aside0.mk hi1134_5
                        have HC1134_5 := Aside0.mk hl1134_5
                        clear hi1134_5 hl1134_5
                        replace p1134 := eq_true p1134
                        replace q1134 := eq_true q1134
                        have ea_ := Option.some.inj (hx1129_5.symm.trans hx1134_5)
                        injection ea_ with ea_ en_ ec_
                        subst ea_
                        subst ec_
                        clear en_
                        go_wp2_with (first | ((with_reducible refine gate_callee (f := 99) rfl ?_); refine goesL_ (some 63) rfl rfl Try.func99 (by kernel_rfl) rfl #[.slice A1129_5 ((rd_T52 l0 x5_1).f5).length c1129_5, .int .i64 (wrap64 ((wrap64 ((wrap64 ((wrap64 ((wrap64 (x1_1 + 1)) + 1)) + 1)) + 1)) + 1))] rfl (by (try simp only [List.map_toArray, List.map_cons, List.map_nil]); first | done | rfl | (simp only [List.length_drop, List.length_take]; rfl)) ?_; (with_reducible refine (laws_heldNearS.calls k1 _ _ ((rd_T52 l0 x5_1).f5) (wrap64 ((wrap64 ((wrap64 ((wrap64 ((wrap64 (x1_1 + 1)) + 1)) + 1)) + 1)) + 1)) t1135 _ ?side1 ?side2 A10.out).mono ?_); (case side1 => repeat (first | exact HR1134_5.out | (with_reducible refine Kd.C_alloc ?_ _) | (with_reducible refine Kd.C_drewN ?_ _) | (with_reducible refine Kd.C_drew ?_))); (case side2 => exact HC1134_5.out); rintro e w' ⟨rfl, ⟨nd, rfl⟩⟩; refine ⟨_, rfl, ?_⟩; have p1136 : 0 ≤ (x5_1 : Int) := of_decide_eq_true (by first | (with_reducible assumption) | assumption); have q1136 : x5_1 < (l0.length : Int) := of_decide_eq_true (by first | (with_reducible assumption) | assumption); obtain ⟨ad1136, A1136_5, c1136_5, e1136, hx1136_0, hx1136_1, hx1136_2, hx1136_3, hx1136_4, hx1136_5, hx1136_6, hx1136_7, hl1136_5, hi1136_5⟩ := at_T52 HR0.out x5_1 p1136 q1136; obtain rfl : ad1129 = ad1136 := (by injection e1136); have HR1136_5 := Aside0.mk hi1136_5; have HC1136_5 := Aside0.mk hl1136_5; clear hi1136_5 hl1136_5; replace p1136 := eq_true p1136; replace q1136 := eq_true q1136; have ea_ := Option.some.inj (hx1129_5.symm.trans hx1136_5); injection ea_ with ea_ en_ ec_; subst ea_; subst ec_; clear en_))
                        go_ret
                        exact ⟨by first | rfl | (simp; done) | (simp [*]; done), by repeat (first | exact Drawn0.refl _ | apply Drawn0.step)⟩
                  · rw [if_neg c9] at H
                    have c9b0 : (((rd_T52 l0 x5_1).f4) == (wrap64 ((wrap64 ((wrap64 ((wrap64 (x1_1 + 1)) + 1)) + 1)) + 1))) = false := beq_eq_false_iff_ne.mpr c9
                    have c9b1 : (((rd_T52 l0 x5_1).f4) != (wrap64 ((wrap64 ((wrap64 ((wrap64 (x1_1 + 1)) + 1)) + 1)) + 1))) = true := bne_iff_ne.mpr c9
                    obtain rfl := Option.some.inj H
                    have p1129 : 0 ≤ (x5_1 : Int) := of_decide_eq_true (by first | (with_reducible assumption) | assumption)
                    have q1129 : x5_1 < (l0.length : Int) := of_decide_eq_true (by first | (with_reducible assumption) | assumption)
                    obtain ⟨ad1129, A1129_5, c1129_5, e1129, hx1129_0, hx1129_1, hx1129_2, hx1129_3, hx1129_4, hx1129_5, hx1129_6, hx1129_7, hl1129_5, hi1129_5⟩ := at_T52 HR0.out x5_1 p1129 q1129
                    cases e1129
                    have HR1129_5 := Aside0.mk hi1129_5
                    have HC1129_5 := Aside0.mk hl1129_5
                    clear hi1129_5 hl1129_5
                    replace p1129 := eq_true p1129
                    replace q1129 := eq_true q1129
                    have p1130 : 0 ≤ (x5_1 : Int) := of_decide_eq_true (by first | (with_reducible assumption) | assumption)
                    have q1130 : x5_1 < (l0.length : Int) := of_decide_eq_true (by first | (with_reducible assumption) | assumption)
                    obtain ⟨ad1130, A1130_5, c1130_5, e1130, hx1130_0, hx1130_1, hx1130_2, hx1130_3, hx1130_4, hx1130_5, hx1130_6, hx1130_7, hl1130_5, hi1130_5⟩ := at_T52 HR0.out x5_1 p1130 q1130
                    obtain rfl : ad1129 = ad1130 := (by injection e1130)
                    have HR1130_5 := Aside0.mk hi1130_5
                    have HC1130_5 := Aside0.mk hl1130_5
                    clear hi1130_5 hl1130_5
                    replace p1130 := eq_true p1130
                    replace q1130 := eq_true q1130
                    have ea_ := Option.some.inj (hx1129_5.symm.trans hx1130_5)
                    injection ea_ with ea_ en_ ec_
                    subst ea_
                    subst ec_
                    clear en_
                    have p1131 : 0 ≤ (x5_1 : Int) := of_decide_eq_true (by first | (with_reducible assumption) | assumption)
                    have q1131 : x5_1 < (l0.length : Int) := of_decide_eq_true (by first | (with_reducible assumption) | assumption)
                    obtain ⟨ad1131, A1131_5, c1131_5, e1131, hx1131_0, hx1131_1, hx1131_2, hx1131_3, hx1131_4, hx1131_5, hx1131_6, hx1131_7, hl1131_5, hi1131_5⟩ := at_T52 HR0.out x5_1 p1131 q1131
                    obtain rfl : ad1129 = ad1131 := (by injection e1131)
                    have HR1131_5 := Aside0.mk hi1131_5
                    have HC1131_5 := Aside0.mk hl1131_5
                    clear hi1131_5 hl1131_5
                    replace p1131 := eq_true p1131
                    replace q1131 := eq_true q1131
                    have ea_ := Option.some.inj (hx1129_5.symm.trans hx1131_5)
                    injection ea_ with ea_ en_ ec_
                    subst ea_
                    subst ec_
                    clear en_
                    have p1132 : 0 ≤ (x5_1 : Int) := of_decide_eq_true (by first | (with_reducible assumption) | assumption)
                    have q1132 : x5_1 < (l0.length : Int) := of_decide_eq_true (by first | (with_reducible assumption) | assumption)
                    obtain ⟨ad1132, A1132_5, c1132_5, e1132, hx1132_0, hx1132_1, hx1132_2, hx1132_3, hx1132_4, hx1132_5, hx1132_6, hx1132_7, hl1132_5, hi1132_5⟩ := at_T52 HR0.out x5_1 p1132 q1132
                    obtain rfl : ad1129 = ad1132 := (by injection e1132)
                    have HR1132_5 := Aside0.mk hi1132_5
                    have HC1132_5 := Aside0.mk hl1132_5
                    clear hi1132_5 hl1132_5
                    replace p1132 := eq_true p1132
                    replace q1132 := eq_true q1132
                    have ea_ := Option.some.inj (hx1129_5.symm.trans hx1132_5)
                    injection ea_ with ea_ en_ ec_
                    subst ea_
                    subst ec_
                    clear en_
                    have p1133 : 0 ≤ (x5_1 : Int) := of_decide_eq_true (by first | (with_reducible assumption) | assumption)
                    have q1133 : x5_1 < (l0.length : Int) := of_decide_eq_true (by first | (with_reducible assumption) | assumption)
                    obtain ⟨ad1133, A1133_5, c1133_5, e1133, hx1133_0, hx1133_1, hx1133_2, hx1133_3, hx1133_4, hx1133_5, hx1133_6, hx1133_7, hl1133_5, hi1133_5⟩ := at_T52 HR0.out x5_1 p1133 q1133
                    obtain rfl : ad1129 = ad1133 := (by injection e1133)
                    have HR1133_5 := Aside0.mk hi1133_5
                    have HC1133_5 := Aside0.mk hl1133_5
                    clear hi1133_5 hl1133_5
                    replace p1133 := eq_true p1133
                    replace q1133 := eq_true q1133
                    have ea_ := Option.some.inj (hx1129_5.symm.trans hx1133_5)
                    injection ea_ with ea_ en_ ec_
                    subst ea_
                    subst ec_
                    clear en_
                    go_wp2
                    go_ret
                    exact ⟨by first | rfl | (simp; done) | (simp [*]; done), by repeat (first | exact Drawn0.refl _ | apply Drawn0.step)⟩
                · rw [if_neg c8] at H
                  have c8b0 : (((rd_T52 l0 x5_1).f3) == (wrap64 ((wrap64 ((wrap64 (x1_1 + 1)) + 1)) + 1))) = false := beq_eq_false_iff_ne.mpr c8
                  have c8b1 : (((rd_T52 l0 x5_1).f3) != (wrap64 ((wrap64 ((wrap64 (x1_1 + 1)) + 1)) + 1))) = true := bne_iff_ne.mpr c8
                  obtain rfl := Option.some.inj H
                  have p1129 : 0 ≤ (x5_1 : Int) := of_decide_eq_true (by first | (with_reducible assumption) | assumption)
                  have q1129 : x5_1 < (l0.length : Int) := of_decide_eq_true (by first | (with_reducible assumption) | assumption)
                  obtain ⟨ad1129, A1129_5, c1129_5, e1129, hx1129_0, hx1129_1, hx1129_2, hx1129_3, hx1129_4, hx1129_5, hx1129_6, hx1129_7, hl1129_5, hi1129_5⟩ := at_T52 HR0.out x5_1 p1129 q1129
                  cases e1129
                  have HR1129_5 := Aside0.mk hi1129_5
                  have HC1129_5 := Aside0.mk hl1129_5
                  clear hi1129_5 hl1129_5
                  replace p1129 := eq_true p1129
                  replace q1129 := eq_true q1129
                  have p1130 : 0 ≤ (x5_1 : Int) := of_decide_eq_true (by first | (with_reducible assumption) | assumption)
                  have q1130 : x5_1 < (l0.length : Int) := of_decide_eq_true (by first | (with_reducible assumption) | assumption)
                  obtain ⟨ad1130, A1130_5, c1130_5, e1130, hx1130_0, hx1130_1, hx1130_2, hx1130_3, hx1130_4, hx1130_5, hx1130_6, hx1130_7, hl1130_5, hi1130_5⟩ := at_T52 HR0.out x5_1 p1130 q1130
                  obtain rfl : ad1129 = ad1130 := (by injection e1130)
                  have HR1130_5 := Aside0.mk hi1130_5
                  have HC1130_5 := Aside0.mk hl1130_5
                  clear hi1130_5 hl1130_5
                  replace p1130 := eq_true p1130
                  replace q1130 := eq_true q1130
                  have ea_ := Option.some.inj (hx1129_5.symm.trans hx1130_5)
                  injection ea_ with ea_ en_ ec_
                  subst ea_
                  subst ec_
                  clear en_
                  have p1131 : 0 ≤ (x5_1 : Int) := of_decide_eq_true (by first | (with_reducible assumption) | assumption)
                  have q1131 : x5_1 < (l0.length : Int) := of_decide_eq_true (by first | (with_reducible assumption) | assumption)
                  obtain ⟨ad1131, A1131_5, c1131_5, e1131, hx1131_0, hx1131_1, hx1131_2, hx1131_3, hx1131_4, hx1131_5, hx1131_6, hx1131_7, hl1131_5, hi1131_5⟩ := at_T52 HR0.out x5_1 p1131 q1131
                  obtain rfl : ad1129 = ad1131 := (by injection e1131)
                  have HR1131_5 := Aside0.mk hi1131_5
                  have HC1131_5 := Aside0.mk hl1131_5
                  clear hi1131_5 hl1131_5
                  replace p1131 := eq_true p1131
                  replace q1131 := eq_true q1131
                  have ea_ := Option.some.inj (hx1129_5.symm.trans hx1131_5)
                  injection ea_ with ea_ en_ ec_
                  subst ea_
                  subst ec_
                  clear en_
                  have p1132 : 0 ≤ (x5_1 : Int) := of_decide_eq_true (by first | (with_reducible assumption) | assumption)
                  have q1132 : x5_1 < (l0.length : Int) := of_decide_eq_true (by first | (with_reducible assumption) | assumption)
                  obtain ⟨ad1132, A1132_5, c1132_5, e1132, hx1132_0, hx1132_1, hx1132_2, hx1132_3, hx1132_4, hx1132_5, hx1132_6, hx1132_7, hl1132_5, hi1132_5⟩ := at_T52 HR0.out x5_1 p1132 q1132
                  obtain rfl : ad1129 = ad1132 := (by injection e1132)
                  have HR1132_5 := Aside0.mk hi1132_5
                  have HC1132_5 := Aside0.mk hl1132_5
                  clear hi1132_5 hl1132_5
                  replace p1132 := eq_true p1132
                  replace q1132 := eq_true q1132
                  have ea_ := Option.some.inj (hx1129_5.symm.trans hx1132_5)
                  injection ea_ with ea_ en_ ec_
                  subst ea_
                  subst ec_
                  clear en_
                  go_wp2
                  go_ret
                  exact ⟨by first | rfl | (simp; done) | (simp [*]; done), by repeat (first | exact Drawn0.refl _ | apply Drawn0.step)⟩
              · rw [if_neg c7] at H
                have c7b0 : (((rd_T52 l0 x5_1).f2) == (wrap64 ((wrap64 (x1_1 + 1)) + 1))) = false := beq_eq_false_iff_ne.mpr c7
                have c7b1 : (((rd_T52 l0 x5_1).f2) != (wrap64 ((wrap64 (x1_1 + 1)) + 1))) = true := bne_iff_ne.mpr c7
                obtain rfl := Option.some.inj H
                have p1129 : 0 ≤ (x5_1 : Int) := of_decide_eq_true (by first | (with_reducible assumption) | assumption)
                have q1129 : x5_1 < (l0.length : Int) := of_decide_eq_true (by first | (with_reducible assumption) | assumption)
                obtain ⟨ad1129, A1129_5, c1129_5, e1129, hx1129_0, hx1129_1, hx1129_2, hx1129_3, hx1129_4, hx1129_5, hx1129_6, hx1129_7, hl1129_5, hi1129_5⟩ := at_T52 HR0.out x5_1 p1129 q1129
                cases e1129
                have HR1129_5 := Aside0.mk hi1129_5
                have HC1129_5 := Aside0.mk hl1129_5
                clear hi1129_5 hl1129_5
                replace p1129 := eq_true p1129
                replace q1129 := eq_true q1129
                have p1130 : 0 ≤ (x5_1 : Int) := of_decide_eq_true (by first | (with_reducible assumption) | assumption)
                have q1130 : x5_1 < (l0.length : Int) := of_decide_eq_true (by first | (with_reducible assumption) | assumption)
                obtain ⟨ad1130, A1130_5, c1130_5, e1130, hx1130_0, hx1130_1, hx1130_2, hx1130_3, hx1130_4, hx1130_5, hx1130_6, hx1130_7, hl1130_5, hi1130_5⟩ := at_T52 HR0.out x5_1 p1130 q1130
                obtain rfl : ad1129 = ad1130 := (by injection e1130)
                have HR1130_5 := Aside0.mk hi1130_5
                have HC1130_5 := Aside0.mk hl1130_5
                clear hi1130_5 hl1130_5
                replace p1130 := eq_true p1130
                replace q1130 := eq_true q1130
                have ea_ := Option.some.inj (hx1129_5.symm.trans hx1130_5)
                injection ea_ with ea_ en_ ec_
                subst ea_
                subst ec_
                clear en_
                have p1131 : 0 ≤ (x5_1 : Int) := of_decide_eq_true (by first | (with_reducible assumption) | assumption)
                have q1131 : x5_1 < (l0.length : Int) := of_decide_eq_true (by first | (with_reducible assumption) | assumption)
                obtain ⟨ad1131, A1131_5, c1131_5, e1131, hx1131_0, hx1131_1, hx1131_2, hx1131_3, hx1131_4, hx1131_5, hx1131_6, hx1131_7, hl1131_5, hi1131_5⟩ := at_T52 HR0.out x5_1 p1131 q1131
                obtain rfl : ad1129 = ad1131 := (by injection e1131)
                have HR1131_5 := Aside0.mk hi1131_5
                have HC1131_5 := Aside0.mk hl1131_5
                clear hi1131_5 hl1131_5
                replace p1131 := eq_true p1131
                replace q1131 := eq_true q1131
                have ea_ := Option.some.inj (hx1129_5.symm.trans hx1131_5)
                injection ea_ with ea_ en_ ec_
                subst ea_
                subst ec_
                clear en_
                go_wp2
                go_ret
                exact ⟨by first | rfl | (simp; done) | (simp [*]; done), by repeat (first | exact Drawn0.refl _ | apply Drawn0.step)⟩
            · rw [if_neg c6] at H
              have c6b0 : (((rd_T52 l0 x5_1).f1) == (wrap64 (x1_1 + 1))) = false := beq_eq_false_iff_ne.mpr c6
              have c6b1 : (((rd_T52 l0 x5_1).f1) != (wrap64 (x1_1 + 1))) = true := bne_iff_ne.mpr c6
              obtain rfl := Option.some.inj H
              have p1129 : 0 ≤ (x5_1 : Int) := of_decide_eq_true (by first | (with_reducible assumption) | assumption)
              have q1129 : x5_1 < (l0.length : Int) := of_decide_eq_true (by first | (with_reducible assumption) | assumption)
              obtain ⟨ad1129, A1129_5, c1129_5, e1129, hx1129_0, hx1129_1, hx1129_2, hx1129_3, hx1129_4, hx1129_5, hx1129_6, hx1129_7, hl1129_5, hi1129_5⟩ := at_T52 HR0.out x5_1 p1129 q1129
              cases e1129
              have HR1129_5 := Aside0.mk hi1129_5
              have HC1129_5 := Aside0.mk hl1129_5
              clear hi1129_5 hl1129_5
              replace p1129 := eq_true p1129
              replace q1129 := eq_true q1129
              have p1130 : 0 ≤ (x5_1 : Int) := of_decide_eq_true (by first | (with_reducible assumption) | assumption)
              have q1130 : x5_1 < (l0.length : Int) := of_decide_eq_true (by first | (with_reducible assumption) | assumption)
              obtain ⟨ad1130, A1130_5, c1130_5, e1130, hx1130_0, hx1130_1, hx1130_2, hx1130_3, hx1130_4, hx1130_5, hx1130_6, hx1130_7, hl1130_5, hi1130_5⟩ := at_T52 HR0.out x5_1 p1130 q1130
              obtain rfl : ad1129 = ad1130 := (by injection e1130)
              have HR1130_5 := Aside0.mk hi1130_5
              have HC1130_5 := Aside0.mk hl1130_5
              clear hi1130_5 hl1130_5
              replace p1130 := eq_true p1130
              replace q1130 := eq_true q1130
              have ea_ := Option.some.inj (hx1129_5.symm.trans hx1130_5)
              injection ea_ with ea_ en_ ec_
              subst ea_
              subst ec_
              clear en_
              go_wp2
              go_ret
              exact ⟨by first | rfl | (simp; done) | (simp [*]; done), by repeat (first | exact Drawn0.refl _ | apply Drawn0.step)⟩
          · rw [if_neg c5] at H
            have c5b0 : (((rd_T52 l0 x5_1).f0) == x1_1) = false := beq_eq_false_iff_ne.mpr c5
            have c5b1 : (((rd_T52 l0 x5_1).f0) != x1_1) = true := bne_iff_ne.mpr c5
            obtain rfl := Option.some.inj H
            have p1129 : 0 ≤ (x5_1 : Int) := of_decide_eq_true (by first | (with_reducible assumption) | assumption)
            have q1129 : x5_1 < (l0.length : Int) := of_decide_eq_true (by first | (with_reducible assumption) | assumption)
            obtain ⟨ad1129, A1129_5, c1129_5, e1129, hx1129_0, hx1129_1, hx1129_2, hx1129_3, hx1129_4, hx1129_5, hx1129_6, hx1129_7, hl1129_5, hi1129_5⟩ := at_T52 HR0.out x5_1 p1129 q1129
            cases e1129
            have HR1129_5 := Aside0.mk hi1129_5
            have HC1129_5 := Aside0.mk hl1129_5
            clear hi1129_5 hl1129_5
            replace p1129 := eq_true p1129
            replace q1129 := eq_true q1129
            go_wp2
            go_ret
            exact ⟨by first | rfl | (simp; done) | (simp [*]; done), by repeat (first | exact Drawn0.refl _ | apply Drawn0.step)⟩
        · rw [if_neg c4] at H
          exact absurd H (by simp)
      · rw [if_neg c3] at H
        have c3b0 : decide (x5_1 < (l0.length : Int)) = false := decide_eq_false c3
        clear c3
        obtain rfl := Option.some.inj H
        go_wp2
        go_ret
        exact ⟨by first | rfl | (simp; done) | (simp [*]; done), by repeat (first | exact Drawn0.refl _ | apply Drawn0.step)⟩

end Go.Proofs.Ytjkjhaiemephdab.Q
