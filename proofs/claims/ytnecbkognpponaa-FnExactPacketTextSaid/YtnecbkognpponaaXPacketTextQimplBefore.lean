import Derived.Test.YtnecbkognpponaaXPacketTextQlawstoNearS
/- A Go function as a Lean function, and its contract: for every input the Go code comes to what the Lean function tells. -/

namespace Go.Proofs.Ytnecbkognpponaa.Q
open Go.RowKit Go.Proofs.YtnecbkognpponaaW.PrintWords Go.Proofs.YtnecbkognpponaaW.PrintLast Go.Proofs.YtnecbkognpponaaW.PrintMore
attribute [local go_sem] max2_int min2_int max_two min_two max_three min_three max_four min_four   -- for this text's walks alone
set_option linter.unusedVariables false
set_option linter.unusedSimpArgs false

/-! ### impl_in: function 69 -/
def impl_in.f (a0 : Int) (a1 : Int) (a2 : Int) : Option (Bool) := if a0 ≥ a1 then (some (decide (a0 ≤ a2))) else (some false)
set_option maxHeartbeats 8000000 in
set_option maxRecDepth 100000 in
theorem impl_in.calls (a0 : Int) (a1 : Int) (a2 : Int) (r : Bool) (w : World) (h : impl_in.f a0 a1 a2 = some r) :
  Calls Try.prog 69 #[.int .i64 a0, .int .i64 a1, .int .i64 a2] w fun e w' => e = .returned (.bool r) ∧ Drawn0 w w' := by
 have H : (if a0 ≥ a1 then (some (decide (a0 ≤ a2))) else (some false)) = some r := h
 clear h
 by_cases c4 : a0 ≥ a1
 ·rw [if_pos c4] at H
  have c4b0 : decide (a1 ≤ a0) = true := decide_eq_true c4
  clear c4; obtain rfl := Option.some.inj H
  go_enter Try.func69, Try.ntmps69
  go_wp2
  go_ret
  exact ⟨by first | rfl | (simp; done) | (simp [*]; done), by repeat (first | exact Drawn0.refl _ | apply Drawn0.step)⟩
 ·rw [if_neg c4] at H
  have c4b0 : decide (a1 ≤ a0) = false := decide_eq_false c4
  clear c4; obtain rfl := Option.some.inj H
  go_enter Try.func69, Try.ntmps69
  go_wp2
  go_ret
  exact ⟨by first | rfl | (simp; done) | (simp [*]; done), by repeat (first | exact Drawn0.refl _ | apply Drawn0.step)⟩

end Go.Proofs.Ytnecbkognpponaa.Q

/- A Go function as a Lean function, and its contract: for every input the Go code comes to what the Lean function tells. -/


namespace Go.Proofs.Ytnecbkognpponaa.Q
open Go.RowKit Go.Proofs.YtnecbkognpponaaW.PrintWords Go.Proofs.YtnecbkognpponaaW.PrintLast Go.Proofs.YtnecbkognpponaaW.PrintMore
attribute [local go_sem] max2_int min2_int max_two min_two max_three min_three max_four min_four   -- for this text's walks alone
set_option linter.unusedVariables false
set_option linter.unusedSimpArgs false

/-! ### impl_heardUp: function 76 -/
def impl_heardUp.l0 : Nat → List Int → List Int → Int → Int → Option (Bool)
 | 0, _, _, _, _ => none
 | k + 1, x0, x5, x6, x7 => if x7 < x6 then (if 0 ≤ x7 then (if x7 < (x5.length : Int) then ((impl_in.f (rd x5 x7) 1 6).bind fun t267 => (if t267 = true then (if x7 > 0 then (if 0 ≤ (wrap64 (x7 - 1)) then (if (wrap64 (x7 - 1)) < (x0.length : Int) then (if (rd x0 (wrap64 (x7 - 1))) ≥ (rd x5 x7) then (some false) else (impl_heardUp.l0 k x0 x5 x6 (wrap64 (x7 + 1)))) else (none)) else (none)) else (impl_heardUp.l0 k x0 x5 x6 (wrap64 (x7 + 1)))) else (some false))) else (none)) else (none)) else (some true)
def impl_heardUp.f (k : Nat) (l0 : List Int) : Option (Bool) := impl_heardUp.l0 k l0 l0 (l0.length : Int) 0
theorem impl_heardUp.mono_l : ∀ k, (∀ y0 y1 y2 y3, LeO (impl_heardUp.l0 k y0 y1 y2 y3) (impl_heardUp.l0 (k + 1) y0 y1 y2 y3))
 | 0 => fun _ _ _ _ r h => by simp [impl_heardUp.l0] at h
 | k + 1 => by
  have ih0 := impl_heardUp.mono_l k
  ·intro y0 y1 y2 y3
   unfold impl_heardUp.l0
   repeat' first
   | (with_reducible exact ih0 _ _ _ _)
   | (with_reducible exact LeO.refl _)
   | (with_reducible exact LeO.none _)
   | (with_reducible refine LeO.ite ?_ ?_)
   | (with_reducible refine LeO.bind ?_ (fun _ => ?_))
   | exact ih0 _ _ _ _
   | exact LeO.none _
   | refine LeO.ite ?_ ?_
   | refine LeO.bind ?_ (fun _ => ?_)
theorem impl_heardUp.mono : ∀ a0 k, LeO (impl_heardUp.f k a0) (impl_heardUp.f (k + 1) a0) := by
 intro a0 k
 have ih0 := impl_heardUp.mono_l k
 unfold impl_heardUp.f
 repeat' first
   | (with_reducible exact ih0 _ _ _ _)
   | (with_reducible exact LeO.refl _)
   | (with_reducible exact LeO.none _)
   | (with_reducible refine LeO.ite ?_ ?_)
   | (with_reducible refine LeO.bind ?_ (fun _ => ?_))
   | exact ih0 _ _ _ _
   | exact LeO.none _
   | refine LeO.ite ?_ ?_
   | refine LeO.bind ?_ (fun _ => ?_)
set_option maxHeartbeats 8000000 in
set_option maxRecDepth 100000 in
theorem impl_heardUp.calls (k : Nat) (A0 : Option Addr) (c0 : Nat) (l0 : List Int) (r : Bool) (w : World) (hr0 : Kd.C (Kd.int .i64) w A0 l0.length l0) (hc0 : l0.length ≤ c0) (h : impl_heardUp.f k l0 = some r) :
  Calls Try.prog 76 #[.slice A0 l0.length c0] w fun e w' => e = .returned (.bool r) ∧ Drawn0 w w' := by
 have HR0 := Aside0.mk hr0; have HC0 := Aside0.mk hc0; clear hr0 hc0
 have H : (impl_heardUp.l0 k l0 l0 (l0.length : Int) 0) = some r := h
 clear h; have H' := Aside0.mk H; clear H
 go_enter Try.func76, Try.ntmps76
 go_wp2
 go_loopg [7] k (fun kq v7 w' => ∃ (x7_1 : Int), v7 = .int .i64 x7_1 ∧ Aside0 (impl_heardUp.l0 kq l0 l0 (l0.length : Int) x7_1 = some r) ∧ Aside0 (kq ≤ k) ∧ Drawn0 w w')
 case atStart => exact ⟨(0), (by first | rfl | (simp; done) | (simp [*]; done)), H', ⟨Nat.le_refl _⟩, by repeat (first | exact Drawn0.refl _ | apply Drawn0.step)⟩
 case round =>
  clear H'; obtain ⟨x7_1, rfl, HA, HK1, ⟨m1, rfl⟩⟩ := hrel
  cases gk with
  | zero => exact absurd HA.out (by simp [impl_heardUp.l0])
  | succ k1 =>
   have H := HA.out; clear HA
   simp only [impl_heardUp.l0] at H
   by_cases c2 : x7_1 < (l0.length : Int)
   ·rw [if_pos c2] at H
    have c2b0 : decide (x7_1 < (l0.length : Int)) = true := decide_eq_true c2
    clear c2
    by_cases c3 : 0 ≤ x7_1
    ·rw [if_pos c3] at H
     have c3b0 : decide (0 ≤ x7_1) = true := decide_eq_true c3
     clear c3
     by_cases c4 : x7_1 < (l0.length : Int)
     ·rw [if_pos c4] at H
      have c4b0 : decide (x7_1 < (l0.length : Int)) = true := decide_eq_true c4
      clear c4; replace H := Option.bind_eq_some_iff.mp H; obtain ⟨t267, A50, H⟩ := H
      replace H : (if t267 = true then (if x7_1 > 0 then (if 0 ≤ (wrap64 (x7_1 - 1)) then (if (wrap64 (x7_1 - 1)) < (l0.length : Int) then (if (rd l0 (wrap64 (x7_1 - 1))) ≥ (rd l0 x7_1) then (some false) else (impl_heardUp.l0 k1 l0 l0 (l0.length : Int) (wrap64 (x7_1 + 1)))) else (none)) else (none)) else (impl_heardUp.l0 k1 l0 l0 (l0.length : Int) (wrap64 (x7_1 + 1)))) else (some false)) = some r := H
      have A5 := Aside0.mk A50; clear A50
      by_cases c6 : t267 = true
      ·subst c6
       replace H : (if x7_1 > 0 then (if 0 ≤ (wrap64 (x7_1 - 1)) then (if (wrap64 (x7_1 - 1)) < (l0.length : Int) then (if (rd l0 (wrap64 (x7_1 - 1))) ≥ (rd l0 x7_1) then (some false) else (impl_heardUp.l0 k1 l0 l0 (l0.length : Int) (wrap64 (x7_1 + 1)))) else (none)) else (none)) else (impl_heardUp.l0 k1 l0 l0 (l0.length : Int) (wrap64 (x7_1 + 1)))) = some r := by rw [if_pos rfl] at H; exact H
       by_cases c7 : x7_1 > 0
       ·rw [if_pos c7] at H
        have c7b0 : decide (0 < x7_1) = true := decide_eq_true c7
        clear c7; obtain ⟨ji8, hji8⟩ : ∃ j_ : Int, (wrap64 (x7_1 - 1)) = j_ := ⟨_, rfl⟩
        replace H : (if 0 ≤ (ji8) then (if (ji8) < (l0.length : Int) then (if (rd l0 (ji8)) ≥ (rd l0 x7_1) then (some false) else (impl_heardUp.l0 k1 l0 l0 (l0.length : Int) (wrap64 (x7_1 + 1)))) else (none)) else (none)) = some r := by first | (rw [hji8] at H; exact H) | (simp only [hji8] at H ⊢; exact H)
        (try rw [hji8] at A5)
        have hji8w : (IntKind.i64.wrap (x7_1 - 1)) = ji8 := (i64_w _).trans hji8
        by_cases c9 : 0 ≤ (ji8)
        ·rw [if_pos c9] at H
         have c9b0 : decide (0 ≤ (ji8)) = true := decide_eq_true c9
         clear c9
         by_cases c10 : (ji8) < (l0.length : Int)
         ·rw [if_pos c10] at H
          have c10b0 : decide ((ji8) < (l0.length : Int)) = true := decide_eq_true c10
          clear c10; have HC11 := Aside0.mk H; clear H
          have p266 : 0 ≤ (x7_1 : Int) := of_decide_eq_true as_q
          have q266 : x7_1 < (l0.length : Int) := of_decide_eq_true as_q
          obtain ⟨ad266, e266, hx266_0⟩ := Kd.at_int HR0.out x7_1 p266 q266
          cases e266
          replace p266 := eq_true p266; replace q266 := eq_true q266
          go_upto_if 27 with (first | ((with_reducible refine gate_callee (f := 69) rfl ?_); refine goesL_ (some 13) rfl rfl Try.func69 (by kernel_rfl) rfl #[.int .i64 (rd l0 x7_1), .int .i64 1, .int .i64 6] rfl mp_q ?_; (with_reducible refine (impl_in.calls (rd l0 x7_1) 1 6 true _ A5.out).mono ?_); rintro e w' ⟨rfl, ⟨nd, rfl⟩⟩; refine ⟨_, rfl, ?_⟩; have p268 : 0 ≤ ((ji8) : Int) := of_decide_eq_true as_q; have q268 : (ji8) < (l0.length : Int) := of_decide_eq_true as_q; obtain ⟨ad268, e268, hx268_0⟩ := Kd.at_int HR0.out (ji8) p268 q268; obtain rfl : ad266 = ad268 := (by injection e268); replace p268 := eq_true p268; replace q268 := eq_true q268))
          (try clear hx266_0); have H := HC11.out; clear HC11
          by_cases c12 : (rd l0 (ji8)) ≥ (rd l0 x7_1)
          ·rw [if_pos c12] at H
           have c12b0 : decide ((rd l0 x7_1) ≤ (rd l0 (ji8))) = true := decide_eq_true c12
           clear c12
           (first | rw [c12b0] | rw [c12b1] | (simp only [i64_w, i32_w]; first | rw [c12b0] | rw [c12b1]) | skip)
           obtain rfl := Option.some.inj H
           go_wp2
           go_ret
           exact ⟨by first | rfl | (simp; done) | (simp only [← hji8] <;> (first | rfl | simp)) | (simp [*]; done), by repeat (first | exact Drawn0.refl _ | apply Drawn0.step)⟩
          ·rw [if_neg c12] at H
           have c12b0 : decide ((rd l0 x7_1) ≤ (rd l0 (ji8))) = false := decide_eq_false c12
           clear c12
           (first | rw [c12b0] | rw [c12b1] | (simp only [i64_w, i32_w]; first | rw [c12b0] | rw [c12b1]) | skip)
           have H' := Aside0.mk H; clear H
           go_wp2
           go_roundg k1
           case measure => have := HK1.out; omega
           case rel => exact ⟨(wrap64 (x7_1 + 1)), (by first | rfl | (simp; done) | (simp [*]; done)), H', ⟨by have := HK1.out; omega⟩, by repeat (first | exact Drawn0.refl _ | apply Drawn0.step)⟩
         ·rw [if_neg c10] at H
          exact absurd H (by simp)
        ·rw [if_neg c9] at H
         exact absurd H (by simp)
       ·rw [if_neg c7] at H
        have c7b0 : decide (0 < x7_1) = false := decide_eq_false c7
        clear c7; have HC13 := Aside0.mk H; clear H
        have p266 : 0 ≤ (x7_1 : Int) := of_decide_eq_true as_q
        have q266 : x7_1 < (l0.length : Int) := of_decide_eq_true as_q
        obtain ⟨ad266, e266, hx266_0⟩ := Kd.at_int HR0.out x7_1 p266 q266
        cases e266
        replace p266 := eq_true p266; replace q266 := eq_true q266
        go_upto_if 27 with (first | ((with_reducible refine gate_callee (f := 69) rfl ?_); refine goesL_ (some 13) rfl rfl Try.func69 (by kernel_rfl) rfl #[.int .i64 (rd l0 x7_1), .int .i64 1, .int .i64 6] rfl mp_q ?_; (with_reducible refine (impl_in.calls (rd l0 x7_1) 1 6 true _ A5.out).mono ?_); rintro e w' ⟨rfl, ⟨nd, rfl⟩⟩; refine ⟨_, rfl, ?_⟩))
        (try clear hx266_0); have H := HC13.out; clear HC13; have H' := Aside0.mk H; clear H
        go_wp2
        go_roundg k1
        case measure => have := HK1.out; omega
        case rel => exact ⟨(wrap64 (x7_1 + 1)), (by first | rfl | (simp; done) | (simp [*]; done)), H', ⟨by have := HK1.out; omega⟩, by repeat (first | exact Drawn0.refl _ | apply Drawn0.step)⟩
      ·replace c6 := Bool.eq_false_iff.mpr c6; subst c6
       replace H : (some false) = some r := by rw [if_neg (show ¬ (false = true) by decide)] at H; exact H
       obtain rfl := Option.some.inj H
       have p266 : 0 ≤ (x7_1 : Int) := of_decide_eq_true as_q
       have q266 : x7_1 < (l0.length : Int) := of_decide_eq_true as_q
       obtain ⟨ad266, e266, hx266_0⟩ := Kd.at_int HR0.out x7_1 p266 q266
       cases e266
       replace p266 := eq_true p266; replace q266 := eq_true q266
       go_wp2_with (first | ((with_reducible refine gate_callee (f := 69) rfl ?_); refine goesL_ (some 13) rfl rfl Try.func69 (by kernel_rfl) rfl #[.int .i64 (rd l0 x7_1), .int .i64 1, .int .i64 6] rfl mp_q ?_; (with_reducible refine (impl_in.calls (rd l0 x7_1) 1 6 false _ A5.out).mono ?_); rintro e w' ⟨rfl, ⟨nd, rfl⟩⟩; refine ⟨_, rfl, ?_⟩))
       go_ret
       exact ⟨by first | rfl | (simp; done) | (simp [*]; done), by repeat (first | exact Drawn0.refl _ | apply Drawn0.step)⟩
     ·rw [if_neg c4] at H
      exact absurd H (by simp)
    ·rw [if_neg c3] at H
     exact absurd H (by simp)
   ·rw [if_neg c2] at H
    have c2b0 : decide (x7_1 < (l0.length : Int)) = false := decide_eq_false c2
    clear c2; obtain rfl := Option.some.inj H
    go_wp2
    go_ret
    exact ⟨by first | rfl | (simp; done) | (simp [*]; done), by repeat (first | exact Drawn0.refl _ | apply Drawn0.step)⟩

end Go.Proofs.Ytnecbkognpponaa.Q

/- A Go function as a Lean function, and its contract: for every input the Go code comes to what the Lean function tells. -/


namespace Go.Proofs.Ytnecbkognpponaa.Q
open Go.RowKit Go.Proofs.YtnecbkognpponaaW.PrintWords Go.Proofs.YtnecbkognpponaaW.PrintLast Go.Proofs.YtnecbkognpponaaW.PrintMore
attribute [local go_sem] max2_int min2_int max_two min_two max_three min_three max_four min_four   -- for this text's walks alone
set_option linter.unusedVariables false
set_option linter.unusedSimpArgs false

/-! ### impl_nearOk: function 70 -/
def impl_nearOk.l0 : Nat → List (S63) → Int → Int → Int → Int → Int → Int → Int → List (S63) → Int → Bool → Option (Bool)
 | 0, _, _, _, _, _, _, _, _, _, _, _ => none
 | k + 1, x6, x7, x8, x270000, x270001, x270002, x270003, x270004, x270005, x270006, x270007 => if x8 < x7 then (if 0 ≤ x8 then (if x8 < (x6.length : Int) then ((impl_in.f ((rd_T63 x6 x8).f0) 1 6).bind fun t272 => (if t272 = true then (if ((rd_T63 x6 x8).f0) = x270002 then (some false) else ((impl_in.f ((rd_T63 x6 x8).f1) 1 1000).bind fun t273 => (if t273 = true then (if x8 > 0 then (if 0 ≤ (wrap64 (x8 - 1)) then (if (wrap64 (x8 - 1)) < (x270005.length : Int) then (if ((rd_T63 x270005 (wrap64 (x8 - 1))).f0) ≥ ((rd_T63 x6 x8).f0) then (some false) else (impl_nearOk.l0 k x6 x7 (wrap64 (x8 + 1)) x270000 x270001 x270002 x270003 x270004 x270005 x270006 x270007)) else (none)) else (none)) else (impl_nearOk.l0 k x6 x7 (wrap64 (x8 + 1)) x270000 x270001 x270002 x270003 x270004 x270005 x270006 x270007)) else (some false)))) else (some false))) else (none)) else (none)) else (some true)
def impl_nearOk.f (k : Nat) (a0_0 : Int) (a0_1 : Int) (a0_2 : Int) (a0_3 : Int) (a0_4 : Int) (l0_5 : List (S63)) (a0_6 : Int) (a0_7 : Bool) : Option (Bool) := impl_nearOk.l0 k l0_5 (l0_5.length : Int) 0 a0_0 a0_1 a0_2 a0_3 a0_4 l0_5 a0_6 a0_7
theorem impl_nearOk.mono_l : ∀ k, (∀ y0 y1 y2 y3 y4 y5 y6 y7 y8 y9 y10, LeO (impl_nearOk.l0 k y0 y1 y2 y3 y4 y5 y6 y7 y8 y9 y10) (impl_nearOk.l0 (k + 1) y0 y1 y2 y3 y4 y5 y6 y7 y8 y9 y10))
 | 0 => fun _ _ _ _ _ _ _ _ _ _ _ r h => by simp [impl_nearOk.l0] at h
 | k + 1 => by
  have ih0 := impl_nearOk.mono_l k
  ·intro y0 y1 y2 y3 y4 y5 y6 y7 y8 y9 y10
   unfold impl_nearOk.l0
   repeat' first
   | (with_reducible exact ih0 _ _ _ _ _ _ _ _ _ _ _)
   | (with_reducible exact LeO.refl _)
   | (with_reducible exact LeO.none _)
   | (with_reducible refine LeO.ite ?_ ?_)
   | (with_reducible refine LeO.bind ?_ (fun _ => ?_))
   | exact ih0 _ _ _ _ _ _ _ _ _ _ _
   | exact LeO.none _
   | refine LeO.ite ?_ ?_
   | refine LeO.bind ?_ (fun _ => ?_)
theorem impl_nearOk.mono : ∀ a0 a1 a2 a3 a4 a5 a6 a7 k, LeO (impl_nearOk.f k a0 a1 a2 a3 a4 a5 a6 a7) (impl_nearOk.f (k + 1) a0 a1 a2 a3 a4 a5 a6 a7) := by
 intro a0 a1 a2 a3 a4 a5 a6 a7 k
 have ih0 := impl_nearOk.mono_l k
 unfold impl_nearOk.f
 repeat' first
   | (with_reducible exact ih0 _ _ _ _ _ _ _ _ _ _ _)
   | (with_reducible exact LeO.refl _)
   | (with_reducible exact LeO.none _)
   | (with_reducible refine LeO.ite ?_ ?_)
   | (with_reducible refine LeO.bind ?_ (fun _ => ?_))
   | exact ih0 _ _ _ _ _ _ _ _ _ _ _
   | exact LeO.none _
   | refine LeO.ite ?_ ?_
   | refine LeO.bind ?_ (fun _ => ?_)
def impl_nearOk.T4 : Bool × List (List Nat × List Nat) := (true, [([], []), ([0], [0]), ([1], [1]), ([2], [2]), ([3, 2], [3]), ([4], [4]), ([5, 4], [4, 5]), ([4], [4]), ([7, 4], [4, 7]), ([6, 8, 4], [4, 6, 8]), ([4, 9], [4, 9]), ([10, 4], [10]), ([11], [11]), ([12, 11], [11, 12]), ([13, 11, 11], [11, 13]), ([14, 11], [11, 14]), ([11, 15], [11, 15]), ([16, 14], [16]), ([17], [17]), ([18, 17], [17, 18]), ([19, 17, 17], [17, 19]), ([20], [20]), ([21, 20], [20, 21]), ([20], [20]), ([23, 20], [20, 23]), ([22, 24, 20], [20, 22, 24]), ([25, 20], [20, 25]), ([26, 20], [20, 26]), ([20], [20]), ([28, 20], [20, 28]), ([27, 29, 20], [20, 27, 29]), ([20, 30, 17], [17, 20, 30]), ([17, 31], [17, 31])])
def impl_nearOk.B4 : List Nat := [0, 1, 3, 7, 15, 31, 63, 31, 159, 511, 1023, 2047, 4095, 8191, 16383, 32767, 65535, 131071, 262143, 524287, 1048575, 2097151, 4194303, 2097151, 10485759, 33554431, 67108863, 134217727, 2097151, 270532607, 1073741823, 2147483647, 4294967295]
theorem impl_nearOk.tab4 : rtab .any (opsOf Try.f70 4) = impl_nearOk.T4 := by kernel_rfl
theorem impl_nearOk.bits4 : waitsOk impl_nearOk.T4.2 impl_nearOk.B4 = true := by kernel_rfl
set_option maxHeartbeats 8000000 in
set_option maxRecDepth 100000 in
theorem impl_nearOk.calls (k : Nat) (a0_0 : Int) (a0_1 : Int) (a0_2 : Int) (a0_3 : Int) (a0_4 : Int) (A0_5 : Option Addr) (c0_5 : Nat) (l0_5 : List (S63)) (a0_6 : Int) (a0_7 : Bool) (r : Bool) (w : World) (hr0_5 : Kd.C k63 w A0_5 l0_5.length l0_5) (hc0_5 : l0_5.length ≤ c0_5) (h : impl_nearOk.f k a0_0 a0_1 a0_2 a0_3 a0_4 l0_5 a0_6 a0_7 = some r) :
  Calls Try.prog 70 #[.agg #[.int .i64 a0_0, .int .i64 a0_1, .int .i64 a0_2, .int .i64 a0_3, .int .i64 a0_4, .slice A0_5 l0_5.length c0_5, .int .i64 a0_6, .bool a0_7]] w fun e w' => e = .returned (.bool r) ∧ Below w.heap.size w w' := by
 have hu24 := Try.underlying24; have hu63 := Try.underlying63; have HR0_5 := Aside0.mk hr0_5; have HC0_5 := Aside0.mk hc0_5; clear hr0_5 hc0_5; have HB := Aside0.mk (Below.refl w.heap.size w)
 have H : (impl_nearOk.l0 k l0_5 (l0_5.length : Int) 0 a0_0 a0_1 a0_2 a0_3 a0_4 l0_5 a0_6 a0_7) = some r := h
 clear h; have H' := Aside0.mk H; clear H
 go_enter Try.func70, Try.ntmps70
 go_wp2_with (first | ((with_reducible refine gate_dst (N := 1) rfl ?_); refine box_q 1 #[.int .i64 a0_0, .int .i64 a0_1, .int .i64 a0_2, .int .i64 a0_3, .int .i64 a0_4, .slice A0_5 l0_5.length c0_5, .int .i64 a0_6, .bool a0_7] 24 ?_; intro gb269 hg w2 hbox hb; have BK269 := Aside0.mk (hbox); have GW269 := Aside0.mk ((by rw [hg]; exact (below_size (bw_q HB)) : w.heap.size ≤ gb269)); have GE269 := Aside0.mk ((by rw [hg]; exact (below_size (bw_q HB)) : w.heap.size ≤ gb269)); replace HB := Aside0.mk (below_step (bw_q HB) hb); clear hb hbox hg; have hcz3_0 : w2.cell? ⟨gb269, 0, none⟩ = some (.int .i64 a0_0) := (blk_cell BK269.out 0).trans rfl; have hcz3_1 : w2.cell? ⟨gb269, 1, none⟩ = some (.int .i64 a0_1) := (blk_cell BK269.out 1).trans rfl; have hcz3_2 : w2.cell? ⟨gb269, 2, none⟩ = some (.int .i64 a0_2) := (blk_cell BK269.out 2).trans rfl; have hcz3_3 : w2.cell? ⟨gb269, 3, none⟩ = some (.int .i64 a0_3) := (blk_cell BK269.out 3).trans rfl; have hcz3_4 : w2.cell? ⟨gb269, 4, none⟩ = some (.int .i64 a0_4) := (blk_cell BK269.out 4).trans rfl; have hcz3_5 : w2.cell? ⟨gb269, 5, none⟩ = some (.slice A0_5 l0_5.length c0_5) := (blk_cell BK269.out 5).trans rfl; have hcz3_6 : w2.cell? ⟨gb269, 6, none⟩ = some (.int .i64 a0_6) := (blk_cell BK269.out 6).trans rfl; have hcz3_7 : w2.cell? ⟨gb269, 7, none⟩ = some (.bool a0_7) := (blk_cell BK269.out 7).trans rfl; have hfz3_0 := blk_frozen BK269.out 0; have hfz3_1 := blk_frozen BK269.out 1; have hfz3_2 := blk_frozen BK269.out 2; have hfz3_3 := blk_frozen BK269.out 3; have hfz3_4 := blk_frozen BK269.out 4; have hfz3_5 := blk_frozen BK269.out 5; have hfz3_6 := blk_frozen BK269.out 6; have hfz3_7 := blk_frozen BK269.out 7))
 go_loopg [8] k (fun kq v8 w' => ∃ (x8_1 : Int), v8 = .int .i64 x8_1 ∧ Aside0 (impl_nearOk.l0 kq l0_5 (l0_5.length : Int) x8_1 a0_0 a0_1 a0_2 a0_3 a0_4 l0_5 a0_6 a0_7 = some r) ∧ Aside0 (kq ≤ k) ∧ Aside0 (w'.heap[gb269]? = some (.cells #[.int .i64 a0_0, .int .i64 a0_1, .int .i64 a0_2, .int .i64 a0_3, .int .i64 a0_4, (.slice A0_5 l0_5.length c0_5), .int .i64 a0_6, .bool a0_7] 24 (0, 0))) ∧ Aside0 (Below w.heap.size w w'))
 case atStart => exact ⟨(0), (by first | rfl | (simp; done) | (simp [*]; done)), H', ⟨Nat.le_refl _⟩, ⟨by refine bz_ ?_; exact BK269.out⟩, ⟨bw_q HB⟩⟩
 case round =>
  clear H'; (try clear p2); (try clear hcz3_0); (try clear hcz3_1); (try clear hcz3_2); (try clear hcz3_3); (try clear hcz3_4); (try clear hcz3_5); (try clear hcz3_6); (try clear hcz3_7); (try clear hfz3_0); (try clear hfz3_1); (try clear hfz3_2); (try clear hfz3_3); (try clear hfz3_4); (try clear hfz3_5); (try clear hfz3_6); (try clear hfz3_7); obtain ⟨x8_1, rfl, HA, HK1, BK269, HB⟩ := hrel
  cases gk with
  | zero => exact absurd HA.out (by simp [impl_nearOk.l0])
  | succ k1 =>
   have H := HA.out; clear HA
   simp only [impl_nearOk.l0] at H
   by_cases c4 : x8_1 < (l0_5.length : Int)
   ·rw [if_pos c4] at H
    have c4b0 : decide (x8_1 < (l0_5.length : Int)) = true := decide_eq_true c4
    clear c4
    by_cases c5 : 0 ≤ x8_1
    ·rw [if_pos c5] at H
     have c5b0 : decide (0 ≤ x8_1) = true := decide_eq_true c5
     clear c5
     by_cases c6 : x8_1 < (l0_5.length : Int)
     ·rw [if_pos c6] at H
      have c6b0 : decide (x8_1 < (l0_5.length : Int)) = true := decide_eq_true c6
      clear c6; replace H := Option.bind_eq_some_iff.mp H; obtain ⟨t272, A70, H⟩ := H
      replace H : (if t272 = true then (if ((rd_T63 l0_5 x8_1).f0) = a0_2 then (some false) else ((impl_in.f ((rd_T63 l0_5 x8_1).f1) 1 1000).bind fun t273 => (if t273 = true then (if x8_1 > 0 then (if 0 ≤ (wrap64 (x8_1 - 1)) then (if (wrap64 (x8_1 - 1)) < (l0_5.length : Int) then (if ((rd_T63 l0_5 (wrap64 (x8_1 - 1))).f0) ≥ ((rd_T63 l0_5 x8_1).f0) then (some false) else (impl_nearOk.l0 k1 l0_5 (l0_5.length : Int) (wrap64 (x8_1 + 1)) a0_0 a0_1 a0_2 a0_3 a0_4 l0_5 a0_6 a0_7)) else (none)) else (none)) else (impl_nearOk.l0 k1 l0_5 (l0_5.length : Int) (wrap64 (x8_1 + 1)) a0_0 a0_1 a0_2 a0_3 a0_4 l0_5 a0_6 a0_7)) else (some false)))) else (some false)) = some r := H
      have A7 := Aside0.mk A70; clear A70; have HZ4 := Aside0.mk H; clear H
      have p270 : 0 ≤ (x8_1 : Int) := of_decide_eq_true as_q
      have q270 : x8_1 < (l0_5.length : Int) := of_decide_eq_true as_q
      obtain ⟨ad270, e270, hx270_0, hx270_1⟩ := at_T63 HR0_5.out x8_1 p270 q270
      cases e270
      replace hx270_0 := (HB.out.cell (World.block_lt_of_cell? w _ hx270_0)).trans hx270_0
      replace hx270_1 := (HB.out.cell (World.block_lt_of_cell? w _ hx270_1)).trans hx270_1
      replace p270 := eq_true p270; replace q270 := eq_true q270
      try go_wp2_with (first | ((with_reducible refine gate_dst (N := 4) rfl ?_); refine box_q 4 #[.int .i64 0, .int .i64 0] 63 ?_; intro gb271 hg w10 hbox hb; have BK271 := Aside0.mk (hbox); have GW271 := Aside0.mk ((by rw [hg]; exact (below_size (bw_q HB)) : w.heap.size ≤ gb271)); have GE271 := Aside0.mk ((by rw [hg]; exact (below_size (bw_q HB)) : w.heap.size ≤ gb271)); replace HB := Aside0.mk (below_step (bw_q HB) hb); have NB269_271 := Aside0.mk ((by rw [hg]; exact Nat.ne_of_lt (blk_lt (g := gb269) (o := .cells #[.int .i64 a0_0, .int .i64 a0_1, .int .i64 a0_2, .int .i64 a0_3, .int .i64 a0_4, .slice (some ad270) l0_5.length c0_5, .int .i64 a0_6, .bool a0_7] 24 (0, 0)) (bk_q BK269)) : gb269 ≠ gb271)); have NB271_269 := Aside0.mk ((by rw [hg]; exact Nat.ne_of_gt (blk_lt (g := gb269) (o := .cells #[.int .i64 a0_0, .int .i64 a0_1, .int .i64 a0_2, .int .i64 a0_3, .int .i64 a0_4, .slice (some ad270) l0_5.length c0_5, .int .i64 a0_6, .bool a0_7] 24 (0, 0)) (bk_q BK269)) : gb271 ≠ gb269)); replace BK269 := Aside0.mk (blk_below (g := gb269) (bk_q BK269) hb); clear hb hbox hg; have hnb11 := NB271_269.out; have hnc11 := NB269_271.out; have hcz12_0 : w10.cell? ⟨gb271, 0, none⟩ = some (.int .i64 0) := (blk_cell BK271.out 0).trans rfl; have hcz12_1 : w10.cell? ⟨gb271, 1, none⟩ = some (.int .i64 0) := (blk_cell BK271.out 1).trans rfl; have hfz12_0 := blk_frozen BK271.out 0; have hfz12_1 := blk_frozen BK271.out 1))
      have n0_ : Aside0 (((w10.setCell ⟨gb271, 0, none⟩ (.int .i64 ((rd_T63 l0_5 x8_1).f0))).setCell ⟨gb271, 1, none⟩ (.int .i64 ((rd_T63 l0_5 x8_1).f1))).heap[gb269]? = some (.cells #[.int .i64 a0_0, .int .i64 a0_1, .int .i64 a0_2, .int .i64 a0_3, .int .i64 a0_4, .slice (some ad270) l0_5.length c0_5, .int .i64 a0_6, .bool a0_7] 24 (0, 0))) := ⟨by refine bz_ ?_; refine blk_far ?_ NB269_271.out _; refine bz_ ?_; refine blk_far ?_ NB269_271.out _; refine bz_ ?_; exact BK269.out⟩
      have n1_ : Aside0 (((w10.setCell ⟨gb271, 0, none⟩ (.int .i64 ((rd_T63 l0_5 x8_1).f0))).setCell ⟨gb271, 1, none⟩ (.int .i64 ((rd_T63 l0_5 x8_1).f1))).heap[gb271]? = some (.cells #[.int .i64 ((rd_T63 l0_5 x8_1).f0), .int .i64 ((rd_T63 l0_5 x8_1).f1)] 63 (0, 0))) := ⟨by refine bz_ ?_; refine blk_put (cs := #[.int .i64 ((rd_T63 l0_5 x8_1).f0), .int .i64 0]) ?_ 1 _ rfl; refine bz_ ?_; refine blk_put (cs := #[.int .i64 0, .int .i64 0]) ?_ 0 _ rfl; refine bz_ ?_; exact BK271.out⟩
      have n2_ : Aside0 (Below w.heap.size w ((w10.setCell ⟨gb271, 0, none⟩ (.int .i64 ((rd_T63 l0_5 x8_1).f0))).setCell ⟨gb271, 1, none⟩ (.int .i64 ((rd_T63 l0_5 x8_1).f1)))) := ⟨bw_q HB⟩
      (try clear BK269); (try clear BK271); (try clear HB)
      generalize ((w10.setCell ⟨gb271, 0, none⟩ (.int .i64 ((rd_T63 l0_5 x8_1).f0))).setCell ⟨gb271, 1, none⟩ (.int .i64 ((rd_T63 l0_5 x8_1).f1))) = w13 at n0_ n1_ n2_ ⊢
      have BK269 := n0_; have BK271 := n1_; have HB := n2_; clear n0_ n1_ n2_; replace BK269 := Aside0.mk (blk_drew BK269.out); replace BK271 := Aside0.mk (blk_drew BK271.out); replace HB := Aside0.mk (below_drew1 HB.out)
      refine start_ (n := 33) (S := fun w' => w'.cell? ⟨gb271, 0, none⟩ = some (.int .i64 ((rd_T63 l0_5 x8_1).f0)) ∧ w'.cell? ⟨gb271, 1, none⟩ = some (.int .i64 ((rd_T63 l0_5 x8_1).f1))) (ds := []) (bL 33 0) (by kernel_rfl) rfl rfl ⟨(blk_cell BK271.out 0).trans rfl, (blk_cell BK271.out 1).trans rfl⟩ (fun hHeld => ?_); refine with_tabW impl_nearOk.tab4 impl_nearOk.bits4 (fun HT_ HW_ => ?_)
      generalize w13.drew = w14 at BK269 BK271 HB hHeld ⊢
      refine pq_ 0 13 (bL 33 1) HT_.out rfl rfl ?_
      refine take_ (i := 1) (N := some 14) (v := ?_) (a' := ?_) (bL 33 3) rfl rfl (take_ofW HT_.out HW_.out (by kernel_rfl)) (fun _ _ _ h => h) (Or.inl ⟨by rfl, ?_⟩) hHeld ?_ ?_; rotate_left; (rintro w' ⟨s0, s1⟩; go_simp; with_reducible rfl); rotate_left; (exact put_q)
      refine one_ (i := 2) (N := some 15) (bL 33 7) rfl rfl (one_of HT_.out (by kernel_rfl)) (by decide) (fun K hK => ?_)
      refine goes_ Try.func69 (by kernel_rfl) rfl #[.int .i64 ((rd_T63 l0_5 x8_1).f0), .int .i64 1, .int .i64 6] (by rfl) rfl rfl mp_q ?_
      with_reducible refine (impl_in.calls ((rd_T63 l0_5 x8_1).f0) 1 6 t272 _ A7.out).mono ?_
      rintro e w' ⟨rfl, ⟨nd, rfl⟩⟩
      refine ⟨_, rfl, ?_⟩
      refine hK.out _ _ ⟨(blk_cell BK271.out 0).trans rfl, (blk_cell BK271.out 1).trans rfl⟩ (fun hHeld => ?_)
      clear hK K
      refine norm_ (a' := ?_) ?_ ?_; rotate_left; (show Act.put _ (some 15) _ = _; simp only [Act.put, List.setIfInBounds_toArray, List.set_cons_zero, List.set_cons_succ, i64_w, i32_w]; rfl)
      refine pq_ 3 16 (bL 33 15) HT_.out rfl rfl ?_
      refine pq_ 4 17 (bL 33 31) HT_.out rfl rfl ?_
      have H := HZ4.out; clear HZ4
      by_cases c8 : t272 = true
      ·subst c8
       replace H : (if ((rd_T63 l0_5 x8_1).f0) = a0_2 then (some false) else ((impl_in.f ((rd_T63 l0_5 x8_1).f1) 1 1000).bind fun t273 => (if t273 = true then (if x8_1 > 0 then (if 0 ≤ (wrap64 (x8_1 - 1)) then (if (wrap64 (x8_1 - 1)) < (l0_5.length : Int) then (if ((rd_T63 l0_5 (wrap64 (x8_1 - 1))).f0) ≥ ((rd_T63 l0_5 x8_1).f0) then (some false) else (impl_nearOk.l0 k1 l0_5 (l0_5.length : Int) (wrap64 (x8_1 + 1)) a0_0 a0_1 a0_2 a0_3 a0_4 l0_5 a0_6 a0_7)) else (none)) else (none)) else (impl_nearOk.l0 k1 l0_5 (l0_5.length : Int) (wrap64 (x8_1 + 1)) a0_0 a0_1 a0_2 a0_3 a0_4 l0_5 a0_6 a0_7)) else (some false)))) = some r := by rw [if_pos rfl] at H; exact H
       have HZ5 := Aside0.mk H; clear H
       refine last_weaken (fun w' => w'.cell? ⟨gb271, 0, none⟩ = some (.int .i64 ((rd_T63 l0_5 x8_1).f0)) ∧ w'.cell? ⟨gb271, 1, none⟩ = some (.int .i64 ((rd_T63 l0_5 x8_1).f1)) ∧ w'.cell? ⟨gb269, 0, none⟩ = some (.int .i64 a0_0) ∧ w'.cell? ⟨gb269, 1, none⟩ = some (.int .i64 a0_1) ∧ w'.cell? ⟨gb269, 2, none⟩ = some (.int .i64 a0_2) ∧ w'.cell? ⟨gb269, 3, none⟩ = some (.int .i64 a0_3) ∧ w'.cell? ⟨gb269, 4, none⟩ = some (.int .i64 a0_4) ∧ w'.cell? ⟨gb269, 5, none⟩ = some (.slice (some ad270) l0_5.length c0_5) ∧ w'.cell? ⟨gb269, 6, none⟩ = some (.int .i64 a0_6) ∧ w'.cell? ⟨gb269, 7, none⟩ = some (.bool a0_7)) (fun w' h_ => ⟨h_.1, h_.2.1⟩) ⟨hHeld.1, hHeld.2, (by first | assumption | exact (blk_cell BK269.out 0).trans rfl), (by first | assumption | exact (blk_cell BK269.out 1).trans rfl), (by first | assumption | exact (blk_cell BK269.out 2).trans rfl), (by first | assumption | exact (blk_cell BK269.out 3).trans rfl), (by first | assumption | exact (blk_cell BK269.out 4).trans rfl), (by first | assumption | exact (blk_cell BK269.out 5).trans rfl), (by first | assumption | exact (blk_cell BK269.out 6).trans rfl), (by first | assumption | exact (blk_cell BK269.out 7).trans rfl)⟩ (fun hHeld => ?_)
       refine pq_ 5 18 (bL 33 63) HT_.out rfl rfl ?_
       refine pq_ 7 20 (bL 33 191) HT_.out rfl rfl ?_
       refine take_ (i := 6) (N := some 19) (v := ?_) (a' := ?_) (bL 33 255) rfl rfl (take_ofW HT_.out HW_.out (by kernel_rfl)) (fun _ _ _ h => h) (Or.inl ⟨by rfl, ?_⟩) hHeld ?_ ?_; rotate_left; (rintro w' ⟨s0, s1, s2, s3, s4, s5, s6, s7, s8, s9⟩; go_simp; with_reducible rfl); rotate_left; (exact put_q)
       refine take_ (i := 8) (N := some 21) (v := ?_) (a' := ?_) (bL 33 511) rfl rfl (take_ofW HT_.out HW_.out (by kernel_rfl)) (fun _ _ _ h => h) (Or.inl ⟨by rfl, ?_⟩) hHeld ?_ ?_; rotate_left; (rintro w' ⟨s0, s1, s2, s3, s4, s5, s6, s7, s8, s9⟩; go_simp; with_reducible rfl); rotate_left; (exact put_q)
       refine pq_ 9 22 (bL 33 1023) HT_.out rfl rfl ?_
       refine pq_ 10 23 (bL 33 2047) HT_.out rfl rfl ?_
       refine pq_ 11 24 (bL 33 4095) HT_.out rfl rfl ?_
       have H := HZ5.out; clear HZ5
       by_cases c9 : ((rd_T63 l0_5 x8_1).f0) = a0_2
       ·rw [if_pos c9] at H
        have c9b0 : (((rd_T63 l0_5 x8_1).f0) == a0_2) = true := beq_iff_eq.mpr c9
        have c9b1 : (((rd_T63 l0_5 x8_1).f0) != a0_2) = false := bne_eq_false_iff_eq.mpr c9
        (first | rw [c9b0] | rw [c9b1] | (simp only [i64_w, i32_w]; first | rw [c9b0] | rw [c9b1]) | skip)
        clear c9; obtain rfl := Option.some.inj H
        refine pu_ 12 25 (bL 33 8191) HT_.out rfl rfl ?_
        refine pu_ 13 26 (bL 33 16383) HT_.out rfl rfl ?_
        refine pu_ 14 27 (bL 33 32767) HT_.out rfl rfl ?_
        refine pu_ 15 28 (bL 33 65535) HT_.out rfl rfl ?_
        refine pq_ 16 29 (bL 33 131071) HT_.out rfl rfl ?_
        refine pq_ 17 30 (bL 33 262143) HT_.out rfl rfl ?_
        refine pu_ 18 31 (bL 33 524287) HT_.out rfl rfl ?_
        refine pu_ 19 32 (bL 33 1048575) HT_.out rfl rfl ?_
        refine pu_ 20 33 (bL 33 2097151) HT_.out rfl rfl ?_
        refine pu_ 21 34 (bL 33 4194303) HT_.out rfl rfl ?_
        refine pu_ 22 35 (bL 33 8388607) HT_.out rfl rfl ?_
        refine pu_ 23 36 (bL 33 16777215) HT_.out rfl rfl ?_
        refine pu_ 24 37 (bL 33 33554431) HT_.out rfl rfl ?_
        refine pu_ 25 38 (bL 33 67108863) HT_.out rfl rfl ?_
        refine pu_ 26 39 (bL 33 134217727) HT_.out rfl rfl ?_
        refine pu_ 27 40 (bL 33 268435455) HT_.out rfl rfl ?_
        refine pu_ 28 41 (bL 33 536870911) HT_.out rfl rfl ?_
        refine pu_ 29 42 (bL 33 1073741823) HT_.out rfl rfl ?_
        refine pu_ 30 43 (bL 33 2147483647) HT_.out rfl rfl ?_
        refine pu_ 31 44 (bL 33 4294967295) HT_.out rfl rfl ?_
        refine pq_ 32 45 (bL 33 8589934591) HT_.out rfl rfl ?_
        refine done_ (done_of HT_.out (by kernel_rfl)) ?_
        try go_wp2
        go_ret
        exact ⟨er_q, bw_q HB⟩
       ·rw [if_neg c9] at H
        have c9b0 : (((rd_T63 l0_5 x8_1).f0) == a0_2) = false := beq_eq_false_iff_ne.mpr c9
        have c9b1 : (((rd_T63 l0_5 x8_1).f0) != a0_2) = true := bne_iff_ne.mpr c9
        (first | rw [c9b0] | rw [c9b1] | (simp only [i64_w, i32_w]; first | rw [c9b0] | rw [c9b1]) | skip)
        replace H := Option.bind_eq_some_iff.mp H; obtain ⟨t273, A150, H⟩ := H
        replace H : (if t273 = true then (if x8_1 > 0 then (if 0 ≤ (wrap64 (x8_1 - 1)) then (if (wrap64 (x8_1 - 1)) < (l0_5.length : Int) then (if ((rd_T63 l0_5 (wrap64 (x8_1 - 1))).f0) ≥ ((rd_T63 l0_5 x8_1).f0) then (some false) else (impl_nearOk.l0 k1 l0_5 (l0_5.length : Int) (wrap64 (x8_1 + 1)) a0_0 a0_1 a0_2 a0_3 a0_4 l0_5 a0_6 a0_7)) else (none)) else (none)) else (impl_nearOk.l0 k1 l0_5 (l0_5.length : Int) (wrap64 (x8_1 + 1)) a0_0 a0_1 a0_2 a0_3 a0_4 l0_5 a0_6 a0_7)) else (some false)) = some r := H
        have A15 := Aside0.mk A150; clear A150; have HZ6 := Aside0.mk H; clear H
        refine pq_ 12 25 (bL 33 8191) HT_.out rfl rfl ?_
        refine take_ (i := 13) (N := some 26) (v := ?_) (a' := ?_) (bL 33 16383) rfl rfl (take_ofW HT_.out HW_.out (by kernel_rfl)) (fun _ _ _ h => h) (Or.inl ⟨by rfl, ?_⟩) hHeld ?_ ?_; rotate_left; (rintro w' ⟨s0, s1, s2, s3, s4, s5, s6, s7, s8, s9⟩; go_simp; with_reducible rfl); rotate_left; (exact put_q)
        refine one_ (i := 14) (N := some 27) (bL 33 32767) rfl rfl (one_of HT_.out (by kernel_rfl)) (by decide) (fun K hK => ?_)
        refine goes_ Try.func69 (by kernel_rfl) rfl #[.int .i64 ((rd_T63 l0_5 x8_1).f1), .int .i64 1, .int .i64 1000] (by rfl) rfl rfl mp_q ?_
        with_reducible refine (impl_in.calls ((rd_T63 l0_5 x8_1).f1) 1 1000 t273 _ A15.out).mono ?_
        rintro e w' ⟨rfl, ⟨nd, rfl⟩⟩
        refine ⟨_, rfl, ?_⟩
        refine hK.out _ _ ⟨(blk_cell BK271.out 0).trans rfl, (blk_cell BK271.out 1).trans rfl, (blk_cell BK269.out 0).trans rfl, (blk_cell BK269.out 1).trans rfl, (blk_cell BK269.out 2).trans rfl, (blk_cell BK269.out 3).trans rfl, (blk_cell BK269.out 4).trans rfl, (blk_cell BK269.out 5).trans rfl, (blk_cell BK269.out 6).trans rfl, (blk_cell BK269.out 7).trans rfl⟩ (fun hHeld => ?_)
        clear hK K
        refine norm_ (a' := ?_) ?_ ?_; rotate_left; (show Act.put _ (some 27) _ = _; simp only [Act.put, List.setIfInBounds_toArray, List.set_cons_zero, List.set_cons_succ, i64_w, i32_w]; rfl)
        refine pq_ 15 28 (bL 33 65535) HT_.out rfl rfl ?_
        refine pq_ 16 29 (bL 33 131071) HT_.out rfl rfl ?_
        refine pq_ 17 30 (bL 33 262143) HT_.out rfl rfl ?_
        have H := HZ6.out; clear HZ6
        by_cases c16 : t273 = true
        ·subst c16
         replace H : (if x8_1 > 0 then (if 0 ≤ (wrap64 (x8_1 - 1)) then (if (wrap64 (x8_1 - 1)) < (l0_5.length : Int) then (if ((rd_T63 l0_5 (wrap64 (x8_1 - 1))).f0) ≥ ((rd_T63 l0_5 x8_1).f0) then (some false) else (impl_nearOk.l0 k1 l0_5 (l0_5.length : Int) (wrap64 (x8_1 + 1)) a0_0 a0_1 a0_2 a0_3 a0_4 l0_5 a0_6 a0_7)) else (none)) else (none)) else (impl_nearOk.l0 k1 l0_5 (l0_5.length : Int) (wrap64 (x8_1 + 1)) a0_0 a0_1 a0_2 a0_3 a0_4 l0_5 a0_6 a0_7)) = some r := by rw [if_pos rfl] at H; exact H
         have HZ7 := Aside0.mk H; clear H
         refine pq_ 18 31 (bL 33 524287) HT_.out rfl rfl ?_
         refine pq_ 19 32 (bL 33 1048575) HT_.out rfl rfl ?_
         refine pq_ 20 33 (bL 33 2097151) HT_.out rfl rfl ?_
         have H := HZ7.out; clear HZ7
         by_cases c17 : x8_1 > 0
         ·rw [if_pos c17] at H
          have c17b0 : decide (0 < x8_1) = true := decide_eq_true c17
          (first | rw [c17b0] | (simp only [i64_w, i32_w]; first | rw [c17b0]) | skip)
          clear c17; obtain ⟨ji18, hji18⟩ : ∃ j_ : Int, (wrap64 (x8_1 - 1)) = j_ := ⟨_, rfl⟩
          replace H : (if 0 ≤ (ji18) then (if (ji18) < (l0_5.length : Int) then (if ((rd_T63 l0_5 (ji18)).f0) ≥ ((rd_T63 l0_5 x8_1).f0) then (some false) else (impl_nearOk.l0 k1 l0_5 (l0_5.length : Int) (wrap64 (x8_1 + 1)) a0_0 a0_1 a0_2 a0_3 a0_4 l0_5 a0_6 a0_7)) else (none)) else (none)) = some r := by first | (rw [hji18] at H; exact H) | (simp only [hji18] at H ⊢; exact H)
          (try rw [hji18] at A7)
          (try rw [hji18] at A15)
          have hji18w : (IntKind.i64.wrap (x8_1 - 1)) = ji18 := (i64_w _).trans hji18
          by_cases c19 : 0 ≤ (ji18)
          ·rw [if_pos c19] at H
           have c19b0 : decide (0 ≤ (ji18)) = true := decide_eq_true c19
           clear c19
           by_cases c20 : (ji18) < (l0_5.length : Int)
           ·rw [if_pos c20] at H
            have c20b0 : decide ((ji18) < (l0_5.length : Int)) = true := decide_eq_true c20
            clear c20; have HZ8 := Aside0.mk H; clear H
            have p274 : 0 ≤ ((ji18) : Int) := of_decide_eq_true as_q
            have q274 : (ji18) < (l0_5.length : Int) := of_decide_eq_true as_q
            obtain ⟨ad274, e274, hx274_0, hx274_1⟩ := at_T63 HR0_5.out (ji18) p274 q274; have hw274_1 := hx274_1; have hw274_0 := hx274_0
            obtain rfl : ad270 = ad274 := (by injection e274)
            replace hx274_0 := (HB.out.cell (World.block_lt_of_cell? w _ hx274_0)).trans hx274_0
            replace hx274_1 := (HB.out.cell (World.block_lt_of_cell? w _ hx274_1)).trans hx274_1
            replace p274 := eq_true p274; replace q274 := eq_true q274
            refine last_weaken (fun w' => w'.cell? ⟨gb271, 0, none⟩ = some (.int .i64 ((rd_T63 l0_5 x8_1).f0)) ∧ w'.cell? ⟨gb271, 1, none⟩ = some (.int .i64 ((rd_T63 l0_5 x8_1).f1)) ∧ w'.cell? ⟨gb269, 0, none⟩ = some (.int .i64 a0_0) ∧ w'.cell? ⟨gb269, 1, none⟩ = some (.int .i64 a0_1) ∧ w'.cell? ⟨gb269, 2, none⟩ = some (.int .i64 a0_2) ∧ w'.cell? ⟨gb269, 3, none⟩ = some (.int .i64 a0_3) ∧ w'.cell? ⟨gb269, 4, none⟩ = some (.int .i64 a0_4) ∧ w'.cell? ⟨gb269, 5, none⟩ = some (.slice (some ad270) l0_5.length c0_5) ∧ w'.cell? ⟨gb269, 6, none⟩ = some (.int .i64 a0_6) ∧ w'.cell? ⟨gb269, 7, none⟩ = some (.bool a0_7) ∧ w'.cell? (ad270.add (((ji18)).toNat * 2)) = some (.int .i64 ((rd_T63 l0_5 (ji18)).f0)) ∧ w'.cell? ⟨(ad270.add (((ji18)).toNat * 2)).block, (ad270.add (((ji18)).toNat * 2)).off + 1, none⟩ = some (.int .i64 ((rd_T63 l0_5 (ji18)).f1))) (fun w' h_ => ⟨h_.1, h_.2.1, h_.2.2.1, h_.2.2.2.1, h_.2.2.2.2.1, h_.2.2.2.2.2.1, h_.2.2.2.2.2.2.1, h_.2.2.2.2.2.2.2.1, h_.2.2.2.2.2.2.2.2.1, h_.2.2.2.2.2.2.2.2.2.1⟩) ⟨hHeld.1, hHeld.2.1, hHeld.2.2.1, hHeld.2.2.2.1, hHeld.2.2.2.2.1, hHeld.2.2.2.2.2.1, hHeld.2.2.2.2.2.2.1, hHeld.2.2.2.2.2.2.2.1, hHeld.2.2.2.2.2.2.2.2.1, hHeld.2.2.2.2.2.2.2.2.2, (by first | assumption | exact ((HB.out.cell (World.block_lt_of_cell? w _ hw274_0)).trans hw274_0)), (by first | assumption | exact ((HB.out.cell (World.block_lt_of_cell? w _ hw274_1)).trans hw274_1))⟩ (fun hHeld => ?_)
            refine pq_ 21 34 (bL 33 4194303) HT_.out rfl rfl ?_
            refine pq_ 23 36 (bL 33 12582911) HT_.out rfl rfl ?_
            refine pq_ 24 37 (bL 33 29360127) HT_.out rfl rfl ?_
            refine pq_ 28 41 (bL 33 297795583) HT_.out rfl rfl ?_
            refine take_ (i := 22) (N := some 35) (v := ?_) (a' := ?_) (bL 33 301989887) rfl rfl (take_ofW HT_.out HW_.out (by kernel_rfl)) (fun _ _ _ h => h) (Or.inl ⟨by rfl, ?_⟩) hHeld ?_ ?_; rotate_left; (rintro w' ⟨s0, s1, s2, s3, s4, s5, s6, s7, s8, s9, s10, s11⟩; go_simp; with_reducible rfl); rotate_left; (exact put_q)
            refine pq_ 25 38 (bL 33 335544319) HT_.out rfl rfl ?_
            refine pq_ 26 39 (bL 33 402653183) HT_.out rfl rfl ?_
            refine take_ (i := 27) (N := some 40) (v := ?_) (a' := ?_) (bL 33 536870911) rfl rfl (take_ofW HT_.out HW_.out (by kernel_rfl)) (fun _ _ _ h => h) (Or.inl ⟨by rfl, ?_⟩) hHeld ?_ ?_; rotate_left; (rintro w' ⟨s0, s1, s2, s3, s4, s5, s6, s7, s8, s9, s10, s11⟩; go_simp; with_reducible rfl); rotate_left; (exact put_q)
            refine take_ (i := 29) (N := some 42) (v := ?_) (a' := ?_) (bL 33 1073741823) rfl rfl (take_ofW HT_.out HW_.out (by kernel_rfl)) (fun _ _ _ h => h) (Or.inl ⟨by rfl, ?_⟩) hHeld ?_ ?_; rotate_left; (rintro w' ⟨s0, s1, s2, s3, s4, s5, s6, s7, s8, s9, s10, s11⟩; go_simp; with_reducible rfl); rotate_left; (exact put_q)
            refine pq_ 30 43 (bL 33 2147483647) HT_.out rfl rfl ?_
            refine pq_ 31 44 (bL 33 4294967295) HT_.out rfl rfl ?_
            refine pq_ 32 45 (bL 33 8589934591) HT_.out rfl rfl ?_
            have H := HZ8.out; clear HZ8
            by_cases c21 : ((rd_T63 l0_5 (ji18)).f0) ≥ ((rd_T63 l0_5 x8_1).f0)
            ·rw [if_pos c21] at H
             have c21b0 : decide (((rd_T63 l0_5 x8_1).f0) ≤ ((rd_T63 l0_5 (ji18)).f0)) = true := decide_eq_true c21
             (first | rw [c21b0] | (simp only [i64_w, i32_w]; first | rw [c21b0]) | skip)
             clear c21; obtain rfl := Option.some.inj H
             refine done_ (done_of HT_.out (by kernel_rfl)) ?_
             try go_wp2
             go_ret
             exact ⟨by first | rfl | (simp [errW_none, errW_some] <;> rfl) | (simp only [← hji18]; first | rfl | (simp [errW_none, errW_some] <;> rfl)) | (simp [*, errW_none, errW_some] <;> rfl), bw_q HB⟩
            ·rw [if_neg c21] at H
             have c21b0 : decide (((rd_T63 l0_5 x8_1).f0) ≤ ((rd_T63 l0_5 (ji18)).f0)) = false := decide_eq_false c21
             (first | rw [c21b0] | (simp only [i64_w, i32_w]; first | rw [c21b0]) | skip)
             clear c21; have H' := Aside0.mk H; clear H
             refine done_ (done_of HT_.out (by kernel_rfl)) ?_
             try go_wp2
             go_roundg k1
             case measure => have := HK1.out; omega
             case rel => exact ⟨(wrap64 (x8_1 + 1)), (by first | rfl | (simp; done) | (simp [*]; done)), H', ⟨by have := HK1.out; omega⟩, ⟨by refine bz_ ?_; exact BK269.out⟩, ⟨bw_q HB⟩⟩
           ·rw [if_neg c20] at H
            exact absurd H (by simp)
          ·rw [if_neg c19] at H
           exact absurd H (by simp)
         ·rw [if_neg c17] at H
          have c17b0 : decide (0 < x8_1) = false := decide_eq_false c17
          (first | rw [c17b0] | (simp only [i64_w, i32_w]; first | rw [c17b0]) | skip)
          clear c17; have H' := Aside0.mk H; clear H
          refine pu_ 21 34 (bL 33 4194303) HT_.out rfl rfl ?_
          refine pu_ 22 35 (bL 33 8388607) HT_.out rfl rfl ?_
          refine pu_ 23 36 (bL 33 16777215) HT_.out rfl rfl ?_
          refine pu_ 24 37 (bL 33 33554431) HT_.out rfl rfl ?_
          refine pu_ 25 38 (bL 33 67108863) HT_.out rfl rfl ?_
          refine pu_ 26 39 (bL 33 134217727) HT_.out rfl rfl ?_
          refine pu_ 27 40 (bL 33 268435455) HT_.out rfl rfl ?_
          refine pu_ 28 41 (bL 33 536870911) HT_.out rfl rfl ?_
          refine pu_ 29 42 (bL 33 1073741823) HT_.out rfl rfl ?_
          refine pu_ 30 43 (bL 33 2147483647) HT_.out rfl rfl ?_
          refine pq_ 31 44 (bL 33 4294967295) HT_.out rfl rfl ?_
          refine pq_ 32 45 (bL 33 8589934591) HT_.out rfl rfl ?_
          refine done_ (done_of HT_.out (by kernel_rfl)) ?_
          try go_wp2
          go_roundg k1
          case measure => have := HK1.out; omega
          case rel => exact ⟨(wrap64 (x8_1 + 1)), (by first | rfl | (simp; done) | (simp [*]; done)), H', ⟨by have := HK1.out; omega⟩, ⟨by refine bz_ ?_; exact BK269.out⟩, ⟨bw_q HB⟩⟩
        ·replace c16 := Bool.eq_false_iff.mpr c16; subst c16
         replace H : (some false) = some r := by rw [if_neg (show ¬ (false = true) by decide)] at H; exact H
         obtain rfl := Option.some.inj H
         refine pu_ 18 31 (bL 33 524287) HT_.out rfl rfl ?_
         refine pu_ 19 32 (bL 33 1048575) HT_.out rfl rfl ?_
         refine pu_ 20 33 (bL 33 2097151) HT_.out rfl rfl ?_
         refine pu_ 21 34 (bL 33 4194303) HT_.out rfl rfl ?_
         refine pu_ 22 35 (bL 33 8388607) HT_.out rfl rfl ?_
         refine pu_ 23 36 (bL 33 16777215) HT_.out rfl rfl ?_
         refine pu_ 24 37 (bL 33 33554431) HT_.out rfl rfl ?_
         refine pu_ 25 38 (bL 33 67108863) HT_.out rfl rfl ?_
         refine pu_ 26 39 (bL 33 134217727) HT_.out rfl rfl ?_
         refine pu_ 27 40 (bL 33 268435455) HT_.out rfl rfl ?_
         refine pu_ 28 41 (bL 33 536870911) HT_.out rfl rfl ?_
         refine pu_ 29 42 (bL 33 1073741823) HT_.out rfl rfl ?_
         refine pu_ 30 43 (bL 33 2147483647) HT_.out rfl rfl ?_
         refine pu_ 31 44 (bL 33 4294967295) HT_.out rfl rfl ?_
         refine pq_ 32 45 (bL 33 8589934591) HT_.out rfl rfl ?_
         refine done_ (done_of HT_.out (by kernel_rfl)) ?_
         try go_wp2
         go_ret
         exact ⟨er_q, bw_q HB⟩
      ·replace c8 := Bool.eq_false_iff.mpr c8; subst c8
       replace H : (some false) = some r := by rw [if_neg (show ¬ (false = true) by decide)] at H; exact H
       obtain rfl := Option.some.inj H
       refine pu_ 5 18 (bL 33 63) HT_.out rfl rfl ?_
       refine pu_ 6 19 (bL 33 127) HT_.out rfl rfl ?_
       refine pu_ 7 20 (bL 33 255) HT_.out rfl rfl ?_
       refine pu_ 8 21 (bL 33 511) HT_.out rfl rfl ?_
       refine pu_ 9 22 (bL 33 1023) HT_.out rfl rfl ?_
       refine pq_ 10 23 (bL 33 2047) HT_.out rfl rfl ?_
       refine pq_ 11 24 (bL 33 4095) HT_.out rfl rfl ?_
       refine pu_ 12 25 (bL 33 8191) HT_.out rfl rfl ?_
       refine pu_ 13 26 (bL 33 16383) HT_.out rfl rfl ?_
       refine pu_ 14 27 (bL 33 32767) HT_.out rfl rfl ?_
       refine pu_ 15 28 (bL 33 65535) HT_.out rfl rfl ?_
       refine pq_ 16 29 (bL 33 131071) HT_.out rfl rfl ?_
       refine pq_ 17 30 (bL 33 262143) HT_.out rfl rfl ?_
       refine pu_ 18 31 (bL 33 524287) HT_.out rfl rfl ?_
       refine pu_ 19 32 (bL 33 1048575) HT_.out rfl rfl ?_
       refine pu_ 20 33 (bL 33 2097151) HT_.out rfl rfl ?_
       refine pu_ 21 34 (bL 33 4194303) HT_.out rfl rfl ?_
       refine pu_ 22 35 (bL 33 8388607) HT_.out rfl rfl ?_
       refine pu_ 23 36 (bL 33 16777215) HT_.out rfl rfl ?_
       refine pu_ 24 37 (bL 33 33554431) HT_.out rfl rfl ?_
       refine pu_ 25 38 (bL 33 67108863) HT_.out rfl rfl ?_
       refine pu_ 26 39 (bL 33 134217727) HT_.out rfl rfl ?_
       refine pu_ 27 40 (bL 33 268435455) HT_.out rfl rfl ?_
       refine pu_ 28 41 (bL 33 536870911) HT_.out rfl rfl ?_
       refine pu_ 29 42 (bL 33 1073741823) HT_.out rfl rfl ?_
       refine pu_ 30 43 (bL 33 2147483647) HT_.out rfl rfl ?_
       refine pu_ 31 44 (bL 33 4294967295) HT_.out rfl rfl ?_
       refine pq_ 32 45 (bL 33 8589934591) HT_.out rfl rfl ?_
       refine done_ (done_of HT_.out (by kernel_rfl)) ?_
       try go_wp2
       go_ret
       exact ⟨er_q, bw_q HB⟩
     ·rw [if_neg c6] at H
      exact absurd H (by simp)
    ·rw [if_neg c5] at H
     exact absurd H (by simp)
   ·rw [if_neg c4] at H
    have c4b0 : decide (x8_1 < (l0_5.length : Int)) = false := decide_eq_false c4
    clear c4; obtain rfl := Option.some.inj H
    go_wp2
    go_ret
    exact ⟨er_q, bw_q HB⟩

end Go.Proofs.Ytnecbkognpponaa.Q

/- A Go function as a Lean function, and its contract: for every input the Go code comes to what the Lean function tells. -/



namespace Go.Proofs.Ytnecbkognpponaa.Q
open Go.RowKit Go.Proofs.YtnecbkognpponaaW.PrintWords Go.Proofs.YtnecbkognpponaaW.PrintLast Go.Proofs.YtnecbkognpponaaW.PrintMore
attribute [local go_sem] max2_int min2_int max_two min_two max_three min_three max_four min_four   -- for this text's walks alone
set_option linter.unusedVariables false
set_option linter.unusedSimpArgs false

/-! ### impl_RecordOk: function 27 -/
def impl_RecordOk.j0 : Nat → Bool → Int → Int → Int → Int → Int → List (S63) → Int → Bool → Option (Bool)
 | 0, _, _, _, _, _, _, _, _, _ => none
 | k + 1, x12, x276000, x276001, x276002, x276003, x276004, x276005, x276006, x276007 => if x12 = true then (some false) else (if x276001 = 1 then ((impl_in.f x276000 0 2).bind fun t278 => (if t278 = true then (if x276003 = 0 then ((impl_nearOk.f k x276000 x276001 x276002 x276003 x276004 x276005 x276006 x276007).bind fun t279 => (if t279 = true then (if x276006 = 0 then (some (!x276007)) else (some false)) else (some false))) else (some false)) else (some false))) else (if x276001 = 2 then ((impl_in.f x276000 0 2).bind fun t280 => (if t280 = true then ((impl_in.f x276003 1 6).bind fun t281 => (if t281 = true then (if (x276005.length : Int) = 0 then ((impl_in.f x276006 0 60000).bind fun t282 => (if t282 = true then (some (!x276007)) else (some false))) else (some false)) else (some false))) else (some false))) else (if x276001 = 3 then (if x276000 = 9 then ((impl_in.f x276003 1 9).bind fun t283 => (if t283 = true then (if (x276005.length : Int) = 0 then ((impl_in.f x276006 1 1000).bind fun t284 => (if t284 = true then (some true) else (some (x276006 == 60000)))) else (some false)) else (some false))) else (some false)) else (some false))))
def impl_RecordOk.f (k : Nat) (a0_0 : Int) (a0_1 : Int) (a0_2 : Int) (a0_3 : Int) (a0_4 : Int) (l0_5 : List (S63)) (a0_6 : Int) (a0_7 : Bool) : Option (Bool) := (impl_in.f a0_2 1 6).bind fun t276 => (if t276 = true then ((impl_in.f a0_4 1 100000).bind fun t277 => (impl_RecordOk.j0 k (!t277) a0_0 a0_1 a0_2 a0_3 a0_4 l0_5 a0_6 a0_7)) else (impl_RecordOk.j0 k true a0_0 a0_1 a0_2 a0_3 a0_4 l0_5 a0_6 a0_7))
theorem impl_RecordOk.mono_l : ∀ k, (∀ y0 y1 y2 y3 y4 y5 y6 y7 y8, LeO (impl_RecordOk.j0 k y0 y1 y2 y3 y4 y5 y6 y7 y8) (impl_RecordOk.j0 (k + 1) y0 y1 y2 y3 y4 y5 y6 y7 y8))
 | 0 => fun _ _ _ _ _ _ _ _ _ r h => by simp [impl_RecordOk.j0] at h
 | k + 1 => by
  have ih0 := impl_RecordOk.mono_l k
  ·intro y0 y1 y2 y3 y4 y5 y6 y7 y8
   unfold impl_RecordOk.j0
   repeat' first
   | (with_reducible exact ih0 _ _ _ _ _ _ _ _ _)
   | (with_reducible exact impl_nearOk.mono _ _ _ _ _ _ _ _ _)
   | (with_reducible exact LeO.refl _)
   | (with_reducible exact LeO.none _)
   | (with_reducible refine LeO.ite ?_ ?_)
   | (with_reducible refine LeO.bind ?_ (fun _ => ?_))
   | exact ih0 _ _ _ _ _ _ _ _ _
   | exact impl_nearOk.mono _ _ _ _ _ _ _ _ _
   | exact LeO.none _
   | refine LeO.ite ?_ ?_
   | refine LeO.bind ?_ (fun _ => ?_)
theorem impl_RecordOk.mono : ∀ a0 a1 a2 a3 a4 a5 a6 a7 k, LeO (impl_RecordOk.f k a0 a1 a2 a3 a4 a5 a6 a7) (impl_RecordOk.f (k + 1) a0 a1 a2 a3 a4 a5 a6 a7) := by
 intro a0 a1 a2 a3 a4 a5 a6 a7 k
 have ih0 := impl_RecordOk.mono_l k
 unfold impl_RecordOk.f
 repeat' first
   | (with_reducible exact ih0 _ _ _ _ _ _ _ _ _)
   | (with_reducible exact impl_nearOk.mono _ _ _ _ _ _ _ _ _)
   | (with_reducible exact LeO.refl _)
   | (with_reducible exact LeO.none _)
   | (with_reducible refine LeO.ite ?_ ?_)
   | (with_reducible refine LeO.bind ?_ (fun _ => ?_))
   | exact ih0 _ _ _ _ _ _ _ _ _
   | exact impl_nearOk.mono _ _ _ _ _ _ _ _ _
   | exact LeO.none _
   | refine LeO.ite ?_ ?_
   | refine LeO.bind ?_ (fun _ => ?_)
set_option maxHeartbeats 8000000 in
set_option maxRecDepth 100000 in
theorem impl_RecordOk.calls (k : Nat) (a0_0 : Int) (a0_1 : Int) (a0_2 : Int) (a0_3 : Int) (a0_4 : Int) (A0_5 : Option Addr) (c0_5 : Nat) (l0_5 : List (S63)) (a0_6 : Int) (a0_7 : Bool) (r : Bool) (w : World) (hr0_5 : Kd.C k63 w A0_5 l0_5.length l0_5) (hc0_5 : l0_5.length ≤ c0_5) (h : impl_RecordOk.f k a0_0 a0_1 a0_2 a0_3 a0_4 l0_5 a0_6 a0_7 = some r) :
  Calls Try.prog 27 #[.agg #[.int .i64 a0_0, .int .i64 a0_1, .int .i64 a0_2, .int .i64 a0_3, .int .i64 a0_4, .slice A0_5 l0_5.length c0_5, .int .i64 a0_6, .bool a0_7]] w fun e w' => e = .returned (.bool r) ∧ Below w.heap.size w w' := by
 have hu24 := Try.underlying24; have HR0_5 := Aside0.mk hr0_5; have HC0_5 := Aside0.mk hc0_5; clear hr0_5 hc0_5; have HB := Aside0.mk (Below.refl w.heap.size w)
 have H : ((impl_in.f a0_2 1 6).bind fun t276 => (if t276 = true then ((impl_in.f a0_4 1 100000).bind fun t277 => (impl_RecordOk.j0 k (!t277) a0_0 a0_1 a0_2 a0_3 a0_4 l0_5 a0_6 a0_7)) else (impl_RecordOk.j0 k true a0_0 a0_1 a0_2 a0_3 a0_4 l0_5 a0_6 a0_7))) = some r := h
 clear h; have HC2 := Aside0.mk H; clear H
 go_enter Try.func27, Try.ntmps27
 go_upto_region 1 with (first | ((with_reducible refine gate_dst (N := 1) rfl ?_); (try (refine gate_guard (by rfl) ?_; dsimp only)); refine box_q 1 #[.int .i64 a0_0, .int .i64 a0_1, .int .i64 a0_2, .int .i64 a0_3, .int .i64 a0_4, .slice A0_5 l0_5.length c0_5, .int .i64 a0_6, .bool a0_7] 24 ?_; intro gb275 hg w3 hbox hb; have BK275 := Aside0.mk (hbox); have GW275 := Aside0.mk ((by rw [hg]; exact (below_size (bw_q HB)) : w.heap.size ≤ gb275)); have GE275 := Aside0.mk ((by rw [hg]; exact (below_size (bw_q HB)) : w.heap.size ≤ gb275)); replace HB := Aside0.mk (below_step (bw_q HB) hb); clear hb hbox hg))
 (try simp only [Act.put, List.setIfInBounds_toArray, List.set_cons_zero, List.set_cons_succ])
 go_cut [12] (fun v12 wc => ∃ (kq : Nat) (x12_1 : Bool), v12 = .bool x12_1 ∧ Aside0 (impl_RecordOk.j0 kq x12_1 a0_0 a0_1 a0_2 a0_3 a0_4 l0_5 a0_6 a0_7 = some r) ∧ Aside0 (kq ≤ k) ∧ Aside0 (wc.heap[gb275]? = some (.cells #[.int .i64 a0_0, .int .i64 a0_1, .int .i64 a0_2, .int .i64 a0_3, .int .i64 a0_4, (.slice A0_5 l0_5.length c0_5), .int .i64 a0_6, .bool a0_7] 24 (0, 0))) ∧ Aside0 (Below w.heap.size w wc))
 case first =>
  have H := HC2.out; clear HC2; replace H := Option.bind_eq_some_iff.mp H; obtain ⟨t276, A40, H⟩ := H
  replace H : (if t276 = true then ((impl_in.f a0_4 1 100000).bind fun t277 => (impl_RecordOk.j0 k (!t277) a0_0 a0_1 a0_2 a0_3 a0_4 l0_5 a0_6 a0_7)) else (impl_RecordOk.j0 k true a0_0 a0_1 a0_2 a0_3 a0_4 l0_5 a0_6 a0_7)) = some r := H
  have A4 := Aside0.mk A40; clear A40
  by_cases c5 : t276 = true
  ·subst c5
   replace H : ((impl_in.f a0_4 1 100000).bind fun t277 => (impl_RecordOk.j0 k (!t277) a0_0 a0_1 a0_2 a0_3 a0_4 l0_5 a0_6 a0_7)) = some r := by rw [if_pos rfl] at H; exact H
   replace H := Option.bind_eq_some_iff.mp H; obtain ⟨t277, A60, H⟩ := H
   replace H : (impl_RecordOk.j0 k (!t277) a0_0 a0_1 a0_2 a0_3 a0_4 l0_5 a0_6 a0_7) = some r := H
   have A6 := Aside0.mk A60; clear A60; have H' := Aside0.mk H; clear H; obtain ⟨hcz7_0, hcz7_1, hcz7_2, hcz7_3, hcz7_4, hcz7_5, hcz7_6, hcz7_7⟩ := cz8_ BK275; obtain ⟨hfz7_0, hfz7_1, hfz7_2, hfz7_3, hfz7_4, hfz7_5, hfz7_6, hfz7_7⟩ := fz8_ BK275
   go_wp2_with (first | ((with_reducible refine gate_callee (f := 69) rfl ?_); refine goesL_ (some 5) rfl rfl Try.func69 (by kernel_rfl) rfl #[.int .i64 a0_2, .int .i64 1, .int .i64 6] rfl mp_q ?_; (with_reducible refine (impl_in.calls a0_2 1 6 true _ A4.out).mono ?_); rintro e w' ⟨rfl, ⟨nd, rfl⟩⟩; refine ⟨_, rfl, ?_⟩) | (go_at_call 69; (with_reducible refine (impl_in.calls a0_4 1 100000 t277 _ A6.out).mono ?_); rintro e w' ⟨rfl, ⟨nd, rfl⟩⟩))
   go_meet
   case rel => exact ⟨_, (!t277), (by first | rfl | (simp; done) | (simp [*]; done)), H', ⟨by first | omega | exact Nat.le_refl _⟩, ⟨by refine bz_ ?_; exact BK275.out⟩, ⟨bw_q HB⟩⟩
  ·replace c5 := Bool.eq_false_iff.mpr c5; subst c5
   replace H : (impl_RecordOk.j0 k true a0_0 a0_1 a0_2 a0_3 a0_4 l0_5 a0_6 a0_7) = some r := by rw [if_neg (show ¬ (false = true) by decide)] at H; exact H
   have H' := Aside0.mk H; clear H; obtain ⟨hcz8_0, hcz8_1, hcz8_2, hcz8_3, hcz8_4, hcz8_5, hcz8_6, hcz8_7⟩ := cz8_ BK275; obtain ⟨hfz8_0, hfz8_1, hfz8_2, hfz8_3, hfz8_4, hfz8_5, hfz8_6, hfz8_7⟩ := fz8_ BK275
   go_wp2_with (first | ((with_reducible refine gate_callee (f := 69) rfl ?_); refine goesL_ (some 5) rfl rfl Try.func69 (by kernel_rfl) rfl #[.int .i64 a0_2, .int .i64 1, .int .i64 6] rfl mp_q ?_; (with_reducible refine (impl_in.calls a0_2 1 6 false _ A4.out).mono ?_); rintro e w' ⟨rfl, ⟨nd, rfl⟩⟩; refine ⟨_, rfl, ?_⟩))
   go_meet
   case rel => exact ⟨_, (true), (by first | rfl | (simp; done) | (simp [*]; done)), H', ⟨by first | omega | exact Nat.le_refl _⟩, ⟨by refine bz_ ?_; exact BK275.out⟩, ⟨bw_q HB⟩⟩
 case rest =>
  clear HC2; (try clear c2); (try clear p2); (try clear c5); (try clear c6); (try clear hcz7_0); (try clear hcz7_1); (try clear hcz7_2); (try clear hcz7_3); (try clear hcz7_4); (try clear hcz7_5); (try clear hcz7_6); (try clear hcz7_7); (try clear hcz8_0); (try clear hcz8_1); (try clear hcz8_2); (try clear hcz8_3); (try clear hcz8_4); (try clear hcz8_5); (try clear hcz8_6); (try clear hcz8_7); (try clear hfz7_0); (try clear hfz7_1); (try clear hfz7_2); (try clear hfz7_3); (try clear hfz7_4); (try clear hfz7_5); (try clear hfz7_6); (try clear hfz7_7); (try clear hfz8_0); (try clear hfz8_1); (try clear hfz8_2); (try clear hfz8_3); (try clear hfz8_4); (try clear hfz8_5); (try clear hfz8_6); (try clear hfz8_7); obtain ⟨kq, x12_1, rfl, HA, HJ1, BK275, HB⟩ := hcut
  cases kq with
  | zero => exact absurd HA.out (by simp [impl_RecordOk.j0])
  | succ kj1 =>
   have H := HA.out; clear HA
   simp only [impl_RecordOk.j0] at H
   by_cases c9 : x12_1 = true
   ·subst c9
    replace H : (some false) = some r := by rw [if_pos rfl] at H; exact H
    obtain rfl := Option.some.inj H
    go_wp2
    go_ret
    exact ⟨er_q, bw_q HB⟩
   ·replace c9 := Bool.eq_false_iff.mpr c9; subst c9
    replace H : (if a0_1 = 1 then ((impl_in.f a0_0 0 2).bind fun t278 => (if t278 = true then (if a0_3 = 0 then ((impl_nearOk.f kj1 a0_0 a0_1 a0_2 a0_3 a0_4 l0_5 a0_6 a0_7).bind fun t279 => (if t279 = true then (if a0_6 = 0 then (some (!a0_7)) else (some false)) else (some false))) else (some false)) else (some false))) else (if a0_1 = 2 then ((impl_in.f a0_0 0 2).bind fun t280 => (if t280 = true then ((impl_in.f a0_3 1 6).bind fun t281 => (if t281 = true then (if (l0_5.length : Int) = 0 then ((impl_in.f a0_6 0 60000).bind fun t282 => (if t282 = true then (some (!a0_7)) else (some false))) else (some false)) else (some false))) else (some false))) else (if a0_1 = 3 then (if a0_0 = 9 then ((impl_in.f a0_3 1 9).bind fun t283 => (if t283 = true then (if (l0_5.length : Int) = 0 then ((impl_in.f a0_6 1 1000).bind fun t284 => (if t284 = true then (some true) else (some (a0_6 == 60000)))) else (some false)) else (some false))) else (some false)) else (some false)))) = some r := by rw [if_neg (show ¬ (false = true) by decide)] at H; exact H
    by_cases c10 : a0_1 = 1
    ·rw [if_pos c10] at H
     have c10b0 : (a0_1 == 1) = true := beq_iff_eq.mpr c10
     have c10b1 : (a0_1 != 1) = false := bne_eq_false_iff_eq.mpr c10
     clear c10; replace H := Option.bind_eq_some_iff.mp H; obtain ⟨t278, A110, H⟩ := H
     replace H : (if t278 = true then (if a0_3 = 0 then ((impl_nearOk.f kj1 a0_0 a0_1 a0_2 a0_3 a0_4 l0_5 a0_6 a0_7).bind fun t279 => (if t279 = true then (if a0_6 = 0 then (some (!a0_7)) else (some false)) else (some false))) else (some false)) else (some false)) = some r := H
     have A11 := Aside0.mk A110; clear A110
     by_cases c12 : t278 = true
     ·subst c12
      replace H : (if a0_3 = 0 then ((impl_nearOk.f kj1 a0_0 a0_1 a0_2 a0_3 a0_4 l0_5 a0_6 a0_7).bind fun t279 => (if t279 = true then (if a0_6 = 0 then (some (!a0_7)) else (some false)) else (some false))) else (some false)) = some r := by rw [if_pos rfl] at H; exact H
      by_cases c13 : a0_3 = 0
      ·rw [if_pos c13] at H
       have c13b0 : (a0_3 == 0) = true := beq_iff_eq.mpr c13
       have c13b1 : (a0_3 != 0) = false := bne_eq_false_iff_eq.mpr c13
       clear c13; replace H := Option.bind_eq_some_iff.mp H; obtain ⟨t279, A140, H⟩ := H
       replace H : (if t279 = true then (if a0_6 = 0 then (some (!a0_7)) else (some false)) else (some false)) = some r := H
       have A14 := Aside0.mk A140; clear A140
       by_cases c15 : t279 = true
       ·subst c15
        replace H : (if a0_6 = 0 then (some (!a0_7)) else (some false)) = some r := by rw [if_pos rfl] at H; exact H
        by_cases c16 : a0_6 = 0
        ·rw [if_pos c16] at H
         have c16b0 : (a0_6 == 0) = true := beq_iff_eq.mpr c16
         have c16b1 : (a0_6 != 0) = false := bne_eq_false_iff_eq.mpr c16
         clear c16; obtain rfl := Option.some.inj H; obtain ⟨hcz17_0, hcz17_1, hcz17_2, hcz17_3, hcz17_4, hcz17_5, hcz17_6, hcz17_7⟩ := cz8_ BK275; obtain ⟨hfz17_0, hfz17_1, hfz17_2, hfz17_3, hfz17_4, hfz17_5, hfz17_6, hfz17_7⟩ := fz8_ BK275
         go_wp2_with (first | ((with_reducible refine gate_callee (f := 69) rfl ?_); refine goesL_ (some 19) rfl rfl Try.func69 (by kernel_rfl) rfl #[.int .i64 a0_0, .int .i64 0, .int .i64 2] rfl mp_q ?_; (with_reducible refine (impl_in.calls a0_0 0 2 true _ A11.out).mono ?_); rintro e w' ⟨rfl, ⟨nd, rfl⟩⟩; refine ⟨_, rfl, ?_⟩) | (go_at_call 70; (with_reducible refine (impl_nearOk.calls kj1 a0_0 a0_1 a0_2 a0_3 a0_4 _ _ l0_5 a0_6 a0_7 true _ ?side1 ?side2 A14.out).mono ?_); (case side1 => repeat (first | exact (Kd.C_below HR0_5.out (bw_q HB)) | (with_reducible refine Kd.C_alloc ?_ _) | (with_reducible refine Kd.C_drewN ?_ _) | (with_reducible refine Kd.C_drew ?_))); (case side2 => exact HC0_5.out); rintro e w18 ⟨rfl, hb⟩; replace BK275 := Aside0.mk (blk_below (g := gb275) (bk_q BK275) hb); replace HB := Aside0.mk (below_step (bw_q HB) hb); (try clear hb); (try clear hb2); (try clear hk); (try clear hi); have hcz19_0 : w18.cell? ⟨gb275, 0, none⟩ = some (.int .i64 a0_0) := (blk_cell BK275.out 0).trans rfl; have hcz19_1 : w18.cell? ⟨gb275, 1, none⟩ = some (.int .i64 a0_1) := (blk_cell BK275.out 1).trans rfl; have hcz19_2 : w18.cell? ⟨gb275, 2, none⟩ = some (.int .i64 a0_2) := (blk_cell BK275.out 2).trans rfl; have hcz19_3 : w18.cell? ⟨gb275, 3, none⟩ = some (.int .i64 a0_3) := (blk_cell BK275.out 3).trans rfl; have hcz19_4 : w18.cell? ⟨gb275, 4, none⟩ = some (.int .i64 a0_4) := (blk_cell BK275.out 4).trans rfl; have hcz19_5 : w18.cell? ⟨gb275, 5, none⟩ = some (.slice A0_5 l0_5.length c0_5) := (blk_cell BK275.out 5).trans rfl; have hcz19_6 : w18.cell? ⟨gb275, 6, none⟩ = some (.int .i64 a0_6) := (blk_cell BK275.out 6).trans rfl; have hcz19_7 : w18.cell? ⟨gb275, 7, none⟩ = some (.bool a0_7) := (blk_cell BK275.out 7).trans rfl; have hfz19_0 := blk_frozen BK275.out 0; have hfz19_1 := blk_frozen BK275.out 1; have hfz19_2 := blk_frozen BK275.out 2; have hfz19_3 := blk_frozen BK275.out 3; have hfz19_4 := blk_frozen BK275.out 4; have hfz19_5 := blk_frozen BK275.out 5; have hfz19_6 := blk_frozen BK275.out 6; have hfz19_7 := blk_frozen BK275.out 7))
         go_ret
         exact ⟨er_q, bw_q HB⟩
        ·rw [if_neg c16] at H
         have c16b0 : (a0_6 == 0) = false := beq_eq_false_iff_ne.mpr c16
         have c16b1 : (a0_6 != 0) = true := bne_iff_ne.mpr c16
         obtain rfl := Option.some.inj H; obtain ⟨hcz20_0, hcz20_1, hcz20_2, hcz20_3, hcz20_4, hcz20_5, hcz20_6, hcz20_7⟩ := cz8_ BK275; obtain ⟨hfz20_0, hfz20_1, hfz20_2, hfz20_3, hfz20_4, hfz20_5, hfz20_6, hfz20_7⟩ := fz8_ BK275
         go_wp2_with (first | ((with_reducible refine gate_callee (f := 69) rfl ?_); refine goesL_ (some 19) rfl rfl Try.func69 (by kernel_rfl) rfl #[.int .i64 a0_0, .int .i64 0, .int .i64 2] rfl mp_q ?_; (with_reducible refine (impl_in.calls a0_0 0 2 true _ A11.out).mono ?_); rintro e w' ⟨rfl, ⟨nd, rfl⟩⟩; refine ⟨_, rfl, ?_⟩) | (go_at_call 70; (with_reducible refine (impl_nearOk.calls kj1 a0_0 a0_1 a0_2 a0_3 a0_4 _ _ l0_5 a0_6 a0_7 true _ ?side1 ?side2 A14.out).mono ?_); (case side1 => repeat (first | exact (Kd.C_below HR0_5.out (bw_q HB)) | (with_reducible refine Kd.C_alloc ?_ _) | (with_reducible refine Kd.C_drewN ?_ _) | (with_reducible refine Kd.C_drew ?_))); (case side2 => exact HC0_5.out); rintro e w21 ⟨rfl, hb⟩; replace BK275 := Aside0.mk (blk_below (g := gb275) (bk_q BK275) hb); replace HB := Aside0.mk (below_step (bw_q HB) hb); (try clear hb); (try clear hb2); (try clear hk); (try clear hi); have hcz22_0 : w21.cell? ⟨gb275, 0, none⟩ = some (.int .i64 a0_0) := (blk_cell BK275.out 0).trans rfl; have hcz22_1 : w21.cell? ⟨gb275, 1, none⟩ = some (.int .i64 a0_1) := (blk_cell BK275.out 1).trans rfl; have hcz22_2 : w21.cell? ⟨gb275, 2, none⟩ = some (.int .i64 a0_2) := (blk_cell BK275.out 2).trans rfl; have hcz22_3 : w21.cell? ⟨gb275, 3, none⟩ = some (.int .i64 a0_3) := (blk_cell BK275.out 3).trans rfl; have hcz22_4 : w21.cell? ⟨gb275, 4, none⟩ = some (.int .i64 a0_4) := (blk_cell BK275.out 4).trans rfl; have hcz22_5 : w21.cell? ⟨gb275, 5, none⟩ = some (.slice A0_5 l0_5.length c0_5) := (blk_cell BK275.out 5).trans rfl; have hcz22_6 : w21.cell? ⟨gb275, 6, none⟩ = some (.int .i64 a0_6) := (blk_cell BK275.out 6).trans rfl; have hcz22_7 : w21.cell? ⟨gb275, 7, none⟩ = some (.bool a0_7) := (blk_cell BK275.out 7).trans rfl; have hfz22_0 := blk_frozen BK275.out 0; have hfz22_1 := blk_frozen BK275.out 1; have hfz22_2 := blk_frozen BK275.out 2; have hfz22_3 := blk_frozen BK275.out 3; have hfz22_4 := blk_frozen BK275.out 4; have hfz22_5 := blk_frozen BK275.out 5; have hfz22_6 := blk_frozen BK275.out 6; have hfz22_7 := blk_frozen BK275.out 7))
         go_ret
         exact ⟨er_q, bw_q HB⟩
       ·replace c15 := Bool.eq_false_iff.mpr c15; subst c15
        replace H : (some false) = some r := by rw [if_neg (show ¬ (false = true) by decide)] at H; exact H
        obtain rfl := Option.some.inj H; obtain ⟨hcz23_0, hcz23_1, hcz23_2, hcz23_3, hcz23_4, hcz23_5, hcz23_6, hcz23_7⟩ := cz8_ BK275; obtain ⟨hfz23_0, hfz23_1, hfz23_2, hfz23_3, hfz23_4, hfz23_5, hfz23_6, hfz23_7⟩ := fz8_ BK275
        go_wp2_with (first | ((with_reducible refine gate_callee (f := 69) rfl ?_); refine goesL_ (some 19) rfl rfl Try.func69 (by kernel_rfl) rfl #[.int .i64 a0_0, .int .i64 0, .int .i64 2] rfl mp_q ?_; (with_reducible refine (impl_in.calls a0_0 0 2 true _ A11.out).mono ?_); rintro e w' ⟨rfl, ⟨nd, rfl⟩⟩; refine ⟨_, rfl, ?_⟩) | (go_at_call 70; (with_reducible refine (impl_nearOk.calls kj1 a0_0 a0_1 a0_2 a0_3 a0_4 _ _ l0_5 a0_6 a0_7 false _ ?side1 ?side2 A14.out).mono ?_); (case side1 => repeat (first | exact (Kd.C_below HR0_5.out (bw_q HB)) | (with_reducible refine Kd.C_alloc ?_ _) | (with_reducible refine Kd.C_drewN ?_ _) | (with_reducible refine Kd.C_drew ?_))); (case side2 => exact HC0_5.out); rintro e w24 ⟨rfl, hb⟩; replace BK275 := Aside0.mk (blk_below (g := gb275) (bk_q BK275) hb); replace HB := Aside0.mk (below_step (bw_q HB) hb); (try clear hb); (try clear hb2); (try clear hk); (try clear hi)))
        go_ret
        exact ⟨er_q, bw_q HB⟩
      ·rw [if_neg c13] at H
       have c13b0 : (a0_3 == 0) = false := beq_eq_false_iff_ne.mpr c13
       have c13b1 : (a0_3 != 0) = true := bne_iff_ne.mpr c13
       obtain rfl := Option.some.inj H; obtain ⟨hcz25_0, hcz25_1, hcz25_2, hcz25_3, hcz25_4, hcz25_5, hcz25_6, hcz25_7⟩ := cz8_ BK275; obtain ⟨hfz25_0, hfz25_1, hfz25_2, hfz25_3, hfz25_4, hfz25_5, hfz25_6, hfz25_7⟩ := fz8_ BK275
       go_wp2_with (first | ((with_reducible refine gate_callee (f := 69) rfl ?_); refine goesL_ (some 19) rfl rfl Try.func69 (by kernel_rfl) rfl #[.int .i64 a0_0, .int .i64 0, .int .i64 2] rfl mp_q ?_; (with_reducible refine (impl_in.calls a0_0 0 2 true _ A11.out).mono ?_); rintro e w' ⟨rfl, ⟨nd, rfl⟩⟩; refine ⟨_, rfl, ?_⟩))
       go_ret
       exact ⟨er_q, bw_q HB⟩
     ·replace c12 := Bool.eq_false_iff.mpr c12; subst c12
      replace H : (some false) = some r := by rw [if_neg (show ¬ (false = true) by decide)] at H; exact H
      obtain rfl := Option.some.inj H; obtain ⟨hcz26_0, hcz26_1, hcz26_2, hcz26_3, hcz26_4, hcz26_5, hcz26_6, hcz26_7⟩ := cz8_ BK275; obtain ⟨hfz26_0, hfz26_1, hfz26_2, hfz26_3, hfz26_4, hfz26_5, hfz26_6, hfz26_7⟩ := fz8_ BK275
      go_wp2_with (first | ((with_reducible refine gate_callee (f := 69) rfl ?_); refine goesL_ (some 19) rfl rfl Try.func69 (by kernel_rfl) rfl #[.int .i64 a0_0, .int .i64 0, .int .i64 2] rfl mp_q ?_; (with_reducible refine (impl_in.calls a0_0 0 2 false _ A11.out).mono ?_); rintro e w' ⟨rfl, ⟨nd, rfl⟩⟩; refine ⟨_, rfl, ?_⟩))
      go_ret
      exact ⟨er_q, bw_q HB⟩
    ·rw [if_neg c10] at H
     have c10b0 : (a0_1 == 1) = false := beq_eq_false_iff_ne.mpr c10
     have c10b1 : (a0_1 != 1) = true := bne_iff_ne.mpr c10
     by_cases c27 : a0_1 = 2
     ·rw [if_pos c27] at H
      have c27b0 : (a0_1 == 2) = true := beq_iff_eq.mpr c27
      have c27b1 : (a0_1 != 2) = false := bne_eq_false_iff_eq.mpr c27
      clear c27; replace H := Option.bind_eq_some_iff.mp H; obtain ⟨t280, A280, H⟩ := H
      replace H : (if t280 = true then ((impl_in.f a0_3 1 6).bind fun t281 => (if t281 = true then (if (l0_5.length : Int) = 0 then ((impl_in.f a0_6 0 60000).bind fun t282 => (if t282 = true then (some (!a0_7)) else (some false))) else (some false)) else (some false))) else (some false)) = some r := H
      have A28 := Aside0.mk A280; clear A280
      by_cases c29 : t280 = true
      ·subst c29
       replace H : ((impl_in.f a0_3 1 6).bind fun t281 => (if t281 = true then (if (l0_5.length : Int) = 0 then ((impl_in.f a0_6 0 60000).bind fun t282 => (if t282 = true then (some (!a0_7)) else (some false))) else (some false)) else (some false))) = some r := by rw [if_pos rfl] at H; exact H
       replace H := Option.bind_eq_some_iff.mp H; obtain ⟨t281, A300, H⟩ := H
       replace H : (if t281 = true then (if (l0_5.length : Int) = 0 then ((impl_in.f a0_6 0 60000).bind fun t282 => (if t282 = true then (some (!a0_7)) else (some false))) else (some false)) else (some false)) = some r := H
       have A30 := Aside0.mk A300; clear A300
       by_cases c31 : t281 = true
       ·subst c31
        replace H : (if (l0_5.length : Int) = 0 then ((impl_in.f a0_6 0 60000).bind fun t282 => (if t282 = true then (some (!a0_7)) else (some false))) else (some false)) = some r := by rw [if_pos rfl] at H; exact H
        by_cases c32 : (l0_5.length : Int) = 0
        ·rw [if_pos c32] at H
         have c32b0 : ((l0_5.length : Int) == 0) = true := beq_iff_eq.mpr c32
         have c32b1 : ((l0_5.length : Int) != 0) = false := bne_eq_false_iff_eq.mpr c32
         clear c32; replace H := Option.bind_eq_some_iff.mp H; obtain ⟨t282, A330, H⟩ := H
         replace H : (if t282 = true then (some (!a0_7)) else (some false)) = some r := H
         have A33 := Aside0.mk A330; clear A330
         by_cases c34 : t282 = true
         ·subst c34
          replace H : (some (!a0_7)) = some r := by rw [if_pos rfl] at H; exact H
          obtain rfl := Option.some.inj H; obtain ⟨hcz35_0, hcz35_1, hcz35_2, hcz35_3, hcz35_4, hcz35_5, hcz35_6, hcz35_7⟩ := cz8_ BK275; obtain ⟨hfz35_0, hfz35_1, hfz35_2, hfz35_3, hfz35_4, hfz35_5, hfz35_6, hfz35_7⟩ := fz8_ BK275
          go_wp2_with (first | ((with_reducible refine gate_callee (f := 69) rfl ?_); refine goesL_ (some 43) rfl rfl Try.func69 (by kernel_rfl) rfl #[.int .i64 a0_0, .int .i64 0, .int .i64 2] rfl mp_q ?_; (with_reducible refine (impl_in.calls a0_0 0 2 true _ A28.out).mono ?_); rintro e w' ⟨rfl, ⟨nd, rfl⟩⟩; refine ⟨_, rfl, ?_⟩) | (go_at_call 69; (with_reducible refine (impl_in.calls a0_3 1 6 true _ A30.out).mono ?_); rintro e w' ⟨rfl, ⟨nd, rfl⟩⟩) | (go_at_call 69; (with_reducible refine (impl_in.calls a0_6 0 60000 true _ A33.out).mono ?_); rintro e w' ⟨rfl, ⟨nd, rfl⟩⟩))
          go_ret
          exact ⟨er_q, bw_q HB⟩
         ·replace c34 := Bool.eq_false_iff.mpr c34; subst c34
          replace H : (some false) = some r := by rw [if_neg (show ¬ (false = true) by decide)] at H; exact H
          obtain rfl := Option.some.inj H; obtain ⟨hcz36_0, hcz36_1, hcz36_2, hcz36_3, hcz36_4, hcz36_5, hcz36_6, hcz36_7⟩ := cz8_ BK275; obtain ⟨hfz36_0, hfz36_1, hfz36_2, hfz36_3, hfz36_4, hfz36_5, hfz36_6, hfz36_7⟩ := fz8_ BK275
          go_wp2_with (first | ((with_reducible refine gate_callee (f := 69) rfl ?_); refine goesL_ (some 43) rfl rfl Try.func69 (by kernel_rfl) rfl #[.int .i64 a0_0, .int .i64 0, .int .i64 2] rfl mp_q ?_; (with_reducible refine (impl_in.calls a0_0 0 2 true _ A28.out).mono ?_); rintro e w' ⟨rfl, ⟨nd, rfl⟩⟩; refine ⟨_, rfl, ?_⟩) | (go_at_call 69; (with_reducible refine (impl_in.calls a0_3 1 6 true _ A30.out).mono ?_); rintro e w' ⟨rfl, ⟨nd, rfl⟩⟩) | (go_at_call 69; (with_reducible refine (impl_in.calls a0_6 0 60000 false _ A33.out).mono ?_); rintro e w' ⟨rfl, ⟨nd, rfl⟩⟩))
          go_ret
          exact ⟨er_q, bw_q HB⟩
        ·rw [if_neg c32] at H
         have c32b0 : ((l0_5.length : Int) == 0) = false := beq_eq_false_iff_ne.mpr c32
         have c32b1 : ((l0_5.length : Int) != 0) = true := bne_iff_ne.mpr c32
         have c32b2 : ¬ (l0_5 = []) := fun h_ => c32 (by rw [h_]; rfl)
         obtain rfl := Option.some.inj H; obtain ⟨hcz37_0, hcz37_1, hcz37_2, hcz37_3, hcz37_4, hcz37_5, hcz37_6, hcz37_7⟩ := cz8_ BK275; obtain ⟨hfz37_0, hfz37_1, hfz37_2, hfz37_3, hfz37_4, hfz37_5, hfz37_6, hfz37_7⟩ := fz8_ BK275
         go_wp2_with (first | ((with_reducible refine gate_callee (f := 69) rfl ?_); refine goesL_ (some 43) rfl rfl Try.func69 (by kernel_rfl) rfl #[.int .i64 a0_0, .int .i64 0, .int .i64 2] rfl mp_q ?_; (with_reducible refine (impl_in.calls a0_0 0 2 true _ A28.out).mono ?_); rintro e w' ⟨rfl, ⟨nd, rfl⟩⟩; refine ⟨_, rfl, ?_⟩) | (go_at_call 69; (with_reducible refine (impl_in.calls a0_3 1 6 true _ A30.out).mono ?_); rintro e w' ⟨rfl, ⟨nd, rfl⟩⟩))
         go_ret
         exact ⟨er_q, bw_q HB⟩
       ·replace c31 := Bool.eq_false_iff.mpr c31; subst c31
        replace H : (some false) = some r := by rw [if_neg (show ¬ (false = true) by decide)] at H; exact H
        obtain rfl := Option.some.inj H; obtain ⟨hcz38_0, hcz38_1, hcz38_2, hcz38_3, hcz38_4, hcz38_5, hcz38_6, hcz38_7⟩ := cz8_ BK275; obtain ⟨hfz38_0, hfz38_1, hfz38_2, hfz38_3, hfz38_4, hfz38_5, hfz38_6, hfz38_7⟩ := fz8_ BK275
        go_wp2_with (first | ((with_reducible refine gate_callee (f := 69) rfl ?_); refine goesL_ (some 43) rfl rfl Try.func69 (by kernel_rfl) rfl #[.int .i64 a0_0, .int .i64 0, .int .i64 2] rfl mp_q ?_; (with_reducible refine (impl_in.calls a0_0 0 2 true _ A28.out).mono ?_); rintro e w' ⟨rfl, ⟨nd, rfl⟩⟩; refine ⟨_, rfl, ?_⟩) | (go_at_call 69; (with_reducible refine (impl_in.calls a0_3 1 6 false _ A30.out).mono ?_); rintro e w' ⟨rfl, ⟨nd, rfl⟩⟩))
        go_ret
        exact ⟨er_q, bw_q HB⟩
      ·replace c29 := Bool.eq_false_iff.mpr c29; subst c29
       replace H : (some false) = some r := by rw [if_neg (show ¬ (false = true) by decide)] at H; exact H
       obtain rfl := Option.some.inj H; obtain ⟨hcz39_0, hcz39_1, hcz39_2, hcz39_3, hcz39_4, hcz39_5, hcz39_6, hcz39_7⟩ := cz8_ BK275; obtain ⟨hfz39_0, hfz39_1, hfz39_2, hfz39_3, hfz39_4, hfz39_5, hfz39_6, hfz39_7⟩ := fz8_ BK275
       go_wp2_with (first | ((with_reducible refine gate_callee (f := 69) rfl ?_); refine goesL_ (some 43) rfl rfl Try.func69 (by kernel_rfl) rfl #[.int .i64 a0_0, .int .i64 0, .int .i64 2] rfl mp_q ?_; (with_reducible refine (impl_in.calls a0_0 0 2 false _ A28.out).mono ?_); rintro e w' ⟨rfl, ⟨nd, rfl⟩⟩; refine ⟨_, rfl, ?_⟩))
       go_ret
       exact ⟨er_q, bw_q HB⟩
     ·rw [if_neg c27] at H
      have c27b0 : (a0_1 == 2) = false := beq_eq_false_iff_ne.mpr c27
      have c27b1 : (a0_1 != 2) = true := bne_iff_ne.mpr c27
      by_cases c40 : a0_1 = 3
      ·rw [if_pos c40] at H
       have c40b0 : (a0_1 == 3) = true := beq_iff_eq.mpr c40
       have c40b1 : (a0_1 != 3) = false := bne_eq_false_iff_eq.mpr c40
       clear c40
       by_cases c41 : a0_0 = 9
       ·rw [if_pos c41] at H
        have c41b0 : (a0_0 == 9) = true := beq_iff_eq.mpr c41
        have c41b1 : (a0_0 != 9) = false := bne_eq_false_iff_eq.mpr c41
        clear c41; replace H := Option.bind_eq_some_iff.mp H; obtain ⟨t283, A420, H⟩ := H
        replace H : (if t283 = true then (if (l0_5.length : Int) = 0 then ((impl_in.f a0_6 1 1000).bind fun t284 => (if t284 = true then (some true) else (some (a0_6 == 60000)))) else (some false)) else (some false)) = some r := H
        have A42 := Aside0.mk A420; clear A420
        by_cases c43 : t283 = true
        ·subst c43
         replace H : (if (l0_5.length : Int) = 0 then ((impl_in.f a0_6 1 1000).bind fun t284 => (if t284 = true then (some true) else (some (a0_6 == 60000)))) else (some false)) = some r := by rw [if_pos rfl] at H; exact H
         by_cases c44 : (l0_5.length : Int) = 0
         ·rw [if_pos c44] at H
          have c44b0 : ((l0_5.length : Int) == 0) = true := beq_iff_eq.mpr c44
          have c44b1 : ((l0_5.length : Int) != 0) = false := bne_eq_false_iff_eq.mpr c44
          clear c44; replace H := Option.bind_eq_some_iff.mp H; obtain ⟨t284, A450, H⟩ := H
          replace H : (if t284 = true then (some true) else (some (a0_6 == 60000))) = some r := H
          have A45 := Aside0.mk A450; clear A450
          by_cases c46 : t284 = true
          ·subst c46
           replace H : (some true) = some r := by rw [if_pos rfl] at H; exact H
           obtain rfl := Option.some.inj H; obtain ⟨hcz47_0, hcz47_1, hcz47_2, hcz47_3, hcz47_4, hcz47_5, hcz47_6, hcz47_7⟩ := cz8_ BK275; obtain ⟨hfz47_0, hfz47_1, hfz47_2, hfz47_3, hfz47_4, hfz47_5, hfz47_6, hfz47_7⟩ := fz8_ BK275
           go_wp2_with (first | (go_at_call 69; (with_reducible refine (impl_in.calls a0_3 1 9 true _ A42.out).mono ?_); rintro e w' ⟨rfl, ⟨nd, rfl⟩⟩) | (go_at_call 69; (with_reducible refine (impl_in.calls a0_6 1 1000 true _ A45.out).mono ?_); rintro e w' ⟨rfl, ⟨nd, rfl⟩⟩))
           go_ret
           exact ⟨er_q, bw_q HB⟩
          ·replace c46 := Bool.eq_false_iff.mpr c46; subst c46
           replace H : (some (a0_6 == 60000)) = some r := by rw [if_neg (show ¬ (false = true) by decide)] at H; exact H
           obtain rfl := Option.some.inj H; obtain ⟨hcz48_0, hcz48_1, hcz48_2, hcz48_3, hcz48_4, hcz48_5, hcz48_6, hcz48_7⟩ := cz8_ BK275; obtain ⟨hfz48_0, hfz48_1, hfz48_2, hfz48_3, hfz48_4, hfz48_5, hfz48_6, hfz48_7⟩ := fz8_ BK275
           go_wp2_with (first | (go_at_call 69; (with_reducible refine (impl_in.calls a0_3 1 9 true _ A42.out).mono ?_); rintro e w' ⟨rfl, ⟨nd, rfl⟩⟩) | (go_at_call 69; (with_reducible refine (impl_in.calls a0_6 1 1000 false _ A45.out).mono ?_); rintro e w' ⟨rfl, ⟨nd, rfl⟩⟩))
           go_ret
           exact ⟨er_q, bw_q HB⟩
         ·rw [if_neg c44] at H
          have c44b0 : ((l0_5.length : Int) == 0) = false := beq_eq_false_iff_ne.mpr c44
          have c44b1 : ((l0_5.length : Int) != 0) = true := bne_iff_ne.mpr c44
          have c44b2 : ¬ (l0_5 = []) := fun h_ => c44 (by rw [h_]; rfl)
          obtain rfl := Option.some.inj H; obtain ⟨hcz49_0, hcz49_1, hcz49_2, hcz49_3, hcz49_4, hcz49_5, hcz49_6, hcz49_7⟩ := cz8_ BK275; obtain ⟨hfz49_0, hfz49_1, hfz49_2, hfz49_3, hfz49_4, hfz49_5, hfz49_6, hfz49_7⟩ := fz8_ BK275
          go_wp2_with (first | (go_at_call 69; (with_reducible refine (impl_in.calls a0_3 1 9 true _ A42.out).mono ?_); rintro e w' ⟨rfl, ⟨nd, rfl⟩⟩))
          go_ret
          exact ⟨er_q, bw_q HB⟩
        ·replace c43 := Bool.eq_false_iff.mpr c43; subst c43
         replace H : (some false) = some r := by rw [if_neg (show ¬ (false = true) by decide)] at H; exact H
         obtain rfl := Option.some.inj H; obtain ⟨hcz50_0, hcz50_1, hcz50_2, hcz50_3, hcz50_4, hcz50_5, hcz50_6, hcz50_7⟩ := cz8_ BK275; obtain ⟨hfz50_0, hfz50_1, hfz50_2, hfz50_3, hfz50_4, hfz50_5, hfz50_6, hfz50_7⟩ := fz8_ BK275
         go_wp2_with (first | (go_at_call 69; (with_reducible refine (impl_in.calls a0_3 1 9 false _ A42.out).mono ?_); rintro e w' ⟨rfl, ⟨nd, rfl⟩⟩))
         go_ret
         exact ⟨er_q, bw_q HB⟩
       ·rw [if_neg c41] at H
        have c41b0 : (a0_0 == 9) = false := beq_eq_false_iff_ne.mpr c41
        have c41b1 : (a0_0 != 9) = true := bne_iff_ne.mpr c41
        obtain rfl := Option.some.inj H; obtain ⟨hcz51_0, hcz51_1, hcz51_2, hcz51_3, hcz51_4, hcz51_5, hcz51_6, hcz51_7⟩ := cz8_ BK275; obtain ⟨hfz51_0, hfz51_1, hfz51_2, hfz51_3, hfz51_4, hfz51_5, hfz51_6, hfz51_7⟩ := fz8_ BK275
        go_wp2
        go_ret
        exact ⟨er_q, bw_q HB⟩
      ·rw [if_neg c40] at H
       have c40b0 : (a0_1 == 3) = false := beq_eq_false_iff_ne.mpr c40
       have c40b1 : (a0_1 != 3) = true := bne_iff_ne.mpr c40
       obtain rfl := Option.some.inj H; obtain ⟨hcz52_0, hcz52_1, hcz52_2, hcz52_3, hcz52_4, hcz52_5, hcz52_6, hcz52_7⟩ := cz8_ BK275; obtain ⟨hfz52_0, hfz52_1, hfz52_2, hfz52_3, hfz52_4, hfz52_5, hfz52_6, hfz52_7⟩ := fz8_ BK275
       go_wp2
       go_ret
       exact ⟨er_q, bw_q HB⟩

end Go.Proofs.Ytnecbkognpponaa.Q

/- A Go function as a Lean function, and its contract: for every input the Go code comes to what the Lean function tells. -/

namespace Go.Proofs.Ytnecbkognpponaa.Q
open Go.RowKit Go.Proofs.YtnecbkognpponaaW.PrintWords Go.Proofs.YtnecbkognpponaaW.PrintLast Go.Proofs.YtnecbkognpponaaW.PrintMore
attribute [local go_sem] max2_int min2_int max_two min_two max_three min_three max_four min_four   -- for this text's walks alone
set_option linter.unusedVariables false
set_option linter.unusedSimpArgs false

/-! ### impl_Before: function 94 -/
def impl_Before.f (a0_0 : Int) (a0_1 : Int) (a0_2 : Int) (a0_3 : Int) (a0_4 : Int) (l0_5 : List (S63)) (a0_6 : Int) (a0_7 : Bool) (a1_0 : Int) (a1_1 : Int) (a1_2 : Int) (a1_3 : Int) (a1_4 : Int) (l1_5 : List (S63)) (a1_6 : Int) (a1_7 : Bool) : Option (Bool) := if a0_0 = a1_0 then (if a0_1 = a1_1 then (if a0_2 = a1_2 then (some (decide (a0_3 < a1_3))) else (some (decide (a0_2 < a1_2)))) else (some (decide (a0_1 < a1_1)))) else (some (decide (a0_0 < a1_0)))
set_option maxHeartbeats 8000000 in
set_option maxRecDepth 100000 in
theorem impl_Before.calls (a0_0 : Int) (a0_1 : Int) (a0_2 : Int) (a0_3 : Int) (a0_4 : Int) (A0_5 : Option Addr) (c0_5 : Nat) (l0_5 : List (S63)) (a0_6 : Int) (a0_7 : Bool) (a1_0 : Int) (a1_1 : Int) (a1_2 : Int) (a1_3 : Int) (a1_4 : Int) (A1_5 : Option Addr) (c1_5 : Nat) (l1_5 : List (S63)) (a1_6 : Int) (a1_7 : Bool) (r : Bool) (w : World) (hr0_5 : Kd.C k63 w A0_5 l0_5.length l0_5) (hc0_5 : l0_5.length ≤ c0_5) (hr1_5 : Kd.C k63 w A1_5 l1_5.length l1_5) (hc1_5 : l1_5.length ≤ c1_5) (h : impl_Before.f a0_0 a0_1 a0_2 a0_3 a0_4 l0_5 a0_6 a0_7 a1_0 a1_1 a1_2 a1_3 a1_4 l1_5 a1_6 a1_7 = some r) :
  Calls Try.prog 94 #[.agg #[.int .i64 a0_0, .int .i64 a0_1, .int .i64 a0_2, .int .i64 a0_3, .int .i64 a0_4, .slice A0_5 l0_5.length c0_5, .int .i64 a0_6, .bool a0_7], .agg #[.int .i64 a1_0, .int .i64 a1_1, .int .i64 a1_2, .int .i64 a1_3, .int .i64 a1_4, .slice A1_5 l1_5.length c1_5, .int .i64 a1_6, .bool a1_7]] w fun e w' => e = .returned (.bool r) ∧ Below w.heap.size w w' := by
 have hu24 := Try.underlying24; have HR0_5 := Aside0.mk hr0_5; have HC0_5 := Aside0.mk hc0_5; clear hr0_5 hc0_5; have HR1_5 := Aside0.mk hr1_5; have HC1_5 := Aside0.mk hc1_5; clear hr1_5 hc1_5; have HB := Aside0.mk (Below.refl w.heap.size w)
 have H : (if a0_0 = a1_0 then (if a0_1 = a1_1 then (if a0_2 = a1_2 then (some (decide (a0_3 < a1_3))) else (some (decide (a0_2 < a1_2)))) else (some (decide (a0_1 < a1_1)))) else (some (decide (a0_0 < a1_0)))) = some r := h
 clear h; have HC3 := Aside0.mk H; clear H
 go_enter Try.func94, Try.ntmps94
 go_upto_if 5 with (first | ((with_reducible refine gate_dst (N := 2) rfl ?_); refine box_q 2 #[.int .i64 a0_0, .int .i64 a0_1, .int .i64 a0_2, .int .i64 a0_3, .int .i64 a0_4, .slice A0_5 l0_5.length c0_5, .int .i64 a0_6, .bool a0_7] 24 ?_; intro gb285 hg w4 hbox hb; have BK285 := Aside0.mk (hbox); have GW285 := Aside0.mk ((by rw [hg]; exact (below_size (bw_q HB)) : w.heap.size ≤ gb285)); have GE285 := Aside0.mk ((by rw [hg]; exact (below_size (bw_q HB)) : w.heap.size ≤ gb285)); replace HB := Aside0.mk (below_step (bw_q HB) hb); clear hb hbox hg) | ((with_reducible refine gate_dst (N := 3) rfl ?_); refine box_q 3 #[.int .i64 a1_0, .int .i64 a1_1, .int .i64 a1_2, .int .i64 a1_3, .int .i64 a1_4, .slice A1_5 l1_5.length c1_5, .int .i64 a1_6, .bool a1_7] 24 ?_; intro gb286 hg w5 hbox hb; have BK286 := Aside0.mk (hbox); have GW286 := Aside0.mk ((by rw [hg]; exact (below_size (bw_q HB)) : w.heap.size ≤ gb286)); have GE286 := Aside0.mk ((by rw [hg]; exact (below_size (bw_q HB)) : w.heap.size ≤ gb286)); replace HB := Aside0.mk (below_step (bw_q HB) hb); have NB285_286 := Aside0.mk ((by rw [hg]; exact Nat.ne_of_lt (blk_lt (g := gb285) (o := .cells #[.int .i64 a0_0, .int .i64 a0_1, .int .i64 a0_2, .int .i64 a0_3, .int .i64 a0_4, .slice A0_5 l0_5.length c0_5, .int .i64 a0_6, .bool a0_7] 24 (0, 0)) (bk_q BK285)) : gb285 ≠ gb286)); have NB286_285 := Aside0.mk ((by rw [hg]; exact Nat.ne_of_gt (blk_lt (g := gb285) (o := .cells #[.int .i64 a0_0, .int .i64 a0_1, .int .i64 a0_2, .int .i64 a0_3, .int .i64 a0_4, .slice A0_5 l0_5.length c0_5, .int .i64 a0_6, .bool a0_7] 24 (0, 0)) (bk_q BK285)) : gb286 ≠ gb285)); replace BK285 := Aside0.mk (blk_below (g := gb285) (bk_q BK285) hb); clear hb hbox hg; have hnb6 := NB285_286.out; have hnc6 := NB286_285.out; have hcz7_0 : w5.cell? ⟨gb285, 0, none⟩ = some (.int .i64 a0_0) := (blk_cell BK285.out 0).trans rfl; have hcz7_1 : w5.cell? ⟨gb285, 1, none⟩ = some (.int .i64 a0_1) := (blk_cell BK285.out 1).trans rfl; have hcz7_2 : w5.cell? ⟨gb285, 2, none⟩ = some (.int .i64 a0_2) := (blk_cell BK285.out 2).trans rfl; have hcz7_3 : w5.cell? ⟨gb285, 3, none⟩ = some (.int .i64 a0_3) := (blk_cell BK285.out 3).trans rfl; have hcz7_4 : w5.cell? ⟨gb285, 4, none⟩ = some (.int .i64 a0_4) := (blk_cell BK285.out 4).trans rfl; have hcz7_5 : w5.cell? ⟨gb285, 5, none⟩ = some (.slice A0_5 l0_5.length c0_5) := (blk_cell BK285.out 5).trans rfl; have hcz7_6 : w5.cell? ⟨gb285, 6, none⟩ = some (.int .i64 a0_6) := (blk_cell BK285.out 6).trans rfl; have hcz7_7 : w5.cell? ⟨gb285, 7, none⟩ = some (.bool a0_7) := (blk_cell BK285.out 7).trans rfl; have hfz7_0 := blk_frozen BK285.out 0; have hfz7_1 := blk_frozen BK285.out 1; have hfz7_2 := blk_frozen BK285.out 2; have hfz7_3 := blk_frozen BK285.out 3; have hfz7_4 := blk_frozen BK285.out 4; have hfz7_5 := blk_frozen BK285.out 5; have hfz7_6 := blk_frozen BK285.out 6; have hfz7_7 := blk_frozen BK285.out 7; have hcz8_0 : w5.cell? ⟨gb286, 0, none⟩ = some (.int .i64 a1_0) := (blk_cell BK286.out 0).trans rfl; have hcz8_1 : w5.cell? ⟨gb286, 1, none⟩ = some (.int .i64 a1_1) := (blk_cell BK286.out 1).trans rfl; have hcz8_2 : w5.cell? ⟨gb286, 2, none⟩ = some (.int .i64 a1_2) := (blk_cell BK286.out 2).trans rfl; have hcz8_3 : w5.cell? ⟨gb286, 3, none⟩ = some (.int .i64 a1_3) := (blk_cell BK286.out 3).trans rfl; have hcz8_4 : w5.cell? ⟨gb286, 4, none⟩ = some (.int .i64 a1_4) := (blk_cell BK286.out 4).trans rfl; have hcz8_5 : w5.cell? ⟨gb286, 5, none⟩ = some (.slice A1_5 l1_5.length c1_5) := (blk_cell BK286.out 5).trans rfl; have hcz8_6 : w5.cell? ⟨gb286, 6, none⟩ = some (.int .i64 a1_6) := (blk_cell BK286.out 6).trans rfl; have hcz8_7 : w5.cell? ⟨gb286, 7, none⟩ = some (.bool a1_7) := (blk_cell BK286.out 7).trans rfl; have hfz8_0 := blk_frozen BK286.out 0; have hfz8_1 := blk_frozen BK286.out 1; have hfz8_2 := blk_frozen BK286.out 2; have hfz8_3 := blk_frozen BK286.out 3; have hfz8_4 := blk_frozen BK286.out 4; have hfz8_5 := blk_frozen BK286.out 5; have hfz8_6 := blk_frozen BK286.out 6; have hfz8_7 := blk_frozen BK286.out 7))
 have H := HC3.out; clear HC3
 by_cases c9 : a0_0 = a1_0
 ·rw [if_pos c9] at H
  have c9b0 : (a0_0 == a1_0) = true := beq_iff_eq.mpr c9
  have c9b1 : (a0_0 != a1_0) = false := bne_eq_false_iff_eq.mpr c9
  clear c9
  (first | rw [c9b0] | rw [c9b1] | (simp only [i64_w, i32_w]; first | rw [c9b0] | rw [c9b1]) | skip)
  by_cases c10 : a0_1 = a1_1
  ·rw [if_pos c10] at H
   have c10b0 : (a0_1 == a1_1) = true := beq_iff_eq.mpr c10
   have c10b1 : (a0_1 != a1_1) = false := bne_eq_false_iff_eq.mpr c10
   clear c10
   by_cases c11 : a0_2 = a1_2
   ·rw [if_pos c11] at H
    have c11b0 : (a0_2 == a1_2) = true := beq_iff_eq.mpr c11
    have c11b1 : (a0_2 != a1_2) = false := bne_eq_false_iff_eq.mpr c11
    clear c11; obtain rfl := Option.some.inj H; have hnb12 := NB285_286.out; have hnc12 := NB286_285.out; obtain ⟨hcz13_0, hcz13_1, hcz13_2, hcz13_3, hcz13_4, hcz13_5, hcz13_6, hcz13_7⟩ := cz8_ BK285; obtain ⟨hfz13_0, hfz13_1, hfz13_2, hfz13_3, hfz13_4, hfz13_5, hfz13_6, hfz13_7⟩ := fz8_ BK285; obtain ⟨hcz14_0, hcz14_1, hcz14_2, hcz14_3, hcz14_4, hcz14_5, hcz14_6, hcz14_7⟩ := cz8_ BK286; obtain ⟨hfz14_0, hfz14_1, hfz14_2, hfz14_3, hfz14_4, hfz14_5, hfz14_6, hfz14_7⟩ := fz8_ BK286
    go_wp2
    go_ret
    exact ⟨er_q, bw_q HB⟩
   ·rw [if_neg c11] at H
    have c11b0 : (a0_2 == a1_2) = false := beq_eq_false_iff_ne.mpr c11
    have c11b1 : (a0_2 != a1_2) = true := bne_iff_ne.mpr c11
    obtain rfl := Option.some.inj H; have hnb15 := NB285_286.out; have hnc15 := NB286_285.out; obtain ⟨hcz16_0, hcz16_1, hcz16_2, hcz16_3, hcz16_4, hcz16_5, hcz16_6, hcz16_7⟩ := cz8_ BK285; obtain ⟨hfz16_0, hfz16_1, hfz16_2, hfz16_3, hfz16_4, hfz16_5, hfz16_6, hfz16_7⟩ := fz8_ BK285; obtain ⟨hcz17_0, hcz17_1, hcz17_2, hcz17_3, hcz17_4, hcz17_5, hcz17_6, hcz17_7⟩ := cz8_ BK286; obtain ⟨hfz17_0, hfz17_1, hfz17_2, hfz17_3, hfz17_4, hfz17_5, hfz17_6, hfz17_7⟩ := fz8_ BK286
    go_wp2
    go_ret
    exact ⟨er_q, bw_q HB⟩
  ·rw [if_neg c10] at H
   have c10b0 : (a0_1 == a1_1) = false := beq_eq_false_iff_ne.mpr c10
   have c10b1 : (a0_1 != a1_1) = true := bne_iff_ne.mpr c10
   obtain rfl := Option.some.inj H; have hnb18 := NB285_286.out; have hnc18 := NB286_285.out; obtain ⟨hcz19_0, hcz19_1, hcz19_2, hcz19_3, hcz19_4, hcz19_5, hcz19_6, hcz19_7⟩ := cz8_ BK285; obtain ⟨hfz19_0, hfz19_1, hfz19_2, hfz19_3, hfz19_4, hfz19_5, hfz19_6, hfz19_7⟩ := fz8_ BK285; obtain ⟨hcz20_0, hcz20_1, hcz20_2, hcz20_3, hcz20_4, hcz20_5, hcz20_6, hcz20_7⟩ := cz8_ BK286; obtain ⟨hfz20_0, hfz20_1, hfz20_2, hfz20_3, hfz20_4, hfz20_5, hfz20_6, hfz20_7⟩ := fz8_ BK286
   go_wp2
   go_ret
   exact ⟨er_q, bw_q HB⟩
 ·rw [if_neg c9] at H
  have c9b0 : (a0_0 == a1_0) = false := beq_eq_false_iff_ne.mpr c9
  have c9b1 : (a0_0 != a1_0) = true := bne_iff_ne.mpr c9
  (first | rw [c9b0] | rw [c9b1] | (simp only [i64_w, i32_w]; first | rw [c9b0] | rw [c9b1]) | skip)
  obtain rfl := Option.some.inj H; have hnb21 := NB285_286.out; have hnc21 := NB286_285.out; obtain ⟨hcz22_0, hcz22_1, hcz22_2, hcz22_3, hcz22_4, hcz22_5, hcz22_6, hcz22_7⟩ := cz8_ BK285; obtain ⟨hfz22_0, hfz22_1, hfz22_2, hfz22_3, hfz22_4, hfz22_5, hfz22_6, hfz22_7⟩ := fz8_ BK285; obtain ⟨hcz23_0, hcz23_1, hcz23_2, hcz23_3, hcz23_4, hcz23_5, hcz23_6, hcz23_7⟩ := cz8_ BK286; obtain ⟨hfz23_0, hfz23_1, hfz23_2, hfz23_3, hfz23_4, hfz23_5, hfz23_6, hfz23_7⟩ := fz8_ BK286
  go_wp2
  go_ret
  exact ⟨er_q, bw_q HB⟩

end Go.Proofs.Ytnecbkognpponaa.Q
