import Derived.Test.YtnecbkognpponaaXFnRecordsQspecl04Near
import Derived.Test.YtnecbkognpponaaXFnRecordsQspecl01Once
import Derived.Test.YtnecbkognpponaaXFnRecordsQspecl01Text
import Derived.Test.YtnecbkognpponaaXFnRecordsQspecRecordText
import Derived.Test.YtnecbkognpponaaXFnRecordsQspecl04Any
/- A Go function as a Lean function, and its contract: for every input the Go code comes to what the Lean function tells. -/




namespace Go.Proofs.Ytnecbkognpponaa.Q
open Go.RowKit Go.Proofs.YtnecbkognpponaaW.PrintWords Go.Proofs.YtnecbkognpponaaW.PrintLast Go.Proofs.YtnecbkognpponaaW.PrintMore
attribute [local go_sem] max2_int min2_int max_two min_two max_three min_three max_four min_four   -- for this text's walks alone
set_option linter.unusedVariables false
set_option linter.unusedSimpArgs false

/-! ### spec_l02Spoilt: function 71 -/
def spec_l02Spoilt.j0 : Nat → ByteArray → Bool → List Int → Int → Int → Option (ByteArray × Int × Int)
 | 0, _, _, _, _, _ => none
 | k + 1, x1, x23, x1000, x1001, x1002 => if x23 = true then (if (x1.size : Int) > 0 then ((spec_l01Below.f x1000 x1001 x1002 (x1.size : Int)).bind fun bt905 => (if 0 ≤ bt905.1 then (if bt905.1 ≤ (x1.size : Int) then ((spec_l01Text.f k x1000 bt905.2.1 bt905.2.2 1).bind fun bt908 => (if (x1.extract 0 (bt905.1 : Int).toNat).size + bt908.1.size ≤ 9223372036854775807 then (if 0 ≤ (wrap64 (bt905.1 + 1)) then (if (wrap64 (bt905.1 + 1)) ≤ (x1.size : Int) then (if ((x1.extract 0 (bt905.1 : Int).toNat) ++ bt908.1).size + (x1.extract ((wrap64 (bt905.1 + 1)) : Int).toNat x1.size).size ≤ 9223372036854775807 then (some (((x1.extract 0 (bt905.1 : Int).toNat) ++ bt908.1) ++ (x1.extract ((wrap64 (bt905.1 + 1)) : Int).toNat x1.size), bt908.2.1, bt908.2.2)) else (none)) else (none)) else (none)) else (none))) else (none)) else (none))) else (some (x1, x1001, x1002))) else (some (x1, x1001, x1002))
def spec_l02Spoilt.f (k : Nat) (s0_0 : List Int) (s0_1 : Int) (s0_2 : Int) (a1 : ByteArray) : Option (ByteArray × Int × Int) := (spec_l01Below.f s0_0 s0_1 s0_2 12).bind fun bt896 => (if bt896.1 = 0 then ((spec_l01Text.f k s0_0 bt896.2.1 bt896.2.2 1).bind fun bt899 => (if a1.size + bt899.1.size ≤ 9223372036854775807 then (some (a1 ++ bt899.1, bt899.2.1, bt899.2.2)) else (none))) else (if bt896.1 = 1 then ((spec_l01Below.f s0_0 bt896.2.1 bt896.2.2 (wrap64 ((a1.size : Int) + 1))).bind fun bt902 => (if 0 ≤ bt902.1 then (if bt902.1 ≤ (a1.size : Int) then (some (a1.extract 0 (bt902.1 : Int).toNat, bt902.2.1, bt902.2.2)) else (none)) else (none))) else (if bt896.1 = 2 then (spec_l02Spoilt.j0 k a1 (bt896.1 == 2) s0_0 bt896.2.1 bt896.2.2) else (spec_l02Spoilt.j0 k a1 (bt896.1 == 3) s0_0 bt896.2.1 bt896.2.2))))
theorem spec_l02Spoilt.mono_l : ∀ k, (∀ y0 y1 y2 y3 y4, LeO (spec_l02Spoilt.j0 k y0 y1 y2 y3 y4) (spec_l02Spoilt.j0 (k + 1) y0 y1 y2 y3 y4))
 | 0 => fun _ _ _ _ _ r h => by simp [spec_l02Spoilt.j0] at h
 | k + 1 => by
  have ih0 := spec_l02Spoilt.mono_l k
  ·intro y0 y1 y2 y3 y4
   unfold spec_l02Spoilt.j0
   repeat' first
   | (with_reducible exact ih0 _ _ _ _ _)
   | (with_reducible exact spec_l01Text.mono _ _ _ _ _)
   | (with_reducible exact LeO.refl _)
   | (with_reducible exact LeO.none _)
   | (with_reducible refine LeO.ite ?_ ?_)
   | (with_reducible refine LeO.bind ?_ (fun _ => ?_))
   | exact ih0 _ _ _ _ _
   | exact spec_l01Text.mono _ _ _ _ _
   | exact LeO.none _
   | refine LeO.ite ?_ ?_
   | refine LeO.bind ?_ (fun _ => ?_)
theorem spec_l02Spoilt.mono : ∀ a0 a1 a2 a3 k, LeO (spec_l02Spoilt.f k a0 a1 a2 a3) (spec_l02Spoilt.f (k + 1) a0 a1 a2 a3) := by
 intro a0 a1 a2 a3 k
 have ih0 := spec_l02Spoilt.mono_l k
 unfold spec_l02Spoilt.f
 repeat' first
   | (with_reducible exact ih0 _ _ _ _ _)
   | (with_reducible exact spec_l01Text.mono _ _ _ _ _)
   | (with_reducible exact LeO.refl _)
   | (with_reducible exact LeO.none _)
   | (with_reducible refine LeO.ite ?_ ?_)
   | (with_reducible refine LeO.bind ?_ (fun _ => ?_))
   | exact ih0 _ _ _ _ _
   | exact spec_l01Text.mono _ _ _ _ _
   | exact LeO.none _
   | refine LeO.ite ?_ ?_
   | refine LeO.bind ?_ (fun _ => ?_)
def spec_l02Spoilt.T10 : Bool × List (List Nat × List Nat) := (true, [([], []), ([], []), ([0, 1], [0, 1]), ([], []), ([3], [3]), ([2, 4], [2, 4]), ([], []), ([], []), ([7], [7]), ([6, 8], [6, 8]), ([5, 9], [5, 9]), ([10, 4, 0, 1, 2, 3, 4, 5, 6, 7, 8, 9, 10], [10])])
def spec_l02Spoilt.B10 : List Nat := [0, 0, 3, 0, 8, 31, 0, 0, 128, 448, 1023, 2047]
theorem spec_l02Spoilt.tab10 : rtab .any (opsOf Try.f71 10) = spec_l02Spoilt.T10 := by kernel_rfl
theorem spec_l02Spoilt.bits10 : waitsOk spec_l02Spoilt.T10.2 spec_l02Spoilt.B10 = true := by kernel_rfl
set_option maxHeartbeats 8000000 in
set_option maxRecDepth 100000 in
theorem spec_l02Spoilt.calls (k : Nat) (g : Nat) (s0_0 : List Int) (s0_1 : Int) (s0_2 : Int) (a1 : ByteArray) (r1 : ByteArray) (r2 : Int) (r3 : Int) (w0 w : World) (hI : IsS107 w0 w g s0_0 s0_1 s0_2) (hB : Below w0.heap.size w0 w) (h : spec_l02Spoilt.f k s0_0 s0_1 s0_2 a1 = some (r1, r2, r3)) :
  Calls Try.prog 71 #[.pointer (some ⟨g, 0, none⟩), .string a1] w fun e w' => e = .returned (.string r1) ∧ IsS107 w0 w' g s0_0 r2 r3 ∧ Below w0.heap.size w0 w' ∧ KeepBut w w' g none := by
 have HI0 := Aside0.mk hI
 have HK := Aside0.mk (KeepBut.refl w g none)
 have HL := Aside0.mk hB.size
 clear hI
 have HW0 := Aside0.mk hB.size
 have HB := Aside0.mk hB
 clear hB
 have H : ((spec_l01Below.f s0_0 s0_1 s0_2 12).bind fun bt896 => (if bt896.1 = 0 then ((spec_l01Text.f k s0_0 bt896.2.1 bt896.2.2 1).bind fun bt899 => (if a1.size + bt899.1.size ≤ 9223372036854775807 then (some (a1 ++ bt899.1, bt899.2.1, bt899.2.2)) else (none))) else (if bt896.1 = 1 then ((spec_l01Below.f s0_0 bt896.2.1 bt896.2.2 (wrap64 ((a1.size : Int) + 1))).bind fun bt902 => (if 0 ≤ bt902.1 then (if bt902.1 ≤ (a1.size : Int) then (some (a1.extract 0 (bt902.1 : Int).toNat, bt902.2.1, bt902.2.2)) else (none)) else (none))) else (if bt896.1 = 2 then (spec_l02Spoilt.j0 k a1 (bt896.1 == 2) s0_0 bt896.2.1 bt896.2.2) else (spec_l02Spoilt.j0 k a1 (bt896.1 == 3) s0_0 bt896.2.1 bt896.2.2))))) = some (r1, r2, r3) := h
 clear h
 replace H := Option.bind_eq_some_iff.mp H
 obtain ⟨⟨t896, t897, t898⟩, A30, H⟩ := H
 replace H : (if t896 = 0 then ((spec_l01Text.f k s0_0 t897 t898 1).bind fun bt899 => (if a1.size + bt899.1.size ≤ 9223372036854775807 then (some (a1 ++ bt899.1, bt899.2.1, bt899.2.2)) else (none))) else (if t896 = 1 then ((spec_l01Below.f s0_0 t897 t898 (wrap64 ((a1.size : Int) + 1))).bind fun bt902 => (if 0 ≤ bt902.1 then (if bt902.1 ≤ (a1.size : Int) then (some (a1.extract 0 (bt902.1 : Int).toNat, bt902.2.1, bt902.2.2)) else (none)) else (none))) else (if t896 = 2 then (spec_l02Spoilt.j0 k a1 (t896 == 2) s0_0 t897 t898) else (spec_l02Spoilt.j0 k a1 (t896 == 3) s0_0 t897 t898)))) = some (r1, r2, r3) := H
 have A3 := Aside0.mk A30
 clear A30
 have HC4 := Aside0.mk H
 clear H
 go_enter Try.func71, Try.ntmps71
 go_upto_if 8 with (first | ((with_reducible refine gate_callee (f := 80) rfl ?_); refine goesL_ (some 7) rfl rfl Try.func80 (by kernel_rfl) rfl #[.pointer (some ⟨g, 0, none⟩), .int .i64 12] rfl mp_q ?_; (with_reducible refine (spec_l01Below.calls g s0_0 s0_1 s0_2 12 t896 t897 t898 w0 _ ?side1 ?side2 A3.out).mono ?_); (case side1 => repeat (first | (with_reducible first | exact HI0.out | apply IsS107.alloc | apply IsS107.drewN | apply IsS107.drew | apply IsS107.set_1 | apply IsS107.set_2) | exact HI0.out)); (case side2 => repeat (first | (with_reducible first | exact HB.out | apply below_alloc | apply pw_below_drewN | apply below_drew1 | refine below_set ?_ (IsS107.ge HI0.out)) | exact HB.out)); rintro e w5 ⟨rfl, hi, hb, hk⟩; refine ⟨_, rfl, ?_⟩; replace HK := Aside0.mk (KeepBut.trans (by repeat (first | (with_reducible first | exact HK.out | apply KeepBut.set_ | apply keep_drewN | apply keep_drew | apply keep_alloc) | exact HK.out)) hk (.inl rfl)); replace HB := Aside0.mk (hb); replace HI0 := Aside0.mk (hi); (try clear hb); (try clear hb2); (try clear hk); (try clear hi)))
 have H := HC4.out
 clear HC4
 by_cases c6 : t896 = 0
 ·rw [if_pos c6] at H
  have c6b0 : (t896 == 0) = true := beq_iff_eq.mpr c6
  have c6b1 : (t896 != 0) = false := bne_eq_false_iff_eq.mpr c6
  clear c6
  (first | rw [c6b0] | rw [c6b1] | (simp only [i64_w, i32_w]; first | rw [c6b0] | rw [c6b1]) | skip)
  replace H := Option.bind_eq_some_iff.mp H
  obtain ⟨⟨t899, t900, t901⟩, A70, H⟩ := H
  replace H : (if a1.size + t899.size ≤ 9223372036854775807 then (some (a1 ++ t899, t900, t901)) else (none)) = some (r1, r2, r3) := H
  have A7 := Aside0.mk A70
  clear A70
  by_cases c8 : a1.size + t899.size ≤ 9223372036854775807
  ·rw [if_pos c8] at H
   have c8b0 := eq_true c8
   have c8b1 : decide (a1.size + t899.size ≤ 9223372036854775807) = true := decide_eq_true c8
   try have c8b2 : (9223372036854775807 < a1.size + t899.size) = False := eq_false (Nat.not_lt.2 c8)
   try (have c8b3 := c8b2; simp only [ByteArray.size_append] at c8b3)
   simp only [Option.some.injEq, Prod.mk.injEq] at H
   obtain ⟨rfl, rfl, rfl⟩ := H
   go_wp2_with (first | ((with_reducible refine gate_callee (f := 79) rfl ?_); refine goesL_ (some 12) rfl rfl Try.func79 (by kernel_rfl) rfl #[.pointer (some ⟨g, 0, none⟩), .int .i64 1] rfl mp_q ?_; (with_reducible refine (spec_l01Text.calls k g s0_0 t897 t898 1 t899 t900 t901 w0 _ ?side1 ?side2 A7.out).mono ?_); (case side1 => repeat (first | (with_reducible first | exact HI0.out | apply IsS107.alloc | apply IsS107.drewN | apply IsS107.drew | apply IsS107.set_1 | apply IsS107.set_2) | exact HI0.out)); (case side2 => repeat (first | (with_reducible first | exact HB.out | apply below_alloc | apply pw_below_drewN | apply below_drew1 | refine below_set ?_ (IsS107.ge HI0.out)) | exact HB.out)); rintro e w9 ⟨rfl, hi, hb, hk⟩; refine ⟨_, rfl, ?_⟩; replace HK := Aside0.mk (KeepBut.trans (by repeat (first | (with_reducible first | exact HK.out | apply KeepBut.set_ | apply keep_drewN | apply keep_drew | apply keep_alloc) | exact HK.out)) hk (.inl rfl)); replace HB := Aside0.mk (hb); replace HI0 := Aside0.mk (hi); (try clear hb); (try clear hb2); (try clear hk); (try clear hi)))
   go_ret
   exact ⟨er_q, by repeat (first | (with_reducible first | exact HI0.out | apply IsS107.alloc | apply IsS107.drewN | apply IsS107.drew | apply IsS107.set_1 | apply IsS107.set_2) | exact HI0.out), by repeat (first | (with_reducible first | exact HB.out | apply below_alloc | apply pw_below_drewN | apply below_drew1 | refine below_set ?_ (IsS107.ge HI0.out)) | exact HB.out), by repeat (first | (with_reducible first | exact HK.out | apply KeepBut.set_ | apply keep_drewN | apply keep_drew | apply keep_alloc) | exact HK.out)⟩
  ·rw [if_neg c8] at H
   exact absurd H (by simp)
 ·rw [if_neg c6] at H
  have c6b0 : (t896 == 0) = false := beq_eq_false_iff_ne.mpr c6
  have c6b1 : (t896 != 0) = true := bne_iff_ne.mpr c6
  (first | rw [c6b0] | rw [c6b1] | (simp only [i64_w, i32_w]; first | rw [c6b0] | rw [c6b1]) | skip)
  by_cases c10 : t896 = 1
  ·rw [if_pos c10] at H
   have c10b0 : (t896 == 1) = true := beq_iff_eq.mpr c10
   have c10b1 : (t896 != 1) = false := bne_eq_false_iff_eq.mpr c10
   clear c10
   replace H := Option.bind_eq_some_iff.mp H
   obtain ⟨⟨t902, t903, t904⟩, A110, H⟩ := H
   replace H : (if 0 ≤ t902 then (if t902 ≤ (a1.size : Int) then (some (a1.extract 0 (t902 : Int).toNat, t903, t904)) else (none)) else (none)) = some (r1, r2, r3) := H
   have A11 := Aside0.mk A110
   clear A110
   by_cases c12 : 0 ≤ t902
   ·rw [if_pos c12] at H
    have c12b0 := eq_true c12
    have c12b1 : decide (0 ≤ t902) = true := decide_eq_true c12
    clear c12
    by_cases c13 : t902 ≤ (a1.size : Int)
    ·rw [if_pos c13] at H
     have c13b0 := eq_true c13
     have c13b1 : decide (t902 ≤ (a1.size : Int)) = true := decide_eq_true c13
     clear c13
     simp only [Option.some.injEq, Prod.mk.injEq] at H
     obtain ⟨rfl, rfl, rfl⟩ := H
     go_wp2_with (first | ((with_reducible refine gate_callee (f := 80) rfl ?_); refine goesL_ (some 21) rfl rfl Try.func80 (by kernel_rfl) rfl #[.pointer (some ⟨g, 0, none⟩), .int .i64 (wrap64 ((a1.size : Int) + 1))] rfl mp_q ?_; (with_reducible refine (spec_l01Below.calls g s0_0 t897 t898 (wrap64 ((a1.size : Int) + 1)) t902 t903 t904 w0 _ ?side1 ?side2 A11.out).mono ?_); (case side1 => repeat (first | (with_reducible first | exact HI0.out | apply IsS107.alloc | apply IsS107.drewN | apply IsS107.drew | apply IsS107.set_1 | apply IsS107.set_2) | exact HI0.out)); (case side2 => repeat (first | (with_reducible first | exact HB.out | apply below_alloc | apply pw_below_drewN | apply below_drew1 | refine below_set ?_ (IsS107.ge HI0.out)) | exact HB.out)); rintro e w14 ⟨rfl, hi, hb, hk⟩; refine ⟨_, rfl, ?_⟩; replace HK := Aside0.mk (KeepBut.trans (by repeat (first | (with_reducible first | exact HK.out | apply KeepBut.set_ | apply keep_drewN | apply keep_drew | apply keep_alloc) | exact HK.out)) hk (.inl rfl)); replace HB := Aside0.mk (hb); replace HI0 := Aside0.mk (hi); (try clear hb); (try clear hb2); (try clear hk); (try clear hi)))
     go_ret
     exact ⟨er_q, by repeat (first | (with_reducible first | exact HI0.out | apply IsS107.alloc | apply IsS107.drewN | apply IsS107.drew | apply IsS107.set_1 | apply IsS107.set_2) | exact HI0.out), by repeat (first | (with_reducible first | exact HB.out | apply below_alloc | apply pw_below_drewN | apply below_drew1 | refine below_set ?_ (IsS107.ge HI0.out)) | exact HB.out), by repeat (first | (with_reducible first | exact HK.out | apply KeepBut.set_ | apply keep_drewN | apply keep_drew | apply keep_alloc) | exact HK.out)⟩
    ·rw [if_neg c13] at H
     exact absurd H (by simp)
   ·rw [if_neg c12] at H
    exact absurd H (by simp)
  ·rw [if_neg c10] at H
   have c10b0 : (t896 == 1) = false := beq_eq_false_iff_ne.mpr c10
   have c10b1 : (t896 != 1) = true := bne_iff_ne.mpr c10
   have HC15 := Aside0.mk H
   clear H
   go_upto_if 23 with (fail)
   go_cut [23] (fun v23 wc => ∃ (kq : Nat) (x23_14 : Bool), v23 = .bool x23_14 ∧ Aside0 (spec_l02Spoilt.j0 kq a1 x23_14 s0_0 t897 t898 = some (r1, r2, r3)) ∧ Aside0 (kq ≤ k) ∧ Aside0 (IsS107 w0 wc g s0_0 t897 t898) ∧ Aside0 (KeepBut w wc g none) ∧ Aside0 (Below w0.heap.size w0 wc))
   case first =>
    have H := HC15.out
    clear HC15
    by_cases c16 : t896 = 2
    ·rw [if_pos c16] at H
     have c16b0 : (t896 == 2) = true := beq_iff_eq.mpr c16
     have c16b1 : (t896 != 2) = false := bne_eq_false_iff_eq.mpr c16
     clear c16
     (first | rw [c16b0] | rw [c16b1] | (simp only [i64_w, i32_w]; first | rw [c16b0] | rw [c16b1]) | skip)
     have H' := Aside0.mk H
     clear H
     go_wp2
     go_meet
     case rel => exact ⟨_, ((t896 == 2)), (by first | rfl | (simp; done) | (simp [*]; done)), H', ⟨by first | omega | exact Nat.le_refl _⟩, ⟨by repeat (first | (with_reducible first | exact HI0.out | apply IsS107.alloc | apply IsS107.drewN | apply IsS107.drew | apply IsS107.set_1 | apply IsS107.set_2) | exact HI0.out)⟩, ⟨by repeat (first | (with_reducible first | exact HK.out | apply KeepBut.set_ | apply keep_drewN | apply keep_drew | apply keep_alloc) | exact HK.out)⟩, ⟨by repeat (first | (with_reducible first | exact HB.out | apply below_alloc | apply pw_below_drewN | apply below_drew1 | refine below_set ?_ (IsS107.ge HI0.out)) | exact HB.out)⟩⟩
    ·rw [if_neg c16] at H
     have c16b0 : (t896 == 2) = false := beq_eq_false_iff_ne.mpr c16
     have c16b1 : (t896 != 2) = true := bne_iff_ne.mpr c16
     (first | rw [c16b0] | rw [c16b1] | (simp only [i64_w, i32_w]; first | rw [c16b0] | rw [c16b1]) | skip)
     have H' := Aside0.mk H
     clear H
     go_wp2
     go_meet
     case rel => exact ⟨_, ((t896 == 3)), (by first | rfl | (simp; done) | (simp [*]; done)), H', ⟨by first | omega | exact Nat.le_refl _⟩, ⟨by repeat (first | (with_reducible first | exact HI0.out | apply IsS107.alloc | apply IsS107.drewN | apply IsS107.drew | apply IsS107.set_1 | apply IsS107.set_2) | exact HI0.out)⟩, ⟨by repeat (first | (with_reducible first | exact HK.out | apply KeepBut.set_ | apply keep_drewN | apply keep_drew | apply keep_alloc) | exact HK.out)⟩, ⟨by repeat (first | (with_reducible first | exact HB.out | apply below_alloc | apply pw_below_drewN | apply below_drew1 | refine below_set ?_ (IsS107.ge HI0.out)) | exact HB.out)⟩⟩
   case rest =>
    clear HC15
    try clear c1
    try clear p2
    try clear c6
    try clear c6b0
    try clear c6b1
    try clear p6
    try clear c7
    try clear c8
    try clear c8b0
    try clear c8b1
    try clear c8b2
    try clear c10
    try clear c10b0
    try clear c10b1
    try clear c12
    try clear c12b0
    try clear c12b1
    try clear c13
    try clear c13b0
    try clear c13b1
    try clear c16
    try clear c16b0
    try clear c16b1
    obtain ⟨kq, x23_14, rfl, HA, HJ14, HI0, HK, HB⟩ := hcut
    cases kq with
    | zero => exact absurd HA.out (by simp [spec_l02Spoilt.j0])
    | succ kj14 =>
     have H := HA.out
     clear HA
     simp only [spec_l02Spoilt.j0] at H
     by_cases c17 : x23_14 = true
     ·subst c17
      have H1 : (if (a1.size : Int) > 0 then ((spec_l01Below.f s0_0 t897 t898 (a1.size : Int)).bind fun bt905 => (if 0 ≤ bt905.1 then (if bt905.1 ≤ (a1.size : Int) then ((spec_l01Text.f kj14 s0_0 bt905.2.1 bt905.2.2 1).bind fun bt908 => (if (a1.extract 0 (bt905.1 : Int).toNat).size + bt908.1.size ≤ 9223372036854775807 then (if 0 ≤ (wrap64 (bt905.1 + 1)) then (if (wrap64 (bt905.1 + 1)) ≤ (a1.size : Int) then (if ((a1.extract 0 (bt905.1 : Int).toNat) ++ bt908.1).size + (a1.extract ((wrap64 (bt905.1 + 1)) : Int).toNat a1.size).size ≤ 9223372036854775807 then (some (((a1.extract 0 (bt905.1 : Int).toNat) ++ bt908.1) ++ (a1.extract ((wrap64 (bt905.1 + 1)) : Int).toNat a1.size), bt908.2.1, bt908.2.2)) else (none)) else (none)) else (none)) else (none))) else (none)) else (none))) else (some (a1, t897, t898))) = some (r1, r2, r3) := by rw [if_pos rfl] at H; exact H
      clear H
      have H := H1
      clear H1
      by_cases c18 : (a1.size : Int) > 0
      ·rw [if_pos c18] at H
       have c18b0 : decide (0 < (a1.size : Int)) = true := decide_eq_true c18
       have c18b1 : decide (0 < a1.size) = true := decide_eq_true (by omega)
       clear c18
       replace H := Option.bind_eq_some_iff.mp H
       obtain ⟨⟨t905, t906, t907⟩, A190, H⟩ := H
       replace H : (if 0 ≤ t905 then (if t905 ≤ (a1.size : Int) then ((spec_l01Text.f kj14 s0_0 t906 t907 1).bind fun bt908 => (if (a1.extract 0 (t905 : Int).toNat).size + bt908.1.size ≤ 9223372036854775807 then (if 0 ≤ (wrap64 (t905 + 1)) then (if (wrap64 (t905 + 1)) ≤ (a1.size : Int) then (if ((a1.extract 0 (t905 : Int).toNat) ++ bt908.1).size + (a1.extract ((wrap64 (t905 + 1)) : Int).toNat a1.size).size ≤ 9223372036854775807 then (some (((a1.extract 0 (t905 : Int).toNat) ++ bt908.1) ++ (a1.extract ((wrap64 (t905 + 1)) : Int).toNat a1.size), bt908.2.1, bt908.2.2)) else (none)) else (none)) else (none)) else (none))) else (none)) else (none)) = some (r1, r2, r3) := H
       have A19 := Aside0.mk A190
       clear A190
       by_cases c20 : 0 ≤ t905
       ·rw [if_pos c20] at H
        have c20b0 := eq_true c20
        have c20b1 : decide (0 ≤ t905) = true := decide_eq_true c20
        clear c20
        by_cases c21 : t905 ≤ (a1.size : Int)
        ·rw [if_pos c21] at H
         have c21b0 := eq_true c21
         have c21b1 : decide (t905 ≤ (a1.size : Int)) = true := decide_eq_true c21
         clear c21
         replace H := Option.bind_eq_some_iff.mp H
         obtain ⟨⟨t908, t909, t910⟩, A220, H⟩ := H
         replace H : (if (a1.extract 0 (t905 : Int).toNat).size + t908.size ≤ 9223372036854775807 then (if 0 ≤ (wrap64 (t905 + 1)) then (if (wrap64 (t905 + 1)) ≤ (a1.size : Int) then (if ((a1.extract 0 (t905 : Int).toNat) ++ t908).size + (a1.extract ((wrap64 (t905 + 1)) : Int).toNat a1.size).size ≤ 9223372036854775807 then (some (((a1.extract 0 (t905 : Int).toNat) ++ t908) ++ (a1.extract ((wrap64 (t905 + 1)) : Int).toNat a1.size), t909, t910)) else (none)) else (none)) else (none)) else (none)) = some (r1, r2, r3) := H
         have A22 := Aside0.mk A220
         clear A220
         by_cases c23 : (a1.extract 0 (t905 : Int).toNat).size + t908.size ≤ 9223372036854775807
         ·rw [if_pos c23] at H
          have c23b0 := eq_true c23
          have c23b1 : decide ((a1.extract 0 (t905 : Int).toNat).size + t908.size ≤ 9223372036854775807) = true := decide_eq_true c23
          try have c23b2 : (9223372036854775807 < (a1.extract 0 (t905 : Int).toNat).size + t908.size) = False := eq_false (Nat.not_lt.2 c23)
          try (have c23b3 := c23b2; simp only [ByteArray.size_append] at c23b3)
          have c23b4 : (9223372036854775807 < (t905 : Int).toNat + t908.size) = False := by
            refine eq_false (Nat.not_lt.2 ?_)
            have h23 := c23
            have h21 := of_eq_true c21b0
            rw [ByteArray.size_extract] at h23
            omega
          obtain ⟨ji24, hji24⟩ : ∃ j_ : Int, (wrap64 (t905 + 1)) = j_ := ⟨_, rfl⟩
          replace H : (if 0 ≤ (ji24) then (if (ji24) ≤ (a1.size : Int) then (if ((a1.extract 0 (t905 : Int).toNat) ++ t908).size + (a1.extract ((ji24) : Int).toNat a1.size).size ≤ 9223372036854775807 then (some (((a1.extract 0 (t905 : Int).toNat) ++ t908) ++ (a1.extract ((ji24) : Int).toNat a1.size), t909, t910)) else (none)) else (none)) else (none)) = some (r1, r2, r3) := by first | (rw [hji24] at H; exact H) | (simp only [hji24] at H ⊢; exact H)
          (try rw [hji24] at A19)
          (try rw [hji24] at A22)
          have hji24w : (IntKind.i64.wrap (t905 + 1)) = ji24 := (i64_w _).trans hji24
          by_cases c25 : 0 ≤ (ji24)
          ·rw [if_pos c25] at H
           have c25b0 := eq_true c25
           have c25b1 : decide (0 ≤ (ji24)) = true := decide_eq_true c25
           clear c25
           by_cases c26 : (ji24) ≤ (a1.size : Int)
           ·rw [if_pos c26] at H
            have c26b0 := eq_true c26
            have c26b1 : decide ((ji24) ≤ (a1.size : Int)) = true := decide_eq_true c26
            clear c26
            by_cases c27 : ((a1.extract 0 (t905 : Int).toNat) ++ t908).size + (a1.extract ((ji24) : Int).toNat a1.size).size ≤ 9223372036854775807
            ·rw [if_pos c27] at H
             have c27b0 := eq_true c27
             have c27b1 : decide (((a1.extract 0 (t905 : Int).toNat) ++ t908).size + (a1.extract ((ji24) : Int).toNat a1.size).size ≤ 9223372036854775807) = true := decide_eq_true c27
             try have c27b2 : (9223372036854775807 < ((a1.extract 0 (t905 : Int).toNat) ++ t908).size + (a1.extract ((ji24) : Int).toNat a1.size).size) = False := eq_false (Nat.not_lt.2 c27)
             try (have c27b3 := c27b2; simp only [ByteArray.size_append] at c27b3)
             have c27b4 : (9223372036854775807 < (t905 : Int).toNat + t908.size + (a1.size - (ji24 : Int).toNat)) = False := by
               refine eq_false (Nat.not_lt.2 ?_)
               have h27 := c27
               have h21 := of_eq_true c21b0
               have h26 := of_eq_true c26b0
               rw [ByteArray.size_append, ByteArray.size_extract, ByteArray.size_extract] at h27
               omega
             simp only [Option.some.injEq, Prod.mk.injEq] at H
             obtain ⟨rfl, rfl, rfl⟩ := H
             try go_wp2_with (first | ((with_reducible refine gate_callee (f := 80) rfl ?_); refine goesL_ (some 32) rfl rfl Try.func80 (by kernel_rfl) rfl #[.pointer (some ⟨g, 0, none⟩), .int .i64 (a1.size : Int)] rfl mp_q ?_; (with_reducible refine (spec_l01Below.calls g s0_0 t897 t898 (a1.size : Int) t905 t906 t907 w0 _ ?side1 ?side2 A19.out).mono ?_); (case side1 => repeat (first | (with_reducible first | exact HI0.out | apply IsS107.alloc | apply IsS107.drewN | apply IsS107.drew | apply IsS107.set_1 | apply IsS107.set_2) | exact HI0.out)); (case side2 => repeat (first | (with_reducible first | exact HB.out | apply below_alloc | apply pw_below_drewN | apply below_drew1 | refine below_set ?_ (IsS107.ge HI0.out)) | exact HB.out)); rintro e w28 ⟨rfl, hi, hb, hk⟩; refine ⟨_, rfl, ?_⟩; replace HK := Aside0.mk (KeepBut.trans (by repeat (first | (with_reducible first | exact HK.out | apply KeepBut.set_ | apply keep_drewN | apply keep_drew | apply keep_alloc) | exact HK.out)) hk (.inl rfl)); replace HB := Aside0.mk (hb); replace HI0 := Aside0.mk (hi); (try clear hb); (try clear hb2); (try clear hk); (try clear hi)))
             replace HI0 := Aside0.mk (IsS107.drew HI0.out)
             replace HK := Aside0.mk (keep_drew HK.out)
             replace HB := Aside0.mk (below_drew1 HB.out)
             refine start_ (n := 12) (S := fun w' => True) (ds := []) (bL 12 0) (by kernel_rfl) rfl rfl trivial (fun hHeld => ?_); refine with_tabW spec_l02Spoilt.tab10 spec_l02Spoilt.bits10 (fun HT_ HW_ => ?_)
             generalize w28.drew = w29 at HI0 HK HB hHeld ⊢
             refine pq_ 0 33 (bL 12 1) HT_.out rfl rfl ?_
             refine pq_ 1 34 (bL 12 3) HT_.out rfl rfl ?_
             refine pq_ 2 35 (bL 12 7) HT_.out rfl rfl ?_
             refine pq_ 3 36 (bL 12 15) HT_.out rfl rfl ?_
             refine pq_ 6 39 (bL 12 79) HT_.out rfl rfl ?_
             refine pq_ 7 40 (bL 12 207) HT_.out rfl rfl ?_
             refine pq_ 8 41 (bL 12 463) HT_.out rfl rfl ?_
             refine pq_ 9 42 (bL 12 975) HT_.out rfl rfl ?_
             refine one_ (i := 4) (N := some 37) (bL 12 991) rfl rfl (one_of HT_.out (by kernel_rfl)) (by decide) (fun K hK => ?_)
             refine goes_ Try.func79 (by kernel_rfl) rfl #[.pointer (some ⟨g, 0, none⟩), .int .i64 1] (by rfl) rfl rfl mp_q ?_
             with_reducible refine (spec_l01Text.calls kj14 g s0_0 t906 t907 1 t908 t909 t910 w0 _ ?side1 ?side2 A22.out).mono ?_
             (case side1 => repeat (first | (with_reducible first | exact HI0.out | apply IsS107.alloc | apply IsS107.drewN | apply IsS107.drew | apply IsS107.set_1 | apply IsS107.set_2) | exact HI0.out))
             (case side2 => repeat (first | (with_reducible first | exact HB.out | apply below_alloc | apply pw_below_drewN | apply below_drew1 | refine below_set ?_ (IsS107.ge HI0.out)) | exact HB.out))
             rintro e w30 ⟨rfl, hi, hb, hk⟩
             refine ⟨_, rfl, ?_⟩
             replace HK := Aside0.mk (KeepBut.trans (by repeat (first | (with_reducible first | exact HK.out | apply KeepBut.set_ | apply keep_drewN | apply keep_drew | apply keep_alloc) | exact HK.out)) hk (.inl rfl))
             replace HB := Aside0.mk (hb)
             replace HI0 := Aside0.mk (hi)
             (try clear hb)
             (try clear hb2)
             (try clear hk)
             (try clear hi)
             refine hK.out _ _ trivial (fun hHeld => ?_)
             clear hK K
             refine norm_ (a' := ?_) ?_ ?_; rotate_left; (show Act.put _ (some 37) _ = _; simp only [Act.put, List.setIfInBounds_toArray, List.set_cons_zero, List.set_cons_succ, i64_w, i32_w]; rfl)
             refine pq_ 5 38 (bL 12 1023) HT_.out rfl rfl ?_
             refine pq_ 10 43 (bL 12 2047) HT_.out rfl rfl ?_
             refine pq_ 11 4 (bL 12 4095) HT_.out rfl rfl ?_
             refine done_ (done_of HT_.out (by kernel_rfl)) ?_
             try go_wp2
             go_ret
             exact ⟨by first | rfl | (simp [errW_none, errW_some] <;> rfl) | (simp only [← hji24]; first | rfl | (simp [errW_none, errW_some] <;> rfl)) | (simp [*, errW_none, errW_some] <;> rfl), by repeat (first | (with_reducible first | exact HI0.out | apply IsS107.alloc | apply IsS107.drewN | apply IsS107.drew | apply IsS107.set_1 | apply IsS107.set_2) | exact HI0.out), by repeat (first | (with_reducible first | exact HB.out | apply below_alloc | apply pw_below_drewN | apply below_drew1 | refine below_set ?_ (IsS107.ge HI0.out)) | exact HB.out), by repeat (first | (with_reducible first | exact HK.out | apply KeepBut.set_ | apply keep_drewN | apply keep_drew | apply keep_alloc) | exact HK.out)⟩
            ·rw [if_neg c27] at H
             exact absurd H (by simp)
           ·rw [if_neg c26] at H
            exact absurd H (by simp)
          ·rw [if_neg c25] at H
           exact absurd H (by simp)
         ·rw [if_neg c23] at H
          exact absurd H (by simp)
        ·rw [if_neg c21] at H
         exact absurd H (by simp)
       ·rw [if_neg c20] at H
        exact absurd H (by simp)
      ·rw [if_neg c18] at H
       have c18b0 : decide (0 < (a1.size : Int)) = false := decide_eq_false c18
       have c18b1 : decide (0 < a1.size) = false := decide_eq_false (by omega)
       clear c18
       simp only [Option.some.injEq, Prod.mk.injEq] at H
       obtain ⟨rfl, rfl, rfl⟩ := H
       go_wp2
       go_ret
       exact ⟨er_q, by repeat (first | (with_reducible first | exact HI0.out | apply IsS107.alloc | apply IsS107.drewN | apply IsS107.drew | apply IsS107.set_1 | apply IsS107.set_2) | exact HI0.out), by repeat (first | (with_reducible first | exact HB.out | apply below_alloc | apply pw_below_drewN | apply below_drew1 | refine below_set ?_ (IsS107.ge HI0.out)) | exact HB.out), by repeat (first | (with_reducible first | exact HK.out | apply KeepBut.set_ | apply keep_drewN | apply keep_drew | apply keep_alloc) | exact HK.out)⟩
     ·replace c17 := Bool.eq_false_iff.mpr c17
      subst c17
      have H1 : (some (a1, t897, t898)) = some (r1, r2, r3) := by rw [if_neg (show ¬ (false = true) by decide)] at H; exact H
      clear H
      have H := H1
      clear H1
      simp only [Option.some.injEq, Prod.mk.injEq] at H
      obtain ⟨rfl, rfl, rfl⟩ := H
      go_wp2
      go_ret
      exact ⟨er_q, by repeat (first | (with_reducible first | exact HI0.out | apply IsS107.alloc | apply IsS107.drewN | apply IsS107.drew | apply IsS107.set_1 | apply IsS107.set_2) | exact HI0.out), by repeat (first | (with_reducible first | exact HB.out | apply below_alloc | apply pw_below_drewN | apply below_drew1 | refine below_set ?_ (IsS107.ge HI0.out)) | exact HB.out), by repeat (first | (with_reducible first | exact HK.out | apply KeepBut.set_ | apply keep_drewN | apply keep_drew | apply keep_alloc) | exact HK.out)⟩

end Go.Proofs.Ytnecbkognpponaa.Q

/- A Go function as a Lean function, and its contract: for every input the Go code comes to what the Lean function tells. -/






namespace Go.Proofs.Ytnecbkognpponaa.Q
open Go.RowKit Go.Proofs.YtnecbkognpponaaW.PrintWords Go.Proofs.YtnecbkognpponaaW.PrintLast Go.Proofs.YtnecbkognpponaaW.PrintMore
attribute [local go_sem] max2_int min2_int max_two min_two max_three min_three max_four min_four   -- for this text's walks alone
set_option linter.unusedVariables false
set_option linter.unusedSimpArgs false

/-! ### spec_DrawReadRecord: function 29 -/
def spec_DrawReadRecord.f (k : Nat) (l0 : List Int) : Option (ByteArray) := (spec_l01New.f k l0).bind fun bt911 => ((spec_l04Any.f k bt911.1 bt911.2.1 bt911.2.2).bind fun bt915 => ((spec_RecordText.f k bt915.1 bt915.2.1 bt915.2.2.1 bt915.2.2.2.1 bt915.2.2.2.2.1 bt915.2.2.2.2.2.1 bt915.2.2.2.2.2.2.1 bt915.2.2.2.2.2.2.2.1).bind fun bt927 => ((spec_l02Spoilt.f k bt911.1 bt915.2.2.2.2.2.2.2.2.1 bt915.2.2.2.2.2.2.2.2.2 bt927.1).bind fun bt929 => (some bt929.1))))
theorem spec_DrawReadRecord.mono : ∀ a0 k, LeO (spec_DrawReadRecord.f k a0) (spec_DrawReadRecord.f (k + 1) a0) := by
 intro a0 k
 unfold spec_DrawReadRecord.f
 repeat' first
   | (with_reducible exact spec_RecordText.mono _ _ _ _ _ _ _ _ _)
   | (with_reducible exact spec_l01New.mono _ _)
   | (with_reducible exact spec_l02Spoilt.mono _ _ _ _ _)
   | (with_reducible exact spec_l04Any.mono _ _ _ _)
   | (with_reducible exact LeO.refl _)
   | (with_reducible exact LeO.none _)
   | (with_reducible refine LeO.ite ?_ ?_)
   | (with_reducible refine LeO.bind ?_ (fun _ => ?_))
   | exact spec_RecordText.mono _ _ _ _ _ _ _ _ _
   | exact spec_l01New.mono _ _
   | exact spec_l02Spoilt.mono _ _ _ _ _
   | exact spec_l04Any.mono _ _ _ _
   | exact LeO.none _
   | refine LeO.ite ?_ ?_
   | refine LeO.bind ?_ (fun _ => ?_)
set_option maxHeartbeats 8000000 in
set_option maxRecDepth 100000 in
theorem spec_DrawReadRecord.calls (k : Nat) (A0 : Option Addr) (c0 : Nat) (l0 : List Int) (r : ByteArray) (w : World) (hr0 : Kd.C (Kd.int .u8) w A0 l0.length l0) (hc0 : l0.length ≤ c0) (h : spec_DrawReadRecord.f k l0 = some r) :
  Calls Try.prog 29 #[.slice A0 l0.length c0] w fun e w' => e = .returned (.string r) ∧ Below w.heap.size w w' := by
 have HR0 := Aside0.mk hr0
 have HC0 := Aside0.mk hc0
 clear hr0 hc0
 have HB := Aside0.mk (Below.refl w.heap.size w)
 have H : ((spec_l01New.f k l0).bind fun bt911 => ((spec_l04Any.f k bt911.1 bt911.2.1 bt911.2.2).bind fun bt915 => ((spec_RecordText.f k bt915.1 bt915.2.1 bt915.2.2.1 bt915.2.2.2.1 bt915.2.2.2.2.1 bt915.2.2.2.2.2.1 bt915.2.2.2.2.2.2.1 bt915.2.2.2.2.2.2.2.1).bind fun bt927 => ((spec_l02Spoilt.f k bt911.1 bt915.2.2.2.2.2.2.2.2.1 bt915.2.2.2.2.2.2.2.2.2 bt927.1).bind fun bt929 => (some bt929.1))))) = some r := h
 clear h
 replace H := Option.bind_eq_some_iff.mp H
 obtain ⟨⟨t911, t912, t913⟩, A20, H⟩ := H
 replace H : ((spec_l04Any.f k t911 t912 t913).bind fun bt915 => ((spec_RecordText.f k bt915.1 bt915.2.1 bt915.2.2.1 bt915.2.2.2.1 bt915.2.2.2.2.1 bt915.2.2.2.2.2.1 bt915.2.2.2.2.2.2.1 bt915.2.2.2.2.2.2.2.1).bind fun bt927 => ((spec_l02Spoilt.f k t911 bt915.2.2.2.2.2.2.2.2.1 bt915.2.2.2.2.2.2.2.2.2 bt927.1).bind fun bt929 => (some bt929.1)))) = some r := H
 have A2 := Aside0.mk A20
 clear A20
 replace H := Option.bind_eq_some_iff.mp H
 obtain ⟨⟨t915, t916, t917, t918, t919, t920, t923, t924, t925, t926⟩, A30, H⟩ := H
 replace H : ((spec_RecordText.f k t915 t916 t917 t918 t919 t920 t923 t924).bind fun bt927 => ((spec_l02Spoilt.f k t911 t925 t926 bt927.1).bind fun bt929 => (some bt929.1))) = some r := H
 have A3 := Aside0.mk A30
 clear A30
 replace H := Option.bind_eq_some_iff.mp H
 obtain ⟨⟨t927, t928⟩, A40, H⟩ := H
 replace H : ((spec_l02Spoilt.f k t911 t925 t926 t927).bind fun bt929 => (some bt929.1)) = some r := H
 have A4 := Aside0.mk A40
 clear A40
 replace H := Option.bind_eq_some_iff.mp H
 obtain ⟨⟨t929, t930, t931⟩, A50, H⟩ := H
 replace H : (some t929) = some r := H
 have A5 := Aside0.mk A50
 clear A50
 obtain rfl := Option.some.inj H
 go_enter Try.func29, Try.ntmps29
 go_wp2_with (first | ((with_reducible refine gate_callee (f := 66) rfl ?_); refine goesL_ (some 7) rfl rfl Try.func66 (by kernel_rfl) rfl #[.slice A0 l0.length c0] rfl mp_q ?_; (with_reducible refine (spec_l01New.calls k _ _ l0 t911 t912 t913 w _ ?side1 ?side2 ?side3 A2.out).mono ?_); (case side1 => repeat (first | (with_reducible first | exact HB.out | apply below_alloc | apply pw_below_drewN | apply below_drew1) | exact HB.out)); (case side2 => exact HR0.out); (case side3 => exact HC0.out); rintro e w6 ⟨g914, rfl, hi, hb, hb2⟩; refine ⟨_, rfl, ?_⟩; replace HB := Aside0.mk (hb); have HI914 := Aside0.mk (hi); (try clear hb); (try clear hb2); (try clear hk); (try clear hi)) | ((with_reducible refine gate_callee (f := 65) rfl ?_); refine goesL_ (some 10) rfl rfl Try.func65 (by kernel_rfl) rfl #[.pointer (some ⟨g914, 0, none⟩)] rfl mp_q ?_; (with_reducible refine (spec_l04Any.calls k g914 t911 t912 t913 t915 t916 t917 t918 t919 t920 t923 t924 t925 t926 w _ ?side1 ?side2 A3.out).mono ?_); (case side1 => repeat (first | (with_reducible first | exact HI914.out | apply IsS107.alloc | apply IsS107.drewN | apply IsS107.drew | apply IsS107.set_1 | apply IsS107.set_2) | exact HI914.out)); (case side2 => repeat (first | (with_reducible first | exact HB.out | apply below_alloc | apply pw_below_drewN | apply below_drew1 | refine below_set ?_ (IsS107.ge HI914.out)) | exact HB.out)); rintro e w7 ⟨v921, rfl, ho0, hi, hb, hk⟩; refine ⟨_, rfl, ?_⟩; have HO922 := Aside0.mk (Kd.R_lower ho0 (below_size (by repeat (first | (with_reducible first | exact HB.out | apply below_alloc | apply pw_below_drewN | apply below_drew1 | refine below_set ?_ (IsS107.ge HI914.out)) | exact HB.out)))); replace HB := Aside0.mk (hb); replace HI914 := Aside0.mk (hi); (try clear hb); (try clear hb2); (try clear hk); (try clear hi); (try clear ho0); obtain ⟨Ao8, co8, eo8⟩ := Kd.R_slice HO922.out; subst eo8) | ((with_reducible refine gate_callee (f := 40) rfl ?_); refine goesL_ (some 11) rfl rfl Try.func40 (by kernel_rfl) rfl #[.agg #[.int .i64 t915, .int .i64 t916, .int .i64 t917, .int .i64 t918, .int .i64 t919, .slice Ao8 t920.length co8, .int .i64 t923, .bool t924]] rfl mp_q ?_; (with_reducible refine (spec_RecordText.calls k t915 t916 t917 t918 t919 _ _ t920 t923 t924 t927 t928 _ ?side1 ?side2 A4.out).mono ?_); (case side1 => repeat (first | exact (Kd.R_reads' HO922.out).2.2 | (with_reducible refine Kd.C_alloc ?_ _) | (with_reducible refine Kd.C_drewN ?_ _) | (with_reducible refine Kd.C_drew ?_))); (case side2 => exact (Kd.R_reads' HO922.out).2.1); rintro e w9 ⟨rfl, hb⟩; refine ⟨_, rfl, ?_⟩; replace HO922 := Aside0.mk (Kd.R_below (kR_q HO922) hb); replace HB := Aside0.mk (below_step (by repeat (first | (with_reducible first | exact HB.out | apply below_alloc | apply pw_below_drewN | apply below_drew1 | refine below_set ?_ (IsS107.ge HI914.out)) | exact HB.out)) hb); replace HI914 := Aside0.mk (IsS107.below (by repeat (first | (with_reducible first | exact HI914.out | apply IsS107.alloc | apply IsS107.drewN | apply IsS107.drew | apply IsS107.set_1 | apply IsS107.set_2) | exact HI914.out)) hb); (try clear hb); (try clear hb2); (try clear hk); (try clear hi)) | ((with_reducible refine gate_callee (f := 71) rfl ?_); refine goesL_ (some 16) rfl rfl Try.func71 (by kernel_rfl) rfl #[.pointer (some ⟨g914, 0, none⟩), .string t927] rfl mp_q ?_; (with_reducible refine (spec_l02Spoilt.calls k g914 t911 t925 t926 t927 t929 t930 t931 w _ ?side1 ?side2 A5.out).mono ?_); (case side1 => repeat (first | (with_reducible first | exact HI914.out | apply IsS107.alloc | apply IsS107.drewN | apply IsS107.drew | apply IsS107.set_1 | apply IsS107.set_2) | exact HI914.out)); (case side2 => repeat (first | (with_reducible first | exact HB.out | apply below_alloc | apply pw_below_drewN | apply below_drew1 | refine below_set ?_ (IsS107.ge HI914.out)) | exact HB.out)); rintro e w10 ⟨rfl, hi, hb, hk⟩; refine ⟨_, rfl, ?_⟩; replace HO922 := Aside0.mk (Kd.R_mono (Kd.R_keep (IsS107.apart (show IsS107 w _ g914 t911 t925 t926 from by repeat (first | (with_reducible first | exact HI914.out | apply IsS107.alloc | apply IsS107.drewN | apply IsS107.drew | apply IsS107.set_1 | apply IsS107.set_2) | exact HI914.out)) (kR_q HO922) (by decide)) hk (fun _ h => h.2)) (fun _ h => h.1)); replace HB := Aside0.mk (hb); replace HI914 := Aside0.mk (hi); (try clear hb); (try clear hb2); (try clear hk); (try clear hi)))
 go_ret
 exact ⟨er_q, by repeat (first | (with_reducible first | exact HB.out | apply below_alloc | apply pw_below_drewN | apply below_drew1 | refine below_set ?_ (IsS107.ge HI914.out)) | exact HB.out)⟩

end Go.Proofs.Ytnecbkognpponaa.Q
