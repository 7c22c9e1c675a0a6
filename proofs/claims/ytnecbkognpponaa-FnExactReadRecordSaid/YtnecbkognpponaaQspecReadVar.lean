/- A Go function as a Lean function, and its contract: for every input the Go code comes to what the Lean function tells. -/
import Derived.Test.YtnecbkognpponaaQT
import Derived.Test.YtnecbkognpponaaQspecl01Var
import Derived.Test.YtnecbkognpponaaQspecl01In
namespace Go.Proofs.Ytnecbkognpponaa.Q
open Go.RowKit Go.Proofs.YtnecbkognpponaaW.PrintWords Go.Proofs.YtnecbkognpponaaW.PrintLast Go.Proofs.YtnecbkognpponaaW.PrintMore
attribute [local go_sem] max2_int min2_int max_two min_two max_three min_three max_four min_four   -- for this text's walks alone
set_option linter.unusedVariables false
set_option linter.unusedSimpArgs false

/-! ### spec_ReadVar: function 82 -/
mutual
def spec_ReadVar.l0 : Nat → ByteArray → Int → Int → Int → Int → Option (Int × Int × Bool)
 | 0, _, _, _, _, _ => none
 | k + 1, x0, x1, x7, x8, x9 => if x9 < (x0.size : Int) then (spec_ReadVar.j1 k x0 x1 x7 x8 x9 (decide (x9 < (wrap64 (x1 + 5))))) else (spec_ReadVar.j1 k x0 x1 x7 x8 x9 false)
def spec_ReadVar.j1 : Nat → ByteArray → Int → Int → Int → Int → Bool → Option (Int × Int × Bool)
 | 0, _, _, _, _, _, _ => none
 | k + 1, x0, x1, x7, x8, x9, x25 => if x25 = true then (if 0 ≤ x9 then (if x9 < (x0.size : Int) then (if (bt x0 x9) < 128 then (if (wrap64 (x7 + (wrap64 ((Int.tmod (wrap64 (bt x0 x9)) 128) * x8)))) > 1000000000 then (some (0, 0, false)) else ((spec_l01Var.f k (wrap64 (x7 + (wrap64 ((Int.tmod (wrap64 (bt x0 x9)) 128) * x8))))).bind fun t115 => (if 0 ≤ x1 then (if x1 ≤ (wrap64 (x9 + 1)) then (if (wrap64 (x9 + 1)) ≤ (x0.size : Int) then (if t115.toList = (x0.extract (x1 : Int).toNat ((wrap64 (x9 + 1)) : Int).toNat).toList then (some (wrap64 (x7 + (wrap64 ((Int.tmod (wrap64 (bt x0 x9)) 128) * x8))), wrap64 (x9 + 1), true)) else (some (0, 0, false))) else (none)) else (none)) else (none)))) else (spec_ReadVar.l0 k x0 x1 (wrap64 (x7 + (wrap64 ((Int.tmod (wrap64 (bt x0 x9)) 128) * x8)))) (wrap64 (x8 * 128)) (wrap64 (x9 + 1)))) else (none)) else (none)) else (some (0, 0, false))
end
def spec_ReadVar.f (k : Nat) (a0 : ByteArray) (a1 : Int) : Option (Int × Int × Bool) := (spec_l01In.f a1 0 (a0.size : Int)).bind fun t114 => (if t114 = true then (spec_ReadVar.l0 k a0 a1 0 1 a1) else (some (0, 0, false)))
theorem spec_ReadVar.mono_l : ∀ k, (∀ y0 y1 y2 y3 y4, LeO (spec_ReadVar.l0 k y0 y1 y2 y3 y4) (spec_ReadVar.l0 (k + 1) y0 y1 y2 y3 y4)) ∧ (∀ y0 y1 y2 y3 y4 y5, LeO (spec_ReadVar.j1 k y0 y1 y2 y3 y4 y5) (spec_ReadVar.j1 (k + 1) y0 y1 y2 y3 y4 y5))
 | 0 => ⟨fun _ _ _ _ _ r h => by simp [spec_ReadVar.l0] at h, fun _ _ _ _ _ _ r h => by simp [spec_ReadVar.j1] at h⟩
 | k + 1 => by
  obtain ⟨ih0, ih1⟩ := spec_ReadVar.mono_l k
  refine ⟨?_, ?_⟩
  ·intro y0 y1 y2 y3 y4
   unfold spec_ReadVar.l0
   repeat' first
   | (with_reducible exact ih0 _ _ _ _ _)
   | (with_reducible exact ih1 _ _ _ _ _ _)
   | (with_reducible exact spec_l01Var.mono _ _)
   | (with_reducible exact LeO.refl _)
   | (with_reducible exact LeO.none _)
   | (with_reducible refine LeO.ite ?_ ?_)
   | (with_reducible refine LeO.bind ?_ (fun _ => ?_))
   | exact ih0 _ _ _ _ _
   | exact ih1 _ _ _ _ _ _
   | exact spec_l01Var.mono _ _
   | exact LeO.none _
   | refine LeO.ite ?_ ?_
   | refine LeO.bind ?_ (fun _ => ?_)
  ·intro y0 y1 y2 y3 y4 y5
   unfold spec_ReadVar.j1
   repeat' first
   | (with_reducible exact ih0 _ _ _ _ _)
   | (with_reducible exact ih1 _ _ _ _ _ _)
   | (with_reducible exact spec_l01Var.mono _ _)
   | (with_reducible exact LeO.refl _)
   | (with_reducible exact LeO.none _)
   | (with_reducible refine LeO.ite ?_ ?_)
   | (with_reducible refine LeO.bind ?_ (fun _ => ?_))
   | exact ih0 _ _ _ _ _
   | exact ih1 _ _ _ _ _ _
   | exact spec_l01Var.mono _ _
   | exact LeO.none _
   | refine LeO.ite ?_ ?_
   | refine LeO.bind ?_ (fun _ => ?_)
theorem spec_ReadVar.mono : ∀ a0 a1 k, LeO (spec_ReadVar.f k a0 a1) (spec_ReadVar.f (k + 1) a0 a1) := by
 intro a0 a1 k
 obtain ⟨ih0, ih1⟩ := spec_ReadVar.mono_l k
 unfold spec_ReadVar.f
 repeat' first
   | (with_reducible exact ih0 _ _ _ _ _)
   | (with_reducible exact ih1 _ _ _ _ _ _)
   | (with_reducible exact spec_l01Var.mono _ _)
   | (with_reducible exact LeO.refl _)
   | (with_reducible exact LeO.none _)
   | (with_reducible refine LeO.ite ?_ ?_)
   | (with_reducible refine LeO.bind ?_ (fun _ => ?_))
   | exact ih0 _ _ _ _ _
   | exact ih1 _ _ _ _ _ _
   | exact spec_l01Var.mono _ _
   | exact LeO.none _
   | refine LeO.ite ?_ ?_
   | refine LeO.bind ?_ (fun _ => ?_)
def spec_ReadVar.T11 : Bool × List (List Nat × List Nat) := (true, [([], []), ([0], [0]), ([1], [1]), ([2], [2]), ([3, 2, 2], [2, 3]), ([2], [2]), ([2], [2]), ([2], [2]), ([7, 2], [2, 7]), ([5, 6, 8, 2], [2, 5, 6, 8]), ([4, 9, 2], [2, 4, 9]), ([2, 10], [2, 10])])
def spec_ReadVar.B11 : List Nat := [0, 1, 3, 7, 15, 7, 7, 7, 135, 487, 1023, 2047]
theorem spec_ReadVar.tab11 : rtab .any (opsOf Try.f82 11) = spec_ReadVar.T11 := by kernel_rfl
theorem spec_ReadVar.bits11 : waitsOk spec_ReadVar.T11.2 spec_ReadVar.B11 = true := by kernel_rfl
set_option maxHeartbeats 8000000 in
set_option maxRecDepth 100000 in
theorem spec_ReadVar.calls (k : Nat) (a0 : ByteArray) (a1 : Int) (r1 : Int) (r2 : Int) (r3 : Bool) (w : World) (h : spec_ReadVar.f k a0 a1 = some (r1, r2, r3)) :
  Calls Try.prog 82 #[.string a0, .int .i64 a1] w fun e w' => e = .returned (.tuple #[.int .i64 r1, .int .i64 r2, .bool r3]) ∧ Below w.heap.size w w' := by
 have HB := Aside0.mk (Below.refl w.heap.size w)
 have H : ((spec_l01In.f a1 0 (a0.size : Int)).bind fun t114 => (if t114 = true then (spec_ReadVar.l0 k a0 a1 0 1 a1) else (some (0, 0, false)))) = some (r1, r2, r3) := h
 clear h
 replace H := Option.bind_eq_some_iff.mp H
 obtain ⟨t114, A30, H⟩ := H
 replace H : (if t114 = true then (spec_ReadVar.l0 k a0 a1 0 1 a1) else (some (0, 0, false))) = some (r1, r2, r3) := H
 have A3 := Aside0.mk A30
 clear A30
 have HC4 := Aside0.mk H
 clear H
 go_enter Try.func82, Try.ntmps82
 go_upto_if 14 with (first | ((with_reducible refine gate_callee (f := 67) rfl ?_); refine goesL_ (some 13) rfl rfl Try.func67 (by kernel_rfl) rfl #[.int .i64 a1, .int .i64 0, .int .i64 (a0.size : Int)] rfl mp_q ?_; (with_reducible refine (spec_l01In.calls a1 0 (a0.size : Int) t114 _ A3.out).mono ?_); rintro e w' ⟨rfl, ⟨nd, rfl⟩⟩; refine ⟨_, rfl, ?_⟩))
 have H := HC4.out
 clear HC4
 by_cases c5 : t114 = true
 ·subst c5
  have H1 : (spec_ReadVar.l0 k a0 a1 0 1 a1) = some (r1, r2, r3) := by rw [if_pos rfl] at H; exact H
  clear H
  have H := H1
  clear H1
  have H' := Aside0.mk H
  clear H
  go_wp2
  go_loopg [7, 8, 9] k (fun kq v7 v8 v9 w' => ∃ (x7_1 : Int) (x8_1 : Int) (x9_1 : Int), v7 = .int .i64 x7_1 ∧ v8 = .int .i64 x8_1 ∧ v9 = .int .i64 x9_1 ∧ Aside0 (spec_ReadVar.l0 kq a0 a1 x7_1 x8_1 x9_1 = some (r1, r2, r3)) ∧ Aside0 (kq ≤ k) ∧ Aside0 (Below w.heap.size w w'))
  case atStart => exact ⟨(0), (1), (a1), (by first | rfl | (simp; done) | (simp [*]; done)), (by first | rfl | (simp; done) | (simp [*]; done)), (by first | rfl | (simp; done) | (simp [*]; done)), H', ⟨Nat.le_refl _⟩, ⟨bw_q HB⟩⟩
  case round =>
   clear H'
   try clear p2
   try clear c5
   obtain ⟨x7_1, x8_1, x9_1, rfl, rfl, rfl, HA, HK1, HB⟩ := hrel
   cases gk with
   | zero => exact absurd HA.out (by simp [spec_ReadVar.l0])
   | succ k1 =>
    have H := HA.out
    clear HA
    simp only [spec_ReadVar.l0] at H
    have HC6 := Aside0.mk H
    clear H
    go_upto_region 6 with (fail)
    go_cut [25] (fun v25 wc => ∃ (kq : Nat) (x25_5 : Bool), v25 = .bool x25_5 ∧ Aside0 (spec_ReadVar.j1 kq a0 a1 x7_1 x8_1 x9_1 x25_5 = some (r1, r2, r3)) ∧ Aside0 (kq ≤ k1) ∧ Aside0 (Below w.heap.size w wc))
    case first =>
     have H := HC6.out
     clear HC6
     by_cases c7 : x9_1 < (a0.size : Int)
     ·rw [if_pos c7] at H
      have c7b0 : decide (x9_1 < (a0.size : Int)) = true := decide_eq_true c7
      clear c7
      (first | rw [c7b0] | rw [c7b1] | (simp only [i64_w, i32_w]; first | rw [c7b0] | rw [c7b1]) | skip)
      have H' := Aside0.mk H
      clear H
      go_wp2
      go_meet
      case rel => exact ⟨_, (decide (x9_1 < (wrap64 (a1 + 5)))), (by first | rfl | (simp; done) | (simp [*]; done)), H', ⟨by have := HK1.out; first | omega | exact Nat.le_refl _⟩, ⟨bw_q HB⟩⟩
     ·rw [if_neg c7] at H
      have c7b0 : decide (x9_1 < (a0.size : Int)) = false := decide_eq_false c7
      clear c7
      (first | rw [c7b0] | rw [c7b1] | (simp only [i64_w, i32_w]; first | rw [c7b0] | rw [c7b1]) | skip)
      have H' := Aside0.mk H
      clear H
      go_wp2
      go_meet
      case rel => exact ⟨_, (false), (by first | rfl | (simp; done) | (simp [*]; done)), H', ⟨by have := HK1.out; first | omega | exact Nat.le_refl _⟩, ⟨bw_q HB⟩⟩
    case rest =>
     clear HC6
     try clear p2
     try clear c5
     try clear c6
     try clear p6
     try clear c7
     try clear c7b0
     try clear c7b1
     try clear p2
     obtain ⟨kq, x25_5, rfl, HA, HJ5, HB⟩ := hcut
     cases kq with
     | zero => exact absurd HA.out (by simp [spec_ReadVar.j1])
     | succ kj5 =>
      have H := HA.out
      clear HA
      simp only [spec_ReadVar.j1] at H
      by_cases c8 : x25_5 = true
      ·subst c8
       have H1 : (if 0 ≤ x9_1 then (if x9_1 < (a0.size : Int) then (if (bt a0 x9_1) < 128 then (if (wrap64 (x7_1 + (wrap64 ((Int.tmod (wrap64 (bt a0 x9_1)) 128) * x8_1)))) > 1000000000 then (some (0, 0, false)) else ((spec_l01Var.f kj5 (wrap64 (x7_1 + (wrap64 ((Int.tmod (wrap64 (bt a0 x9_1)) 128) * x8_1))))).bind fun t115 => (if 0 ≤ a1 then (if a1 ≤ (wrap64 (x9_1 + 1)) then (if (wrap64 (x9_1 + 1)) ≤ (a0.size : Int) then (if t115.toList = (a0.extract (a1 : Int).toNat ((wrap64 (x9_1 + 1)) : Int).toNat).toList then (some (wrap64 (x7_1 + (wrap64 ((Int.tmod (wrap64 (bt a0 x9_1)) 128) * x8_1))), wrap64 (x9_1 + 1), true)) else (some (0, 0, false))) else (none)) else (none)) else (none)))) else (spec_ReadVar.l0 kj5 a0 a1 (wrap64 (x7_1 + (wrap64 ((Int.tmod (wrap64 (bt a0 x9_1)) 128) * x8_1)))) (wrap64 (x8_1 * 128)) (wrap64 (x9_1 + 1)))) else (none)) else (none)) = some (r1, r2, r3) := by rw [if_pos rfl] at H; exact H
       clear H
       have H := H1
       clear H1
       by_cases c9 : 0 ≤ x9_1
       ·rw [if_pos c9] at H
        have c9b0 : decide (0 ≤ x9_1) = true := decide_eq_true c9
        clear c9
        by_cases c10 : x9_1 < (a0.size : Int)
        ·rw [if_pos c10] at H
         have c10b0 : decide (x9_1 < (a0.size : Int)) = true := decide_eq_true c10
         clear c10
         by_cases c13 : (bt a0 x9_1) < 128
         ·rw [if_pos c13] at H
          have c13b0 : decide ((bt a0 x9_1) < 128) = true := decide_eq_true c13
          clear c13
          have HZ20 := Aside0.mk H
          clear H
          have p11 : 0 ≤ (x9_1 : Int) := of_decide_eq_true as_q
          have q11 : x9_1 < (a0.size : Int) := of_decide_eq_true as_q
          have hx11 := bt_at a0 x9_1
          replace p11 := eq_true p11
          replace q11 := eq_true q11
          have p12 : 0 ≤ (x9_1 : Int) := of_decide_eq_true as_q
          have q12 : x9_1 < (a0.size : Int) := of_decide_eq_true as_q
          have hx12 := bt_at a0 x9_1
          replace p12 := eq_true p12
          replace q12 := eq_true q12
          try go_wp2
          replace HB := Aside0.mk (below_drew1 HB.out)
          refine start_ (n := 12) (S := fun w' => True) (ds := []) (bL 12 0) (by kernel_rfl) rfl rfl trivial (fun hHeld => ?_); refine with_tabW spec_ReadVar.tab11 spec_ReadVar.bits11 (fun HT_ HW_ => ?_)
          generalize wc.drew = w15 at HB hHeld ⊢
          refine pq_ 0 43 (bL 12 1) HT_.out rfl rfl ?_
          refine pq_ 1 44 (bL 12 3) HT_.out rfl rfl ?_
          refine pq_ 2 45 (bL 12 7) HT_.out rfl rfl ?_
          have H := HZ20.out
          clear HZ20
          by_cases c14 : (wrap64 (x7_1 + (wrap64 ((Int.tmod (wrap64 (bt a0 x9_1)) 128) * x8_1)))) > 1000000000
          ·rw [if_pos c14] at H
           have c14b0 : decide (1000000000 < (wrap64 (x7_1 + (wrap64 ((Int.tmod (wrap64 (bt a0 x9_1)) 128) * x8_1))))) = true := decide_eq_true c14
           (first | rw [c14b0] | (simp only [i64_w, i32_w]; first | rw [c14b0]) | skip)
           clear c14
           simp only [Option.some.injEq, Prod.mk.injEq] at H
           obtain ⟨rfl, rfl, rfl⟩ := H
           refine pu_ 3 46 (bL 12 15) HT_.out rfl rfl ?_
           refine pu_ 4 47 (bL 12 31) HT_.out rfl rfl ?_
           refine pu_ 5 48 (bL 12 63) HT_.out rfl rfl ?_
           refine pu_ 6 49 (bL 12 127) HT_.out rfl rfl ?_
           refine pu_ 7 50 (bL 12 255) HT_.out rfl rfl ?_
           refine pu_ 8 51 (bL 12 511) HT_.out rfl rfl ?_
           refine pu_ 9 52 (bL 12 1023) HT_.out rfl rfl ?_
           refine pu_ 10 53 (bL 12 2047) HT_.out rfl rfl ?_
           refine pq_ 11 54 (bL 12 4095) HT_.out rfl rfl ?_
           refine done_ (done_of HT_.out (by kernel_rfl)) ?_
           try go_wp2
           go_ret3
           exact ⟨er_q, bw_q HB⟩
          ·rw [if_neg c14] at H
           have c14b0 : decide (1000000000 < (wrap64 (x7_1 + (wrap64 ((Int.tmod (wrap64 (bt a0 x9_1)) 128) * x8_1))))) = false := decide_eq_false c14
           (first | rw [c14b0] | (simp only [i64_w, i32_w]; first | rw [c14b0]) | skip)
           clear c14
           replace H := Option.bind_eq_some_iff.mp H
           obtain ⟨t115, A160, H⟩ := H
           replace H : (if 0 ≤ a1 then (if a1 ≤ (wrap64 (x9_1 + 1)) then (if (wrap64 (x9_1 + 1)) ≤ (a0.size : Int) then (if t115.toList = (a0.extract (a1 : Int).toNat ((wrap64 (x9_1 + 1)) : Int).toNat).toList then (some (wrap64 (x7_1 + (wrap64 ((Int.tmod (wrap64 (bt a0 x9_1)) 128) * x8_1))), wrap64 (x9_1 + 1), true)) else (some (0, 0, false))) else (none)) else (none)) else (none)) = some (r1, r2, r3) := H
           have A16 := Aside0.mk A160
           clear A160
           by_cases c17 : 0 ≤ a1
           ·rw [if_pos c17] at H
            have c17b0 := eq_true c17
            have c17b1 : decide (0 ≤ a1) = true := decide_eq_true c17
            clear c17
            by_cases c18 : a1 ≤ (wrap64 (x9_1 + 1))
            ·rw [if_pos c18] at H
             have c18b0 := eq_true c18
             have c18b1 : decide (a1 ≤ (wrap64 (x9_1 + 1))) = true := decide_eq_true c18
             by_cases c19 : (wrap64 (x9_1 + 1)) ≤ (a0.size : Int)
             ·rw [if_pos c19] at H
              have c19b0 := eq_true c19
              have c19b1 : decide ((wrap64 (x9_1 + 1)) ≤ (a0.size : Int)) = true := decide_eq_true c19
              have HZ21 := Aside0.mk H
              clear H
              refine pq_ 3 46 (bL 12 15) HT_.out rfl rfl ?_
              refine pq_ 5 48 (bL 12 47) HT_.out rfl rfl ?_
              refine pq_ 6 49 (bL 12 111) HT_.out rfl rfl ?_
              refine pq_ 7 50 (bL 12 239) HT_.out rfl rfl ?_
              refine pq_ 8 51 (bL 12 495) HT_.out rfl rfl ?_
              refine pq_ 9 52 (bL 12 1007) HT_.out rfl rfl ?_
              refine one_ (i := 4) (N := some 47) (bL 12 1023) rfl rfl (one_of HT_.out (by kernel_rfl)) (by decide) (fun K hK => ?_)
              refine goes_ Try.func49 (by kernel_rfl) rfl #[.int .i64 (wrap64 (x7_1 + (wrap64 ((Int.tmod (wrap64 (bt a0 x9_1)) 128) * x8_1))))] (by rfl) rfl rfl mp_q ?_
              with_reducible refine (spec_l01Var.calls kj5 (wrap64 (x7_1 + (wrap64 ((Int.tmod (wrap64 (bt a0 x9_1)) 128) * x8_1)))) t115 _ A16.out).mono ?_
              rintro e w22 ⟨rfl, hb⟩
              refine ⟨_, rfl, ?_⟩
              replace HB := Aside0.mk (below_step (bw_q HB) hb)
              (try clear hb)
              (try clear hb2)
              (try clear hk)
              (try clear hi)
              refine hK.out _ _ trivial (fun hHeld => ?_)
              clear hK K
              refine norm_ (a' := ?_) ?_ ?_; rotate_left; (show Act.put _ (some 47) _ = _; simp only [Act.put, List.setIfInBounds_toArray, List.set_cons_zero, List.set_cons_succ, i64_w, i32_w]; rfl)
              refine pq_ 10 53 (bL 12 2047) HT_.out rfl rfl ?_
              refine pq_ 11 54 (bL 12 4095) HT_.out rfl rfl ?_
              have H := HZ21.out
              clear HZ21
              by_cases c20 : t115.toList = (a0.extract (a1 : Int).toNat ((wrap64 (x9_1 + 1)) : Int).toNat).toList
              ·rw [if_pos c20] at H
               have c20b0 : (t115.toList == (a0.extract (a1 : Int).toNat ((wrap64 (x9_1 + 1)) : Int).toNat).toList) = true := beq_iff_eq.mpr c20
               have c20b1 : (t115.toList != (a0.extract (a1 : Int).toNat ((wrap64 (x9_1 + 1)) : Int).toNat).toList) = false := bne_eq_false_iff_eq.mpr c20
               (first | rw [c20b0] | rw [c20b1] | (simp only [i64_w, i32_w]; first | rw [c20b0] | rw [c20b1]) | skip)
               clear c20
               simp only [Option.some.injEq, Prod.mk.injEq] at H
               obtain ⟨rfl, rfl, rfl⟩ := H
               refine done_ (done_of HT_.out (by kernel_rfl)) ?_
               try go_wp2
               go_ret3
               exact ⟨er_q, bw_q HB⟩
              ·rw [if_neg c20] at H
               have c20b0 : (t115.toList == (a0.extract (a1 : Int).toNat ((wrap64 (x9_1 + 1)) : Int).toNat).toList) = false := beq_eq_false_iff_ne.mpr c20
               have c20b1 : (t115.toList != (a0.extract (a1 : Int).toNat ((wrap64 (x9_1 + 1)) : Int).toNat).toList) = true := bne_iff_ne.mpr c20
               (first | rw [c20b0] | rw [c20b1] | (simp only [i64_w, i32_w]; first | rw [c20b0] | rw [c20b1]) | skip)
               simp only [Option.some.injEq, Prod.mk.injEq] at H
               obtain ⟨rfl, rfl, rfl⟩ := H
               refine done_ (done_of HT_.out (by kernel_rfl)) ?_
               try go_wp2
               go_ret3
               exact ⟨er_q, bw_q HB⟩
             ·rw [if_neg c19] at H
              exact absurd H (by simp)
            ·rw [if_neg c18] at H
             exact absurd H (by simp)
           ·rw [if_neg c17] at H
            exact absurd H (by simp)
         ·rw [if_neg c13] at H
          have c13b0 : decide ((bt a0 x9_1) < 128) = false := decide_eq_false c13
          clear c13
          have H' := Aside0.mk H
          clear H
          have p11 : 0 ≤ (x9_1 : Int) := of_decide_eq_true as_q
          have q11 : x9_1 < (a0.size : Int) := of_decide_eq_true as_q
          have hx11 := bt_at a0 x9_1
          replace p11 := eq_true p11
          replace q11 := eq_true q11
          have p12 : 0 ≤ (x9_1 : Int) := of_decide_eq_true as_q
          have q12 : x9_1 < (a0.size : Int) := of_decide_eq_true as_q
          have hx12 := bt_at a0 x9_1
          replace p12 := eq_true p12
          replace q12 := eq_true q12
          go_wp2
          go_roundg kj5
          case measure => have := HK1.out; have := HJ5.out; omega
          case rel => exact ⟨(wrap64 (x7_1 + (wrap64 ((Int.tmod (wrap64 (bt a0 x9_1)) 128) * x8_1)))), (wrap64 (x8_1 * 128)), (wrap64 (x9_1 + 1)), (by first | rfl | (simp; done) | (simp [*]; done)), (by first | rfl | (simp; done) | (simp [*]; done)), (by first | rfl | (simp; done) | (simp [*]; done)), H', ⟨by have := HK1.out; have := HJ5.out; omega⟩, ⟨bw_q HB⟩⟩
        ·rw [if_neg c10] at H
         exact absurd H (by simp)
       ·rw [if_neg c9] at H
        exact absurd H (by simp)
      ·replace c8 := Bool.eq_false_iff.mpr c8
       subst c8
       have H1 : (some (0, 0, false)) = some (r1, r2, r3) := by rw [if_neg (show ¬ (false = true) by decide)] at H; exact H
       clear H
       have H := H1
       clear H1
       simp only [Option.some.injEq, Prod.mk.injEq] at H
       obtain ⟨rfl, rfl, rfl⟩ := H
       go_wp2
       go_ret3
       exact ⟨er_q, bw_q HB⟩
 ·replace c5 := Bool.eq_false_iff.mpr c5
  subst c5
  have H1 : (some (0, 0, false)) = some (r1, r2, r3) := by rw [if_neg (show ¬ (false = true) by decide)] at H; exact H
  clear H
  have H := H1
  clear H1
  simp only [Option.some.injEq, Prod.mk.injEq] at H
  obtain ⟨rfl, rfl, rfl⟩ := H
  go_wp2
  go_ret3
  exact ⟨er_q, bw_q HB⟩

end Go.Proofs.Ytnecbkognpponaa.Q
