import Derived.Test.YthjmdiggglkeaaaXMergeQS
import Derived.Test.YthjmdiggglkeaaaXMergeQlawseqNearS
/- A Go function as a Lean function, and its contract: for every input the Go code comes to what the Lean function tells. -/


namespace Go.Proofs.Ythjmdiggglkeaaa.Q
open Go.RowKit Go.Proofs.YthjmdiggglkeaaaW.PrintWords Go.Proofs.YthjmdiggglkeaaaW.PrintLast Go.Proofs.YthjmdiggglkeaaaW.PrintMore
attribute [local go_sem] max2_int min2_int max_two min_two max_three min_three max_four min_four   -- for this text's walks alone
set_option linter.unusedVariables false
set_option linter.unusedSimpArgs false

/-! ### laws_eqRecord: function 38 -/
def laws_eqRecord.f (k : Nat) (a0_0 : Int) (a0_1 : Int) (a0_2 : Int) (a0_3 : Int) (a0_4 : Int) (l0_5 : List (S127)) (a0_6 : Int) (a0_7 : Bool) (a1_0 : Int) (a1_1 : Int) (a1_2 : Int) (a1_3 : Int) (a1_4 : Int) (l1_5 : List (S127)) (a1_6 : Int) (a1_7 : Bool) : Option (Bool) := if a0_0 = a1_0 then (if a0_1 = a1_1 then (if a0_2 = a1_2 then (if a0_3 = a1_3 then (if a0_4 = a1_4 then ((laws_eqNearS.f k l0_5 l1_5).bind fun t369 => (if t369 = true then (if a0_6 = a1_6 then (if (a0_7 != a1_7) = true then (some false) else (some true)) else (some false)) else (some false))) else (some false)) else (some false)) else (some false)) else (some false)) else (some false)
theorem laws_eqRecord.mono : ∀ a0 a1 a2 a3 a4 a5 a6 a7 a8 a9 a10 a11 a12 a13 a14 a15 k, LeO (laws_eqRecord.f k a0 a1 a2 a3 a4 a5 a6 a7 a8 a9 a10 a11 a12 a13 a14 a15) (laws_eqRecord.f (k + 1) a0 a1 a2 a3 a4 a5 a6 a7 a8 a9 a10 a11 a12 a13 a14 a15) := by
 intro a0 a1 a2 a3 a4 a5 a6 a7 a8 a9 a10 a11 a12 a13 a14 a15 k
 unfold laws_eqRecord.f
 repeat' first
   | (with_reducible exact laws_eqNearS.mono _ _ _)
   | (with_reducible exact LeO.refl _)
   | (with_reducible exact LeO.none _)
   | (with_reducible refine LeO.ite ?_ ?_)
   | (with_reducible refine LeO.bind ?_ (fun _ => ?_))
   | exact laws_eqNearS.mono _ _ _
   | exact LeO.none _
   | refine LeO.ite ?_ ?_
   | refine LeO.bind ?_ (fun _ => ?_)
set_option maxHeartbeats 8000000 in
set_option maxRecDepth 100000 in
theorem laws_eqRecord.calls (k : Nat) (a0_0 : Int) (a0_1 : Int) (a0_2 : Int) (a0_3 : Int) (a0_4 : Int) (A0_5 : Option Addr) (c0_5 : Nat) (l0_5 : List (S127)) (a0_6 : Int) (a0_7 : Bool) (a1_0 : Int) (a1_1 : Int) (a1_2 : Int) (a1_3 : Int) (a1_4 : Int) (A1_5 : Option Addr) (c1_5 : Nat) (l1_5 : List (S127)) (a1_6 : Int) (a1_7 : Bool) (r : Bool) (w : World) (hr0_5 : Kd.C k127 w A0_5 l0_5.length l0_5) (hc0_5 : l0_5.length ≤ c0_5) (hr1_5 : Kd.C k127 w A1_5 l1_5.length l1_5) (hc1_5 : l1_5.length ≤ c1_5) (h : laws_eqRecord.f k a0_0 a0_1 a0_2 a0_3 a0_4 l0_5 a0_6 a0_7 a1_0 a1_1 a1_2 a1_3 a1_4 l1_5 a1_6 a1_7 = some r) :
  Calls Try.prog 38 #[.agg #[.int .i64 a0_0, .int .i64 a0_1, .int .i64 a0_2, .int .i64 a0_3, .int .i64 a0_4, .slice A0_5 l0_5.length c0_5, .int .i64 a0_6, .bool a0_7], .agg #[.int .i64 a1_0, .int .i64 a1_1, .int .i64 a1_2, .int .i64 a1_3, .int .i64 a1_4, .slice A1_5 l1_5.length c1_5, .int .i64 a1_6, .bool a1_7]] w fun e w' => e = .returned (.bool r) ∧ Below w.heap.size w w' := by
 have hu61 := Try.underlying61
 have HR0_5 := Aside0.mk hr0_5
 have HC0_5 := Aside0.mk hc0_5
 clear hr0_5 hc0_5
 have HR1_5 := Aside0.mk hr1_5
 have HC1_5 := Aside0.mk hc1_5
 clear hr1_5 hc1_5
 have HB := Aside0.mk (Below.refl w.heap.size w)
 have H : (if a0_0 = a1_0 then (if a0_1 = a1_1 then (if a0_2 = a1_2 then (if a0_3 = a1_3 then (if a0_4 = a1_4 then ((laws_eqNearS.f k l0_5 l1_5).bind fun t369 => (if t369 = true then (if a0_6 = a1_6 then (if (a0_7 != a1_7) = true then (some false) else (some true)) else (some false)) else (some false))) else (some false)) else (some false)) else (some false)) else (some false)) else (some false)) = some r := h
 clear h
 have HC3 := Aside0.mk H
 clear H
 go_enter Try.func38, Try.ntmps38
 go_upto_if 9 with (first | ((with_reducible refine gate_dst (N := 2) rfl ?_); refine box_event ?hg (N := 2) ?hd (cs := #[.int .i64 a0_0, .int .i64 a0_1, .int .i64 a0_2, .int .i64 a0_3, .int .i64 a0_4, .slice A0_5 l0_5.length c0_5, .int .i64 a0_6, .bool a0_7]) (t := 61) ?hr ?_; (case hd => rfl); (case hg => rfl); (case hr => first | (go_simp; done) | (go_simp; rfl)); intro gb367 hg w4 hbox hb; have n0_ := Aside0.mk (below_step (bw_q HB) hb); have n1_ := Aside0.mk (hbox); have n2_ := Aside0.mk ((by rw [hg]; exact (below_size (bw_q HB)) : w.heap.size ≤ gb367)); have n3_ := Aside0.mk ((by rw [hg]; exact (below_size (bw_q HB)) : w.heap.size ≤ gb367)); clear HB; have HB := n0_; have BK367 := n1_; have GW367 := n2_; have GE367 := n3_; clear n0_ n1_ n2_ n3_; clear hb hbox hg) | ((with_reducible refine gate_dst (N := 3) rfl ?_); refine box_event ?hg (N := 3) ?hd (cs := #[.int .i64 a1_0, .int .i64 a1_1, .int .i64 a1_2, .int .i64 a1_3, .int .i64 a1_4, .slice A1_5 l1_5.length c1_5, .int .i64 a1_6, .bool a1_7]) (t := 61) ?hr ?_; (case hd => rfl); (case hg => rfl); (case hr => first | (go_simp; done) | (go_simp; rfl)); intro gb368 hg w5 hbox hb; have n0_ := Aside0.mk (blk_below (g := gb367) (bk_q BK367) hb); have n1_ := Aside0.mk (below_step (bw_q HB) hb); have n2_ := Aside0.mk (hbox); have n3_ := Aside0.mk ((by rw [hg]; exact (below_size (bw_q HB)) : w.heap.size ≤ gb368)); have n4_ := Aside0.mk ((by rw [hg]; exact (below_size (bw_q HB)) : w.heap.size ≤ gb368)); have n5_ := Aside0.mk ((by rw [hg]; exact Nat.ne_of_lt (blk_lt (g := gb367) (o := .cells #[.int .i64 a0_0, .int .i64 a0_1, .int .i64 a0_2, .int .i64 a0_3, .int .i64 a0_4, .slice A0_5 l0_5.length c0_5, .int .i64 a0_6, .bool a0_7] 61 (0, 0)) (bk_q BK367)) : gb367 ≠ gb368)); have n6_ := Aside0.mk ((by rw [hg]; exact Nat.ne_of_gt (blk_lt (g := gb367) (o := .cells #[.int .i64 a0_0, .int .i64 a0_1, .int .i64 a0_2, .int .i64 a0_3, .int .i64 a0_4, .slice A0_5 l0_5.length c0_5, .int .i64 a0_6, .bool a0_7] 61 (0, 0)) (bk_q BK367)) : gb368 ≠ gb367)); clear BK367; clear HB; have BK367 := n0_; have HB := n1_; have BK368 := n2_; have GW368 := n3_; have GE368 := n4_; have NB367_368 := n5_; have NB368_367 := n6_; clear n0_ n1_ n2_ n3_ n4_ n5_ n6_; clear hb hbox hg; have hnb6 := NB367_368.out; have hnc6 := NB368_367.out; have hcz7_0 : w5.cell? ⟨gb367, 0, none⟩ = some (.int .i64 a0_0) := (blk_cell BK367.out 0).trans rfl; have hcz7_1 : w5.cell? ⟨gb367, 1, none⟩ = some (.int .i64 a0_1) := (blk_cell BK367.out 1).trans rfl; have hcz7_2 : w5.cell? ⟨gb367, 2, none⟩ = some (.int .i64 a0_2) := (blk_cell BK367.out 2).trans rfl; have hcz7_3 : w5.cell? ⟨gb367, 3, none⟩ = some (.int .i64 a0_3) := (blk_cell BK367.out 3).trans rfl; have hcz7_4 : w5.cell? ⟨gb367, 4, none⟩ = some (.int .i64 a0_4) := (blk_cell BK367.out 4).trans rfl; have hcz7_5 : w5.cell? ⟨gb367, 5, none⟩ = some (.slice A0_5 l0_5.length c0_5) := (blk_cell BK367.out 5).trans rfl; have hcz7_6 : w5.cell? ⟨gb367, 6, none⟩ = some (.int .i64 a0_6) := (blk_cell BK367.out 6).trans rfl; have hcz7_7 : w5.cell? ⟨gb367, 7, none⟩ = some (.bool a0_7) := (blk_cell BK367.out 7).trans rfl; have hfz7_0 := blk_frozen BK367.out 0; have hfz7_1 := blk_frozen BK367.out 1; have hfz7_2 := blk_frozen BK367.out 2; have hfz7_3 := blk_frozen BK367.out 3; have hfz7_4 := blk_frozen BK367.out 4; have hfz7_5 := blk_frozen BK367.out 5; have hfz7_6 := blk_frozen BK367.out 6; have hfz7_7 := blk_frozen BK367.out 7; have hcz8_0 : w5.cell? ⟨gb368, 0, none⟩ = some (.int .i64 a1_0) := (blk_cell BK368.out 0).trans rfl; have hcz8_1 : w5.cell? ⟨gb368, 1, none⟩ = some (.int .i64 a1_1) := (blk_cell BK368.out 1).trans rfl; have hcz8_2 : w5.cell? ⟨gb368, 2, none⟩ = some (.int .i64 a1_2) := (blk_cell BK368.out 2).trans rfl; have hcz8_3 : w5.cell? ⟨gb368, 3, none⟩ = some (.int .i64 a1_3) := (blk_cell BK368.out 3).trans rfl; have hcz8_4 : w5.cell? ⟨gb368, 4, none⟩ = some (.int .i64 a1_4) := (blk_cell BK368.out 4).trans rfl; have hcz8_5 : w5.cell? ⟨gb368, 5, none⟩ = some (.slice A1_5 l1_5.length c1_5) := (blk_cell BK368.out 5).trans rfl; have hcz8_6 : w5.cell? ⟨gb368, 6, none⟩ = some (.int .i64 a1_6) := (blk_cell BK368.out 6).trans rfl; have hcz8_7 : w5.cell? ⟨gb368, 7, none⟩ = some (.bool a1_7) := (blk_cell BK368.out 7).trans rfl; have hfz8_0 := blk_frozen BK368.out 0; have hfz8_1 := blk_frozen BK368.out 1; have hfz8_2 := blk_frozen BK368.out 2; have hfz8_3 := blk_frozen BK368.out 3; have hfz8_4 := blk_frozen BK368.out 4; have hfz8_5 := blk_frozen BK368.out 5; have hfz8_6 := blk_frozen BK368.out 6; have hfz8_7 := blk_frozen BK368.out 7))
 have H := HC3.out
 clear HC3
 by_cases c9 : a0_0 = a1_0
 ·rw [if_pos c9] at H
  have c9b0 : (a0_0 == a1_0) = true := beq_iff_eq.mpr c9
  have c9b1 : (a0_0 != a1_0) = false := bne_eq_false_iff_eq.mpr c9
  clear c9
  (first | rw [c9b0] | rw [c9b1] | (simp only [i64_w, i32_w]; first | rw [c9b0] | rw [c9b1]) | skip)
  by_cases c10 : a0_1 = a1_1
  ·rw [if_pos c10] at H
   have c10b0 : (a0_1 == a1_1) = true := beq_iff_eq.mpr c10
   have c10b1 : (a0_1 != a1_1) = false := bne_eq_false_iff_eq.mpr c10
   clear c10
   by_cases c11 : a0_2 = a1_2
   ·rw [if_pos c11] at H
    have c11b0 : (a0_2 == a1_2) = true := beq_iff_eq.mpr c11
    have c11b1 : (a0_2 != a1_2) = false := bne_eq_false_iff_eq.mpr c11
    clear c11
    by_cases c12 : a0_3 = a1_3
    ·rw [if_pos c12] at H
     have c12b0 : (a0_3 == a1_3) = true := beq_iff_eq.mpr c12
     have c12b1 : (a0_3 != a1_3) = false := bne_eq_false_iff_eq.mpr c12
     clear c12
     by_cases c13 : a0_4 = a1_4
     ·rw [if_pos c13] at H
      have c13b0 : (a0_4 == a1_4) = true := beq_iff_eq.mpr c13
      have c13b1 : (a0_4 != a1_4) = false := bne_eq_false_iff_eq.mpr c13
      clear c13
      replace H := Option.bind_eq_some_iff.mp H
      obtain ⟨t369, A140, H⟩ := H
      replace H : (if t369 = true then (if a0_6 = a1_6 then (if (a0_7 != a1_7) = true then (some false) else (some true)) else (some false)) else (some false)) = some r := H
      have A14 := Aside0.mk A140
      clear A140
      have HC15 := Aside0.mk H
      clear H
      have hnb16 := NB367_368.out
      have hnc16 := NB368_367.out
      have hcz17_0 : w5.cell? ⟨gb367, 0, none⟩ = some (.int .i64 a0_0) := (blk_cell BK367.out 0).trans rfl
      have hcz17_1 : w5.cell? ⟨gb367, 1, none⟩ = some (.int .i64 a0_1) := (blk_cell BK367.out 1).trans rfl
      have hcz17_2 : w5.cell? ⟨gb367, 2, none⟩ = some (.int .i64 a0_2) := (blk_cell BK367.out 2).trans rfl
      have hcz17_3 : w5.cell? ⟨gb367, 3, none⟩ = some (.int .i64 a0_3) := (blk_cell BK367.out 3).trans rfl
      have hcz17_4 : w5.cell? ⟨gb367, 4, none⟩ = some (.int .i64 a0_4) := (blk_cell BK367.out 4).trans rfl
      have hcz17_5 : w5.cell? ⟨gb367, 5, none⟩ = some (.slice A0_5 l0_5.length c0_5) := (blk_cell BK367.out 5).trans rfl
      have hcz17_6 : w5.cell? ⟨gb367, 6, none⟩ = some (.int .i64 a0_6) := (blk_cell BK367.out 6).trans rfl
      have hcz17_7 : w5.cell? ⟨gb367, 7, none⟩ = some (.bool a0_7) := (blk_cell BK367.out 7).trans rfl
      have hfz17_0 := blk_frozen BK367.out 0
      have hfz17_1 := blk_frozen BK367.out 1
      have hfz17_2 := blk_frozen BK367.out 2
      have hfz17_3 := blk_frozen BK367.out 3
      have hfz17_4 := blk_frozen BK367.out 4
      have hfz17_5 := blk_frozen BK367.out 5
      have hfz17_6 := blk_frozen BK367.out 6
      have hfz17_7 := blk_frozen BK367.out 7
      have hcz18_0 : w5.cell? ⟨gb368, 0, none⟩ = some (.int .i64 a1_0) := (blk_cell BK368.out 0).trans rfl
      have hcz18_1 : w5.cell? ⟨gb368, 1, none⟩ = some (.int .i64 a1_1) := (blk_cell BK368.out 1).trans rfl
      have hcz18_2 : w5.cell? ⟨gb368, 2, none⟩ = some (.int .i64 a1_2) := (blk_cell BK368.out 2).trans rfl
      have hcz18_3 : w5.cell? ⟨gb368, 3, none⟩ = some (.int .i64 a1_3) := (blk_cell BK368.out 3).trans rfl
      have hcz18_4 : w5.cell? ⟨gb368, 4, none⟩ = some (.int .i64 a1_4) := (blk_cell BK368.out 4).trans rfl
      have hcz18_5 : w5.cell? ⟨gb368, 5, none⟩ = some (.slice A1_5 l1_5.length c1_5) := (blk_cell BK368.out 5).trans rfl
      have hcz18_6 : w5.cell? ⟨gb368, 6, none⟩ = some (.int .i64 a1_6) := (blk_cell BK368.out 6).trans rfl
      have hcz18_7 : w5.cell? ⟨gb368, 7, none⟩ = some (.bool a1_7) := (blk_cell BK368.out 7).trans rfl
      have hfz18_0 := blk_frozen BK368.out 0
      have hfz18_1 := blk_frozen BK368.out 1
      have hfz18_2 := blk_frozen BK368.out 2
      have hfz18_3 := blk_frozen BK368.out 3
      have hfz18_4 := blk_frozen BK368.out 4
      have hfz18_5 := blk_frozen BK368.out 5
      have hfz18_6 := blk_frozen BK368.out 6
      have hfz18_7 := blk_frozen BK368.out 7
      go_upto_if 35 with (first | ((with_reducible refine gate_callee (f := 109) rfl ?_); refine goesL_ (some 34) rfl rfl Try.func109 (by kernel_rfl) rfl #[.slice A0_5 l0_5.length c0_5, .slice A1_5 l1_5.length c1_5] rfl mp_q ?_; (with_reducible refine (laws_eqNearS.calls k _ _ l0_5 _ _ l1_5 t369 _ ?side1 ?side2 ?side3 ?side4 A14.out).mono ?_); (case side1 => exact cs_q (Kd.C_below HR0_5.out HB.out)); (case side2 => exact HC0_5.out); (case side3 => exact cs_q (Kd.C_below HR1_5.out HB.out)); (case side4 => exact HC1_5.out); rintro e w19 ⟨rfl, hb⟩; refine ⟨_, rfl, ?_⟩; have n0_ := Aside0.mk (blk_below (g := gb367) (bk_q BK367) hb); have n1_ := Aside0.mk (blk_below (g := gb368) (bk_q BK368) hb); have n2_ := Aside0.mk (below_step (bw_q HB) hb); clear BK367; clear BK368; clear HB; have BK367 := n0_; have BK368 := n1_; have HB := n2_; clear n0_ n1_ n2_; (try clear hb); (try clear hb2); (try clear hk); (try clear hi)))
      have H := HC15.out
      clear HC15
      by_cases c20 : t369 = true
      ·subst c20
       have H1 : (if a0_6 = a1_6 then (if (a0_7 != a1_7) = true then (some false) else (some true)) else (some false)) = some r := by rw [if_pos rfl] at H; exact H
       clear H
       have H := H1
       clear H1
       by_cases c21 : a0_6 = a1_6
       ·rw [if_pos c21] at H
        have c21b0 : (a0_6 == a1_6) = true := beq_iff_eq.mpr c21
        have c21b1 : (a0_6 != a1_6) = false := bne_eq_false_iff_eq.mpr c21
        clear c21
        (first | rw [c21b0] | rw [c21b1] | (simp only [i64_w, i32_w]; first | rw [c21b0] | rw [c21b1]) | skip)
        by_cases c22 : (a0_7 != a1_7) = true
        ·rw [if_pos c22] at H
         have c22b0 : (a0_7 != a1_7) = true := c22
         (try (have c22b1 : decide (a0_7 = a1_7) = false := by simpa using c22))
         (try (have c22b2 : (a0_7 == a1_7) = false := by simpa using c22))
         (try (have c22b3 : ¬ (a0_7 = a1_7) := by simpa using c22))
         clear c22
         obtain rfl := Option.some.inj H
         have hnb23 := NB367_368.out
         have hnc23 := NB368_367.out
         have hcz24_0 : w19.cell? ⟨gb367, 0, none⟩ = some (.int .i64 a0_0) := (blk_cell BK367.out 0).trans rfl
         have hcz24_1 : w19.cell? ⟨gb367, 1, none⟩ = some (.int .i64 a0_1) := (blk_cell BK367.out 1).trans rfl
         have hcz24_2 : w19.cell? ⟨gb367, 2, none⟩ = some (.int .i64 a0_2) := (blk_cell BK367.out 2).trans rfl
         have hcz24_3 : w19.cell? ⟨gb367, 3, none⟩ = some (.int .i64 a0_3) := (blk_cell BK367.out 3).trans rfl
         have hcz24_4 : w19.cell? ⟨gb367, 4, none⟩ = some (.int .i64 a0_4) := (blk_cell BK367.out 4).trans rfl
         have hcz24_5 : w19.cell? ⟨gb367, 5, none⟩ = some (.slice A0_5 l0_5.length c0_5) := (blk_cell BK367.out 5).trans rfl
         have hcz24_6 : w19.cell? ⟨gb367, 6, none⟩ = some (.int .i64 a0_6) := (blk_cell BK367.out 6).trans rfl
         have hcz24_7 : w19.cell? ⟨gb367, 7, none⟩ = some (.bool a0_7) := (blk_cell BK367.out 7).trans rfl
         have hfz24_0 := blk_frozen BK367.out 0
         have hfz24_1 := blk_frozen BK367.out 1
         have hfz24_2 := blk_frozen BK367.out 2
         have hfz24_3 := blk_frozen BK367.out 3
         have hfz24_4 := blk_frozen BK367.out 4
         have hfz24_5 := blk_frozen BK367.out 5
         have hfz24_6 := blk_frozen BK367.out 6
         have hfz24_7 := blk_frozen BK367.out 7
         have hcz25_0 : w19.cell? ⟨gb368, 0, none⟩ = some (.int .i64 a1_0) := (blk_cell BK368.out 0).trans rfl
         have hcz25_1 : w19.cell? ⟨gb368, 1, none⟩ = some (.int .i64 a1_1) := (blk_cell BK368.out 1).trans rfl
         have hcz25_2 : w19.cell? ⟨gb368, 2, none⟩ = some (.int .i64 a1_2) := (blk_cell BK368.out 2).trans rfl
         have hcz25_3 : w19.cell? ⟨gb368, 3, none⟩ = some (.int .i64 a1_3) := (blk_cell BK368.out 3).trans rfl
         have hcz25_4 : w19.cell? ⟨gb368, 4, none⟩ = some (.int .i64 a1_4) := (blk_cell BK368.out 4).trans rfl
         have hcz25_5 : w19.cell? ⟨gb368, 5, none⟩ = some (.slice A1_5 l1_5.length c1_5) := (blk_cell BK368.out 5).trans rfl
         have hcz25_6 : w19.cell? ⟨gb368, 6, none⟩ = some (.int .i64 a1_6) := (blk_cell BK368.out 6).trans rfl
         have hcz25_7 : w19.cell? ⟨gb368, 7, none⟩ = some (.bool a1_7) := (blk_cell BK368.out 7).trans rfl
         have hfz25_0 := blk_frozen BK368.out 0
         have hfz25_1 := blk_frozen BK368.out 1
         have hfz25_2 := blk_frozen BK368.out 2
         have hfz25_3 := blk_frozen BK368.out 3
         have hfz25_4 := blk_frozen BK368.out 4
         have hfz25_5 := blk_frozen BK368.out 5
         have hfz25_6 := blk_frozen BK368.out 6
         have hfz25_7 := blk_frozen BK368.out 7
         go_wp2
         go_ret
         exact ⟨er_q, bw_q HB⟩
        ·rw [if_neg c22] at H
         have c22b0 : (a0_7 != a1_7) = false := by simpa using c22
         (try (have c22b1 : decide (a0_7 = a1_7) = true := by simpa using c22))
         (try (have c22b2 : (a0_7 == a1_7) = true := by simpa using c22))
         clear c22
         obtain rfl := Option.some.inj H
         have hnb26 := NB367_368.out
         have hnc26 := NB368_367.out
         have hcz27_0 : w19.cell? ⟨gb367, 0, none⟩ = some (.int .i64 a0_0) := (blk_cell BK367.out 0).trans rfl
         have hcz27_1 : w19.cell? ⟨gb367, 1, none⟩ = some (.int .i64 a0_1) := (blk_cell BK367.out 1).trans rfl
         have hcz27_2 : w19.cell? ⟨gb367, 2, none⟩ = some (.int .i64 a0_2) := (blk_cell BK367.out 2).trans rfl
         have hcz27_3 : w19.cell? ⟨gb367, 3, none⟩ = some (.int .i64 a0_3) := (blk_cell BK367.out 3).trans rfl
         have hcz27_4 : w19.cell? ⟨gb367, 4, none⟩ = some (.int .i64 a0_4) := (blk_cell BK367.out 4).trans rfl
         have hcz27_5 : w19.cell? ⟨gb367, 5, none⟩ = some (.slice A0_5 l0_5.length c0_5) := (blk_cell BK367.out 5).trans rfl
         have hcz27_6 : w19.cell? ⟨gb367, 6, none⟩ = some (.int .i64 a0_6) := (blk_cell BK367.out 6).trans rfl
         have hcz27_7 : w19.cell? ⟨gb367, 7, none⟩ = some (.bool a0_7) := (blk_cell BK367.out 7).trans rfl
         have hfz27_0 := blk_frozen BK367.out 0
         have hfz27_1 := blk_frozen BK367.out 1
         have hfz27_2 := blk_frozen BK367.out 2
         have hfz27_3 := blk_frozen BK367.out 3
         have hfz27_4 := blk_frozen BK367.out 4
         have hfz27_5 := blk_frozen BK367.out 5
         have hfz27_6 := blk_frozen BK367.out 6
         have hfz27_7 := blk_frozen BK367.out 7
         have hcz28_0 : w19.cell? ⟨gb368, 0, none⟩ = some (.int .i64 a1_0) := (blk_cell BK368.out 0).trans rfl
         have hcz28_1 : w19.cell? ⟨gb368, 1, none⟩ = some (.int .i64 a1_1) := (blk_cell BK368.out 1).trans rfl
         have hcz28_2 : w19.cell? ⟨gb368, 2, none⟩ = some (.int .i64 a1_2) := (blk_cell BK368.out 2).trans rfl
         have hcz28_3 : w19.cell? ⟨gb368, 3, none⟩ = some (.int .i64 a1_3) := (blk_cell BK368.out 3).trans rfl
         have hcz28_4 : w19.cell? ⟨gb368, 4, none⟩ = some (.int .i64 a1_4) := (blk_cell BK368.out 4).trans rfl
         have hcz28_5 : w19.cell? ⟨gb368, 5, none⟩ = some (.slice A1_5 l1_5.length c1_5) := (blk_cell BK368.out 5).trans rfl
         have hcz28_6 : w19.cell? ⟨gb368, 6, none⟩ = some (.int .i64 a1_6) := (blk_cell BK368.out 6).trans rfl
         have hcz28_7 : w19.cell? ⟨gb368, 7, none⟩ = some (.bool a1_7) := (blk_cell BK368.out 7).trans rfl
         have hfz28_0 := blk_frozen BK368.out 0
         have hfz28_1 := blk_frozen BK368.out 1
         have hfz28_2 := blk_frozen BK368.out 2
         have hfz28_3 := blk_frozen BK368.out 3
         have hfz28_4 := blk_frozen BK368.out 4
         have hfz28_5 := blk_frozen BK368.out 5
         have hfz28_6 := blk_frozen BK368.out 6
         have hfz28_7 := blk_frozen BK368.out 7
         go_wp2
         go_ret
         exact ⟨er_q, bw_q HB⟩
       ·rw [if_neg c21] at H
        have c21b0 : (a0_6 == a1_6) = false := beq_eq_false_iff_ne.mpr c21
        have c21b1 : (a0_6 != a1_6) = true := bne_iff_ne.mpr c21
        (first | rw [c21b0] | rw [c21b1] | (simp only [i64_w, i32_w]; first | rw [c21b0] | rw [c21b1]) | skip)
        obtain rfl := Option.some.inj H
        have hnb29 := NB367_368.out
        have hnc29 := NB368_367.out
        have hcz30_0 : w19.cell? ⟨gb367, 0, none⟩ = some (.int .i64 a0_0) := (blk_cell BK367.out 0).trans rfl
        have hcz30_1 : w19.cell? ⟨gb367, 1, none⟩ = some (.int .i64 a0_1) := (blk_cell BK367.out 1).trans rfl
        have hcz30_2 : w19.cell? ⟨gb367, 2, none⟩ = some (.int .i64 a0_2) := (blk_cell BK367.out 2).trans rfl
        have hcz30_3 : w19.cell? ⟨gb367, 3, none⟩ = some (.int .i64 a0_3) := (blk_cell BK367.out 3).trans rfl
        have hcz30_4 : w19.cell? ⟨gb367, 4, none⟩ = some (.int .i64 a0_4) := (blk_cell BK367.out 4).trans rfl
        have hcz30_5 : w19.cell? ⟨gb367, 5, none⟩ = some (.slice A0_5 l0_5.length c0_5) := (blk_cell BK367.out 5).trans rfl
        have hcz30_6 : w19.cell? ⟨gb367, 6, none⟩ = some (.int .i64 a0_6) := (blk_cell BK367.out 6).trans rfl
        have hcz30_7 : w19.cell? ⟨gb367, 7, none⟩ = some (.bool a0_7) := (blk_cell BK367.out 7).trans rfl
        have hfz30_0 := blk_frozen BK367.out 0
        have hfz30_1 := blk_frozen BK367.out 1
        have hfz30_2 := blk_frozen BK367.out 2
        have hfz30_3 := blk_frozen BK367.out 3
        have hfz30_4 := blk_frozen BK367.out 4
        have hfz30_5 := blk_frozen BK367.out 5
        have hfz30_6 := blk_frozen BK367.out 6
        have hfz30_7 := blk_frozen BK367.out 7
        have hcz31_0 : w19.cell? ⟨gb368, 0, none⟩ = some (.int .i64 a1_0) := (blk_cell BK368.out 0).trans rfl
        have hcz31_1 : w19.cell? ⟨gb368, 1, none⟩ = some (.int .i64 a1_1) := (blk_cell BK368.out 1).trans rfl
        have hcz31_2 : w19.cell? ⟨gb368, 2, none⟩ = some (.int .i64 a1_2) := (blk_cell BK368.out 2).trans rfl
        have hcz31_3 : w19.cell? ⟨gb368, 3, none⟩ = some (.int .i64 a1_3) := (blk_cell BK368.out 3).trans rfl
        have hcz31_4 : w19.cell? ⟨gb368, 4, none⟩ = some (.int .i64 a1_4) := (blk_cell BK368.out 4).trans rfl
        have hcz31_5 : w19.cell? ⟨gb368, 5, none⟩ = some (.slice A1_5 l1_5.length c1_5) := (blk_cell BK368.out 5).trans rfl
        have hcz31_6 : w19.cell? ⟨gb368, 6, none⟩ = some (.int .i64 a1_6) := (blk_cell BK368.out 6).trans rfl
        have hcz31_7 : w19.cell? ⟨gb368, 7, none⟩ = some (.bool a1_7) := (blk_cell BK368.out 7).trans rfl
        have hfz31_0 := blk_frozen BK368.out 0
        have hfz31_1 := blk_frozen BK368.out 1
        have hfz31_2 := blk_frozen BK368.out 2
        have hfz31_3 := blk_frozen BK368.out 3
        have hfz31_4 := blk_frozen BK368.out 4
        have hfz31_5 := blk_frozen BK368.out 5
        have hfz31_6 := blk_frozen BK368.out 6
        have hfz31_7 := blk_frozen BK368.out 7
        go_wp2
        go_ret
        exact ⟨er_q, bw_q HB⟩
      ·replace c20 := Bool.eq_false_iff.mpr c20
       subst c20
       have H1 : (some false) = some r := by rw [if_neg (show ¬ (false = true) by decide)] at H; exact H
       clear H
       have H := H1
       clear H1
       obtain rfl := Option.some.inj H
       go_wp2
       go_ret
       exact ⟨er_q, bw_q HB⟩
     ·rw [if_neg c13] at H
      have c13b0 : (a0_4 == a1_4) = false := beq_eq_false_iff_ne.mpr c13
      have c13b1 : (a0_4 != a1_4) = true := bne_iff_ne.mpr c13
      obtain rfl := Option.some.inj H
      have hnb32 := NB367_368.out
      have hnc32 := NB368_367.out
      have hcz33_0 : w5.cell? ⟨gb367, 0, none⟩ = some (.int .i64 a0_0) := (blk_cell BK367.out 0).trans rfl
      have hcz33_1 : w5.cell? ⟨gb367, 1, none⟩ = some (.int .i64 a0_1) := (blk_cell BK367.out 1).trans rfl
      have hcz33_2 : w5.cell? ⟨gb367, 2, none⟩ = some (.int .i64 a0_2) := (blk_cell BK367.out 2).trans rfl
      have hcz33_3 : w5.cell? ⟨gb367, 3, none⟩ = some (.int .i64 a0_3) := (blk_cell BK367.out 3).trans rfl
      have hcz33_4 : w5.cell? ⟨gb367, 4, none⟩ = some (.int .i64 a0_4) := (blk_cell BK367.out 4).trans rfl
      have hcz33_5 : w5.cell? ⟨gb367, 5, none⟩ = some (.slice A0_5 l0_5.length c0_5) := (blk_cell BK367.out 5).trans rfl
      have hcz33_6 : w5.cell? ⟨gb367, 6, none⟩ = some (.int .i64 a0_6) := (blk_cell BK367.out 6).trans rfl
      have hcz33_7 : w5.cell? ⟨gb367, 7, none⟩ = some (.bool a0_7) := (blk_cell BK367.out 7).trans rfl
      have hfz33_0 := blk_frozen BK367.out 0
      have hfz33_1 := blk_frozen BK367.out 1
      have hfz33_2 := blk_frozen BK367.out 2
      have hfz33_3 := blk_frozen BK367.out 3
      have hfz33_4 := blk_frozen BK367.out 4
      have hfz33_5 := blk_frozen BK367.out 5
      have hfz33_6 := blk_frozen BK367.out 6
      have hfz33_7 := blk_frozen BK367.out 7
      have hcz34_0 : w5.cell? ⟨gb368, 0, none⟩ = some (.int .i64 a1_0) := (blk_cell BK368.out 0).trans rfl
      have hcz34_1 : w5.cell? ⟨gb368, 1, none⟩ = some (.int .i64 a1_1) := (blk_cell BK368.out 1).trans rfl
      have hcz34_2 : w5.cell? ⟨gb368, 2, none⟩ = some (.int .i64 a1_2) := (blk_cell BK368.out 2).trans rfl
      have hcz34_3 : w5.cell? ⟨gb368, 3, none⟩ = some (.int .i64 a1_3) := (blk_cell BK368.out 3).trans rfl
      have hcz34_4 : w5.cell? ⟨gb368, 4, none⟩ = some (.int .i64 a1_4) := (blk_cell BK368.out 4).trans rfl
      have hcz34_5 : w5.cell? ⟨gb368, 5, none⟩ = some (.slice A1_5 l1_5.length c1_5) := (blk_cell BK368.out 5).trans rfl
      have hcz34_6 : w5.cell? ⟨gb368, 6, none⟩ = some (.int .i64 a1_6) := (blk_cell BK368.out 6).trans rfl
      have hcz34_7 : w5.cell? ⟨gb368, 7, none⟩ = some (.bool a1_7) := (blk_cell BK368.out 7).trans rfl
      have hfz34_0 := blk_frozen BK368.out 0
      have hfz34_1 := blk_frozen BK368.out 1
      have hfz34_2 := blk_frozen BK368.out 2
      have hfz34_3 := blk_frozen BK368.out 3
      have hfz34_4 := blk_frozen BK368.out 4
      have hfz34_5 := blk_frozen BK368.out 5
      have hfz34_6 := blk_frozen BK368.out 6
      have hfz34_7 := blk_frozen BK368.out 7
      go_wp2
      go_ret
      exact ⟨er_q, bw_q HB⟩
    ·rw [if_neg c12] at H
     have c12b0 : (a0_3 == a1_3) = false := beq_eq_false_iff_ne.mpr c12
     have c12b1 : (a0_3 != a1_3) = true := bne_iff_ne.mpr c12
     obtain rfl := Option.some.inj H
     have hnb35 := NB367_368.out
     have hnc35 := NB368_367.out
     have hcz36_0 : w5.cell? ⟨gb367, 0, none⟩ = some (.int .i64 a0_0) := (blk_cell BK367.out 0).trans rfl
     have hcz36_1 : w5.cell? ⟨gb367, 1, none⟩ = some (.int .i64 a0_1) := (blk_cell BK367.out 1).trans rfl
     have hcz36_2 : w5.cell? ⟨gb367, 2, none⟩ = some (.int .i64 a0_2) := (blk_cell BK367.out 2).trans rfl
     have hcz36_3 : w5.cell? ⟨gb367, 3, none⟩ = some (.int .i64 a0_3) := (blk_cell BK367.out 3).trans rfl
     have hcz36_4 : w5.cell? ⟨gb367, 4, none⟩ = some (.int .i64 a0_4) := (blk_cell BK367.out 4).trans rfl
     have hcz36_5 : w5.cell? ⟨gb367, 5, none⟩ = some (.slice A0_5 l0_5.length c0_5) := (blk_cell BK367.out 5).trans rfl
     have hcz36_6 : w5.cell? ⟨gb367, 6, none⟩ = some (.int .i64 a0_6) := (blk_cell BK367.out 6).trans rfl
     have hcz36_7 : w5.cell? ⟨gb367, 7, none⟩ = some (.bool a0_7) := (blk_cell BK367.out 7).trans rfl
     have hfz36_0 := blk_frozen BK367.out 0
     have hfz36_1 := blk_frozen BK367.out 1
     have hfz36_2 := blk_frozen BK367.out 2
     have hfz36_3 := blk_frozen BK367.out 3
     have hfz36_4 := blk_frozen BK367.out 4
     have hfz36_5 := blk_frozen BK367.out 5
     have hfz36_6 := blk_frozen BK367.out 6
     have hfz36_7 := blk_frozen BK367.out 7
     have hcz37_0 : w5.cell? ⟨gb368, 0, none⟩ = some (.int .i64 a1_0) := (blk_cell BK368.out 0).trans rfl
     have hcz37_1 : w5.cell? ⟨gb368, 1, none⟩ = some (.int .i64 a1_1) := (blk_cell BK368.out 1).trans rfl
     have hcz37_2 : w5.cell? ⟨gb368, 2, none⟩ = some (.int .i64 a1_2) := (blk_cell BK368.out 2).trans rfl
     have hcz37_3 : w5.cell? ⟨gb368, 3, none⟩ = some (.int .i64 a1_3) := (blk_cell BK368.out 3).trans rfl
     have hcz37_4 : w5.cell? ⟨gb368, 4, none⟩ = some (.int .i64 a1_4) := (blk_cell BK368.out 4).trans rfl
     have hcz37_5 : w5.cell? ⟨gb368, 5, none⟩ = some (.slice A1_5 l1_5.length c1_5) := (blk_cell BK368.out 5).trans rfl
     have hcz37_6 : w5.cell? ⟨gb368, 6, none⟩ = some (.int .i64 a1_6) := (blk_cell BK368.out 6).trans rfl
     have hcz37_7 : w5.cell? ⟨gb368, 7, none⟩ = some (.bool a1_7) := (blk_cell BK368.out 7).trans rfl
     have hfz37_0 := blk_frozen BK368.out 0
     have hfz37_1 := blk_frozen BK368.out 1
     have hfz37_2 := blk_frozen BK368.out 2
     have hfz37_3 := blk_frozen BK368.out 3
     have hfz37_4 := blk_frozen BK368.out 4
     have hfz37_5 := blk_frozen BK368.out 5
     have hfz37_6 := blk_frozen BK368.out 6
     have hfz37_7 := blk_frozen BK368.out 7
     go_wp2
     go_ret
     exact ⟨er_q, bw_q HB⟩
   ·rw [if_neg c11] at H
    have c11b0 : (a0_2 == a1_2) = false := beq_eq_false_iff_ne.mpr c11
    have c11b1 : (a0_2 != a1_2) = true := bne_iff_ne.mpr c11
    obtain rfl := Option.some.inj H
    have hnb38 := NB367_368.out
    have hnc38 := NB368_367.out
    have hcz39_0 : w5.cell? ⟨gb367, 0, none⟩ = some (.int .i64 a0_0) := (blk_cell BK367.out 0).trans rfl
    have hcz39_1 : w5.cell? ⟨gb367, 1, none⟩ = some (.int .i64 a0_1) := (blk_cell BK367.out 1).trans rfl
    have hcz39_2 : w5.cell? ⟨gb367, 2, none⟩ = some (.int .i64 a0_2) := (blk_cell BK367.out 2).trans rfl
    have hcz39_3 : w5.cell? ⟨gb367, 3, none⟩ = some (.int .i64 a0_3) := (blk_cell BK367.out 3).trans rfl
    have hcz39_4 : w5.cell? ⟨gb367, 4, none⟩ = some (.int .i64 a0_4) := (blk_cell BK367.out 4).trans rfl
    have hcz39_5 : w5.cell? ⟨gb367, 5, none⟩ = some (.slice A0_5 l0_5.length c0_5) := (blk_cell BK367.out 5).trans rfl
    have hcz39_6 : w5.cell? ⟨gb367, 6, none⟩ = some (.int .i64 a0_6) := (blk_cell BK367.out 6).trans rfl
    have hcz39_7 : w5.cell? ⟨gb367, 7, none⟩ = some (.bool a0_7) := (blk_cell BK367.out 7).trans rfl
    have hfz39_0 := blk_frozen BK367.out 0
    have hfz39_1 := blk_frozen BK367.out 1
    have hfz39_2 := blk_frozen BK367.out 2
    have hfz39_3 := blk_frozen BK367.out 3
    have hfz39_4 := blk_frozen BK367.out 4
    have hfz39_5 := blk_frozen BK367.out 5
    have hfz39_6 := blk_frozen BK367.out 6
    have hfz39_7 := blk_frozen BK367.out 7
    have hcz40_0 : w5.cell? ⟨gb368, 0, none⟩ = some (.int .i64 a1_0) := (blk_cell BK368.out 0).trans rfl
    have hcz40_1 : w5.cell? ⟨gb368, 1, none⟩ = some (.int .i64 a1_1) := (blk_cell BK368.out 1).trans rfl
    have hcz40_2 : w5.cell? ⟨gb368, 2, none⟩ = some (.int .i64 a1_2) := (blk_cell BK368.out 2).trans rfl
    have hcz40_3 : w5.cell? ⟨gb368, 3, none⟩ = some (.int .i64 a1_3) := (blk_cell BK368.out 3).trans rfl
    have hcz40_4 : w5.cell? ⟨gb368, 4, none⟩ = some (.int .i64 a1_4) := (blk_cell BK368.out 4).trans rfl
    have hcz40_5 : w5.cell? ⟨gb368, 5, none⟩ = some (.slice A1_5 l1_5.length c1_5) := (blk_cell BK368.out 5).trans rfl
    have hcz40_6 : w5.cell? ⟨gb368, 6, none⟩ = some (.int .i64 a1_6) := (blk_cell BK368.out 6).trans rfl
    have hcz40_7 : w5.cell? ⟨gb368, 7, none⟩ = some (.bool a1_7) := (blk_cell BK368.out 7).trans rfl
    have hfz40_0 := blk_frozen BK368.out 0
    have hfz40_1 := blk_frozen BK368.out 1
    have hfz40_2 := blk_frozen BK368.out 2
    have hfz40_3 := blk_frozen BK368.out 3
    have hfz40_4 := blk_frozen BK368.out 4
    have hfz40_5 := blk_frozen BK368.out 5
    have hfz40_6 := blk_frozen BK368.out 6
    have hfz40_7 := blk_frozen BK368.out 7
    go_wp2
    go_ret
    exact ⟨er_q, bw_q HB⟩
  ·rw [if_neg c10] at H
   have c10b0 : (a0_1 == a1_1) = false := beq_eq_false_iff_ne.mpr c10
   have c10b1 : (a0_1 != a1_1) = true := bne_iff_ne.mpr c10
   obtain rfl := Option.some.inj H
   have hnb41 := NB367_368.out
   have hnc41 := NB368_367.out
   have hcz42_0 : w5.cell? ⟨gb367, 0, none⟩ = some (.int .i64 a0_0) := (blk_cell BK367.out 0).trans rfl
   have hcz42_1 : w5.cell? ⟨gb367, 1, none⟩ = some (.int .i64 a0_1) := (blk_cell BK367.out 1).trans rfl
   have hcz42_2 : w5.cell? ⟨gb367, 2, none⟩ = some (.int .i64 a0_2) := (blk_cell BK367.out 2).trans rfl
   have hcz42_3 : w5.cell? ⟨gb367, 3, none⟩ = some (.int .i64 a0_3) := (blk_cell BK367.out 3).trans rfl
   have hcz42_4 : w5.cell? ⟨gb367, 4, none⟩ = some (.int .i64 a0_4) := (blk_cell BK367.out 4).trans rfl
   have hcz42_5 : w5.cell? ⟨gb367, 5, none⟩ = some (.slice A0_5 l0_5.length c0_5) := (blk_cell BK367.out 5).trans rfl
   have hcz42_6 : w5.cell? ⟨gb367, 6, none⟩ = some (.int .i64 a0_6) := (blk_cell BK367.out 6).trans rfl
   have hcz42_7 : w5.cell? ⟨gb367, 7, none⟩ = some (.bool a0_7) := (blk_cell BK367.out 7).trans rfl
   have hfz42_0 := blk_frozen BK367.out 0
   have hfz42_1 := blk_frozen BK367.out 1
   have hfz42_2 := blk_frozen BK367.out 2
   have hfz42_3 := blk_frozen BK367.out 3
   have hfz42_4 := blk_frozen BK367.out 4
   have hfz42_5 := blk_frozen BK367.out 5
   have hfz42_6 := blk_frozen BK367.out 6
   have hfz42_7 := blk_frozen BK367.out 7
   have hcz43_0 : w5.cell? ⟨gb368, 0, none⟩ = some (.int .i64 a1_0) := (blk_cell BK368.out 0).trans rfl
   have hcz43_1 : w5.cell? ⟨gb368, 1, none⟩ = some (.int .i64 a1_1) := (blk_cell BK368.out 1).trans rfl
   have hcz43_2 : w5.cell? ⟨gb368, 2, none⟩ = some (.int .i64 a1_2) := (blk_cell BK368.out 2).trans rfl
   have hcz43_3 : w5.cell? ⟨gb368, 3, none⟩ = some (.int .i64 a1_3) := (blk_cell BK368.out 3).trans rfl
   have hcz43_4 : w5.cell? ⟨gb368, 4, none⟩ = some (.int .i64 a1_4) := (blk_cell BK368.out 4).trans rfl
   have hcz43_5 : w5.cell? ⟨gb368, 5, none⟩ = some (.slice A1_5 l1_5.length c1_5) := (blk_cell BK368.out 5).trans rfl
   have hcz43_6 : w5.cell? ⟨gb368, 6, none⟩ = some (.int .i64 a1_6) := (blk_cell BK368.out 6).trans rfl
   have hcz43_7 : w5.cell? ⟨gb368, 7, none⟩ = some (.bool a1_7) := (blk_cell BK368.out 7).trans rfl
   have hfz43_0 := blk_frozen BK368.out 0
   have hfz43_1 := blk_frozen BK368.out 1
   have hfz43_2 := blk_frozen BK368.out 2
   have hfz43_3 := blk_frozen BK368.out 3
   have hfz43_4 := blk_frozen BK368.out 4
   have hfz43_5 := blk_frozen BK368.out 5
   have hfz43_6 := blk_frozen BK368.out 6
   have hfz43_7 := blk_frozen BK368.out 7
   go_wp2
   go_ret
   exact ⟨er_q, bw_q HB⟩
 ·rw [if_neg c9] at H
  have c9b0 : (a0_0 == a1_0) = false := beq_eq_false_iff_ne.mpr c9
  have c9b1 : (a0_0 != a1_0) = true := bne_iff_ne.mpr c9
  (first | rw [c9b0] | rw [c9b1] | (simp only [i64_w, i32_w]; first | rw [c9b0] | rw [c9b1]) | skip)
  obtain rfl := Option.some.inj H
  go_wp2
  go_ret
  exact ⟨er_q, bw_q HB⟩

end Go.Proofs.Ythjmdiggglkeaaa.Q
