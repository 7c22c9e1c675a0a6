import Derived.Test.YthjmdiggglkeaaaXSelfOkQspecl01In
/- A Go function as a Lean function, and its contract: for every input the Go code comes to what the Lean function tells. -/

namespace Go.Proofs.Ythjmdiggglkeaaa.Q
open Go.RowKit Go.Proofs.YthjmdiggglkeaaaW.PrintWords Go.Proofs.YthjmdiggglkeaaaW.PrintLast Go.Proofs.YthjmdiggglkeaaaW.PrintMore
attribute [local go_sem] max2_int min2_int max_two min_two max_three min_three max_four min_four   -- for this text's walks alone
set_option linter.unusedVariables false
set_option linter.unusedSimpArgs false

/-! ### spec_CostTo: function 130 -/
def spec_CostTo.l0 : Nat → Int → Int → Int → Int → Int → List (S93) → List (S102) → Option (Int)
 | 0, _, _, _, _, _, _, _ => none
 | k + 1, x1, x2, x3, x9, x234000, x234001, x234002 => if x9 < (x234001.length : Int) then (if 0 ≤ x9 then (if ((rd_T93 x234001 x9).f3) = x3 then (if ((rd_T93 x234001 x9).f0) = x1 then (if ((rd_T93 x234001 x9).f1) = x2 then (some ((rd_T93 x234001 x9).f2)) else (if ((rd_T93 x234001 x9).f0) = x2 then (if ((rd_T93 x234001 x9).f1) = x1 then (some ((rd_T93 x234001 x9).f2)) else (spec_CostTo.l0 k x1 x2 x3 (wrap64 (x9 + 1)) x234000 x234001 x234002)) else (spec_CostTo.l0 k x1 x2 x3 (wrap64 (x9 + 1)) x234000 x234001 x234002))) else (if ((rd_T93 x234001 x9).f0) = x2 then (if ((rd_T93 x234001 x9).f1) = x1 then (some ((rd_T93 x234001 x9).f2)) else (spec_CostTo.l0 k x1 x2 x3 (wrap64 (x9 + 1)) x234000 x234001 x234002)) else (spec_CostTo.l0 k x1 x2 x3 (wrap64 (x9 + 1)) x234000 x234001 x234002))) else (spec_CostTo.l0 k x1 x2 x3 (wrap64 (x9 + 1)) x234000 x234001 x234002)) else (none)) else (some 0)
def spec_CostTo.f (k : Nat) (a0_0 : Int) (l0_1 : List (S93)) (l0_2 : List (S102)) (a1 : Int) (a2 : Int) (a3 : Int) : Option (Int) := spec_CostTo.l0 k a1 a2 a3 0 a0_0 l0_1 l0_2
theorem spec_CostTo.mono_l : ∀ k, (∀ y0 y1 y2 y3 y4 y5 y6, LeO (spec_CostTo.l0 k y0 y1 y2 y3 y4 y5 y6) (spec_CostTo.l0 (k + 1) y0 y1 y2 y3 y4 y5 y6))
 | 0 => fun _ _ _ _ _ _ _ r h => by simp [spec_CostTo.l0] at h
 | k + 1 => by
  have ih0 := spec_CostTo.mono_l k
  ·intro y0 y1 y2 y3 y4 y5 y6
   unfold spec_CostTo.l0
   repeat' first
   | (with_reducible exact ih0 _ _ _ _ _ _ _)
   | (with_reducible exact LeO.refl _)
   | (with_reducible exact LeO.none _)
   | (with_reducible refine LeO.ite ?_ ?_)
   | (with_reducible refine LeO.bind ?_ (fun _ => ?_))
   | exact ih0 _ _ _ _ _ _ _
   | exact LeO.none _
   | refine LeO.ite ?_ ?_
   | refine LeO.bind ?_ (fun _ => ?_)
theorem spec_CostTo.mono : ∀ a0 a1 a2 a3 a4 a5 k, LeO (spec_CostTo.f k a0 a1 a2 a3 a4 a5) (spec_CostTo.f (k + 1) a0 a1 a2 a3 a4 a5) := by
 intro a0 a1 a2 a3 a4 a5 k
 have ih0 := spec_CostTo.mono_l k
 unfold spec_CostTo.f
 repeat' first
   | (with_reducible exact ih0 _ _ _ _ _ _ _)
   | (with_reducible exact LeO.refl _)
   | (with_reducible exact LeO.none _)
   | (with_reducible refine LeO.ite ?_ ?_)
   | (with_reducible refine LeO.bind ?_ (fun _ => ?_))
   | exact ih0 _ _ _ _ _ _ _
   | exact LeO.none _
   | refine LeO.ite ?_ ?_
   | refine LeO.bind ?_ (fun _ => ?_)
set_option maxHeartbeats 8000000 in
set_option maxRecDepth 100000 in
theorem spec_CostTo.calls (k : Nat) (a0_0 : Int) (A0_1 : Option Addr) (c0_1 : Nat) (l0_1 : List (S93)) (A0_2 : Option Addr) (c0_2 : Nat) (l0_2 : List (S102)) (a1 : Int) (a2 : Int) (a3 : Int) (r : Int) (w : World) (hr0_1 : Kd.C k93 w A0_1 l0_1.length l0_1) (hc0_1 : l0_1.length ≤ c0_1) (hr0_2 : Kd.C k102 w A0_2 l0_2.length l0_2) (hc0_2 : l0_2.length ≤ c0_2) (h : spec_CostTo.f k a0_0 l0_1 l0_2 a1 a2 a3 = some r) :
  Calls Try.prog 130 #[.agg #[.int .i64 a0_0, .slice A0_1 l0_1.length c0_1, .slice A0_2 l0_2.length c0_2], .int .i64 a1, .int .i64 a2, .int .i64 a3] w fun e w' => e = .returned (.int .i64 r) ∧ Below w.heap.size w w' := by
 have hu31 := Try.underlying31
 have hu93 := Try.underlying93
 have HR0_1 := Aside0.mk hr0_1
 have HC0_1 := Aside0.mk hc0_1
 clear hr0_1 hc0_1
 have HR0_2 := Aside0.mk hr0_2
 have HC0_2 := Aside0.mk hc0_2
 clear hr0_2 hc0_2
 have HB := Aside0.mk (Below.refl w.heap.size w)
 have H : (spec_CostTo.l0 k a1 a2 a3 0 a0_0 l0_1 l0_2) = some r := h
 clear h
 have H' := Aside0.mk H
 clear H
 go_enter Try.func130, Try.ntmps130
 go_wp2_with (first | ((with_reducible refine gate_dst (N := 4) rfl ?_); refine box_q 4 #[.int .i64 a0_0, .slice A0_1 l0_1.length c0_1, .slice A0_2 l0_2.length c0_2] 31 ?_; intro gb233 hg w5 hbox hb; have BK233 := Aside0.mk (hbox); have GW233 := Aside0.mk ((by rw [hg]; exact (below_size (bw_q HB)) : w.heap.size ≤ gb233)); have GE233 := Aside0.mk ((by rw [hg]; exact (below_size (bw_q HB)) : w.heap.size ≤ gb233)); replace HB := Aside0.mk (below_step (bw_q HB) hb); clear hb hbox hg))
 go_loopg [9] k (fun kq v9 w' => ∃ (x9_1 : Int), v9 = .int .i64 x9_1 ∧ Aside0 (spec_CostTo.l0 kq a1 a2 a3 x9_1 a0_0 l0_1 l0_2 = some r) ∧ Aside0 (kq ≤ k) ∧ Aside0 (w'.heap[gb233]? = some (.cells #[.int .i64 a0_0, (.slice A0_1 l0_1.length c0_1), (.slice A0_2 l0_2.length c0_2)] 31 (0, 0))) ∧ Aside0 (Below w.heap.size w w'))
 case atStart => exact ⟨(0), (by first | rfl | (simp; done) | (simp [*]; done)), H', ⟨Nat.le_refl _⟩, ⟨by refine bz_ ?_; exact BK233.out⟩, ⟨bw_q HB⟩⟩
 case round =>
  clear H'
  try clear c1
  try clear p2
  obtain ⟨x9_1, rfl, HA, HK1, BK233, HB⟩ := hrel
  cases gk with
  | zero => exact absurd HA.out (by simp [spec_CostTo.l0])
  | succ k1 =>
   have H := HA.out
   clear HA
   simp only [spec_CostTo.l0] at H
   by_cases c6 : x9_1 < (l0_1.length : Int)
   ·rw [if_pos c6] at H
    have c6b0 : decide (x9_1 < (l0_1.length : Int)) = true := decide_eq_true c6
    clear c6
    by_cases c7 : 0 ≤ x9_1
    ·rw [if_pos c7] at H
     have c7b0 : decide (0 ≤ x9_1) = true := decide_eq_true c7
     clear c7
     by_cases c8 : ((rd_T93 l0_1 x9_1).f3) = a3
     ·rw [if_pos c8] at H
      have c8b0 : (((rd_T93 l0_1 x9_1).f3) == a3) = true := beq_iff_eq.mpr c8
      have c8b1 : (((rd_T93 l0_1 x9_1).f3) != a3) = false := bne_eq_false_iff_eq.mpr c8
      clear c8
      by_cases c9 : ((rd_T93 l0_1 x9_1).f0) = a1
      ·rw [if_pos c9] at H
       have c9b0 : (((rd_T93 l0_1 x9_1).f0) == a1) = true := beq_iff_eq.mpr c9
       have c9b1 : (((rd_T93 l0_1 x9_1).f0) != a1) = false := bne_eq_false_iff_eq.mpr c9
       clear c9
       by_cases c10 : ((rd_T93 l0_1 x9_1).f1) = a2
       ·rw [if_pos c10] at H
        have c10b0 : (((rd_T93 l0_1 x9_1).f1) == a2) = true := beq_iff_eq.mpr c10
        have c10b1 : (((rd_T93 l0_1 x9_1).f1) != a2) = false := bne_eq_false_iff_eq.mpr c10
        clear c10
        have HC11 := Aside0.mk H
        clear H
        obtain ⟨hcz12_0, hcz12_1, hcz12_2⟩ := cz3_ BK233
        obtain ⟨hfz12_0, hfz12_1, hfz12_2⟩ := fz3_ BK233
        have p234 : 0 ≤ (x9_1 : Int) := of_decide_eq_true as_q
        have q234 : x9_1 < (l0_1.length : Int) := of_decide_eq_true as_q
        obtain ⟨ad234, e234, hx234_0, hx234_1, hx234_2, hx234_3⟩ := at_T93 HR0_1.out x9_1 p234 q234
        cases e234
        replace hx234_0 := (HB.out.cell (World.block_lt_of_cell? w _ hx234_0)).trans hx234_0
        replace hx234_1 := (HB.out.cell (World.block_lt_of_cell? w _ hx234_1)).trans hx234_1
        replace hx234_2 := (HB.out.cell (World.block_lt_of_cell? w _ hx234_2)).trans hx234_2
        replace hx234_3 := (HB.out.cell (World.block_lt_of_cell? w _ hx234_3)).trans hx234_3
        replace p234 := eq_true p234
        replace q234 := eq_true q234
        go_upto_if 50 with (first | ((with_reducible refine gate_dst (N := 10) rfl ?_); refine box_q 10 #[.int .i64 0, .int .i64 0, .int .i64 0, .int .i64 0] 93 ?_; intro gb235 hg w13 hbox hb; have BK235 := Aside0.mk (hbox); have GW235 := Aside0.mk ((by rw [hg]; exact (below_size (bw_q HB)) : w.heap.size ≤ gb235)); have GE235 := Aside0.mk ((by rw [hg]; exact (below_size (bw_q HB)) : w.heap.size ≤ gb235)); replace HB := Aside0.mk (below_step (bw_q HB) hb); have NB233_235 := Aside0.mk ((by rw [hg]; exact Nat.ne_of_lt (blk_lt (g := gb233) (o := .cells #[.int .i64 a0_0, .slice (some ad234) l0_1.length c0_1, .slice A0_2 l0_2.length c0_2] 31 (0, 0)) (bk_q BK233)) : gb233 ≠ gb235)); have NB235_233 := Aside0.mk ((by rw [hg]; exact Nat.ne_of_gt (blk_lt (g := gb233) (o := .cells #[.int .i64 a0_0, .slice (some ad234) l0_1.length c0_1, .slice A0_2 l0_2.length c0_2] 31 (0, 0)) (bk_q BK233)) : gb235 ≠ gb233)); replace BK233 := Aside0.mk (blk_below (g := gb233) (bk_q BK233) hb); clear hb hbox hg; have hnb14 := NB235_233.out; have hnc14 := NB233_235.out; have hcz15_0 : w13.cell? ⟨gb235, 0, none⟩ = some (.int .i64 0) := (blk_cell BK235.out 0).trans rfl; have hcz15_1 : w13.cell? ⟨gb235, 1, none⟩ = some (.int .i64 0) := (blk_cell BK235.out 1).trans rfl; have hcz15_2 : w13.cell? ⟨gb235, 2, none⟩ = some (.int .i64 0) := (blk_cell BK235.out 2).trans rfl; have hcz15_3 : w13.cell? ⟨gb235, 3, none⟩ = some (.int .i64 0) := (blk_cell BK235.out 3).trans rfl; have hfz15_0 := blk_frozen BK235.out 0; have hfz15_1 := blk_frozen BK235.out 1; have hfz15_2 := blk_frozen BK235.out 2; have hfz15_3 := blk_frozen BK235.out 3))
        have n0_ : Aside0 (((((w13.setCell ⟨gb235, 0, none⟩ (.int .i64 ((rd_T93 l0_1 x9_1).f0))).setCell ⟨gb235, 1, none⟩ (.int .i64 ((rd_T93 l0_1 x9_1).f1))).setCell ⟨gb235, 2, none⟩ (.int .i64 ((rd_T93 l0_1 x9_1).f2))).setCell ⟨gb235, 3, none⟩ (.int .i64 ((rd_T93 l0_1 x9_1).f3))).heap[gb233]? = some (.cells #[.int .i64 a0_0, .slice (some ad234) l0_1.length c0_1, .slice A0_2 l0_2.length c0_2] 31 (0, 0))) := ⟨by refine bz_ ?_; refine blk_far ?_ NB233_235.out _; refine bz_ ?_; refine blk_far ?_ NB233_235.out _; refine bz_ ?_; refine blk_far ?_ NB233_235.out _; refine bz_ ?_; refine blk_far ?_ NB233_235.out _; refine bz_ ?_; exact BK233.out⟩
        have n1_ : Aside0 (((((w13.setCell ⟨gb235, 0, none⟩ (.int .i64 ((rd_T93 l0_1 x9_1).f0))).setCell ⟨gb235, 1, none⟩ (.int .i64 ((rd_T93 l0_1 x9_1).f1))).setCell ⟨gb235, 2, none⟩ (.int .i64 ((rd_T93 l0_1 x9_1).f2))).setCell ⟨gb235, 3, none⟩ (.int .i64 ((rd_T93 l0_1 x9_1).f3))).heap[gb235]? = some (.cells #[.int .i64 ((rd_T93 l0_1 x9_1).f0), .int .i64 ((rd_T93 l0_1 x9_1).f1), .int .i64 ((rd_T93 l0_1 x9_1).f2), .int .i64 ((rd_T93 l0_1 x9_1).f3)] 93 (0, 0))) := ⟨by refine bz_ ?_; refine blk_put (cs := #[.int .i64 ((rd_T93 l0_1 x9_1).f0), .int .i64 ((rd_T93 l0_1 x9_1).f1), .int .i64 ((rd_T93 l0_1 x9_1).f2), .int .i64 0]) ?_ 3 _ rfl; refine bz_ ?_; refine blk_put (cs := #[.int .i64 ((rd_T93 l0_1 x9_1).f0), .int .i64 ((rd_T93 l0_1 x9_1).f1), .int .i64 0, .int .i64 0]) ?_ 2 _ rfl; refine bz_ ?_; refine blk_put (cs := #[.int .i64 ((rd_T93 l0_1 x9_1).f0), .int .i64 0, .int .i64 0, .int .i64 0]) ?_ 1 _ rfl; refine bz_ ?_; refine blk_put (cs := #[.int .i64 0, .int .i64 0, .int .i64 0, .int .i64 0]) ?_ 0 _ rfl; refine bz_ ?_; exact BK235.out⟩
        have n2_ : Aside0 (Below w.heap.size w ((((w13.setCell ⟨gb235, 0, none⟩ (.int .i64 ((rd_T93 l0_1 x9_1).f0))).setCell ⟨gb235, 1, none⟩ (.int .i64 ((rd_T93 l0_1 x9_1).f1))).setCell ⟨gb235, 2, none⟩ (.int .i64 ((rd_T93 l0_1 x9_1).f2))).setCell ⟨gb235, 3, none⟩ (.int .i64 ((rd_T93 l0_1 x9_1).f3)))) := ⟨bw_q HB⟩
        (try clear BK233)
        (try clear BK235)
        (try clear HB)
        generalize ((((w13.setCell ⟨gb235, 0, none⟩ (.int .i64 ((rd_T93 l0_1 x9_1).f0))).setCell ⟨gb235, 1, none⟩ (.int .i64 ((rd_T93 l0_1 x9_1).f1))).setCell ⟨gb235, 2, none⟩ (.int .i64 ((rd_T93 l0_1 x9_1).f2))).setCell ⟨gb235, 3, none⟩ (.int .i64 ((rd_T93 l0_1 x9_1).f3))) = w16 at n0_ n1_ n2_ ⊢
        have BK233 := n0_
        have BK235 := n1_
        have HB := n2_
        clear n0_ n1_ n2_
        (try clear hx234_0); (try clear hx234_1); (try clear hx234_2); (try clear hx234_3)
        have H := HC11.out
        clear HC11
        obtain rfl := Option.some.inj H
        have hnb17 := NB235_233.out
        have hnc17 := NB233_235.out
        obtain ⟨hcz18_0, hcz18_1, hcz18_2, hcz18_3⟩ := cz4_ BK235
        obtain ⟨hfz18_0, hfz18_1, hfz18_2, hfz18_3⟩ := fz4_ BK235
        go_wp2
        go_ret
        exact ⟨er_q, bw_q HB⟩
       ·rw [if_neg c10] at H
        have c10b0 : (((rd_T93 l0_1 x9_1).f1) == a2) = false := beq_eq_false_iff_ne.mpr c10
        have c10b1 : (((rd_T93 l0_1 x9_1).f1) != a2) = true := bne_iff_ne.mpr c10
        by_cases c19 : ((rd_T93 l0_1 x9_1).f0) = a2
        ·rw [if_pos c19] at H
         have c19b0 : (((rd_T93 l0_1 x9_1).f0) == a2) = true := beq_iff_eq.mpr c19
         have c19b1 : (((rd_T93 l0_1 x9_1).f0) != a2) = false := bne_eq_false_iff_eq.mpr c19
         clear c19
         have HC20 := Aside0.mk H
         clear H
         obtain ⟨hcz21_0, hcz21_1, hcz21_2⟩ := cz3_ BK233
         obtain ⟨hfz21_0, hfz21_1, hfz21_2⟩ := fz3_ BK233
         have p234 : 0 ≤ (x9_1 : Int) := of_decide_eq_true as_q
         have q234 : x9_1 < (l0_1.length : Int) := of_decide_eq_true as_q
         obtain ⟨ad234, e234, hx234_0, hx234_1, hx234_2, hx234_3⟩ := at_T93 HR0_1.out x9_1 p234 q234
         cases e234
         replace hx234_0 := (HB.out.cell (World.block_lt_of_cell? w _ hx234_0)).trans hx234_0
         replace hx234_1 := (HB.out.cell (World.block_lt_of_cell? w _ hx234_1)).trans hx234_1
         replace hx234_2 := (HB.out.cell (World.block_lt_of_cell? w _ hx234_2)).trans hx234_2
         replace hx234_3 := (HB.out.cell (World.block_lt_of_cell? w _ hx234_3)).trans hx234_3
         replace p234 := eq_true p234
         replace q234 := eq_true q234
         go_upto_if 50 with (first | ((with_reducible refine gate_dst (N := 10) rfl ?_); refine box_q 10 #[.int .i64 0, .int .i64 0, .int .i64 0, .int .i64 0] 93 ?_; intro gb235 hg w22 hbox hb; have BK235 := Aside0.mk (hbox); have GW235 := Aside0.mk ((by rw [hg]; exact (below_size (bw_q HB)) : w.heap.size ≤ gb235)); have GE235 := Aside0.mk ((by rw [hg]; exact (below_size (bw_q HB)) : w.heap.size ≤ gb235)); replace HB := Aside0.mk (below_step (bw_q HB) hb); have NB233_235 := Aside0.mk ((by rw [hg]; exact Nat.ne_of_lt (blk_lt (g := gb233) (o := .cells #[.int .i64 a0_0, .slice (some ad234) l0_1.length c0_1, .slice A0_2 l0_2.length c0_2] 31 (0, 0)) (bk_q BK233)) : gb233 ≠ gb235)); have NB235_233 := Aside0.mk ((by rw [hg]; exact Nat.ne_of_gt (blk_lt (g := gb233) (o := .cells #[.int .i64 a0_0, .slice (some ad234) l0_1.length c0_1, .slice A0_2 l0_2.length c0_2] 31 (0, 0)) (bk_q BK233)) : gb235 ≠ gb233)); replace BK233 := Aside0.mk (blk_below (g := gb233) (bk_q BK233) hb); clear hb hbox hg; have hnb23 := NB235_233.out; have hnc23 := NB233_235.out; have hcz24_0 : w22.cell? ⟨gb235, 0, none⟩ = some (.int .i64 0) := (blk_cell BK235.out 0).trans rfl; have hcz24_1 : w22.cell? ⟨gb235, 1, none⟩ = some (.int .i64 0) := (blk_cell BK235.out 1).trans rfl; have hcz24_2 : w22.cell? ⟨gb235, 2, none⟩ = some (.int .i64 0) := (blk_cell BK235.out 2).trans rfl; have hcz24_3 : w22.cell? ⟨gb235, 3, none⟩ = some (.int .i64 0) := (blk_cell BK235.out 3).trans rfl; have hfz24_0 := blk_frozen BK235.out 0; have hfz24_1 := blk_frozen BK235.out 1; have hfz24_2 := blk_frozen BK235.out 2; have hfz24_3 := blk_frozen BK235.out 3))
         have n0_ : Aside0 (((((w22.setCell ⟨gb235, 0, none⟩ (.int .i64 ((rd_T93 l0_1 x9_1).f0))).setCell ⟨gb235, 1, none⟩ (.int .i64 ((rd_T93 l0_1 x9_1).f1))).setCell ⟨gb235, 2, none⟩ (.int .i64 ((rd_T93 l0_1 x9_1).f2))).setCell ⟨gb235, 3, none⟩ (.int .i64 ((rd_T93 l0_1 x9_1).f3))).heap[gb233]? = some (.cells #[.int .i64 a0_0, .slice (some ad234) l0_1.length c0_1, .slice A0_2 l0_2.length c0_2] 31 (0, 0))) := ⟨by refine bz_ ?_; refine blk_far ?_ NB233_235.out _; refine bz_ ?_; refine blk_far ?_ NB233_235.out _; refine bz_ ?_; refine blk_far ?_ NB233_235.out _; refine bz_ ?_; refine blk_far ?_ NB233_235.out _; refine bz_ ?_; exact BK233.out⟩
         have n1_ : Aside0 (((((w22.setCell ⟨gb235, 0, none⟩ (.int .i64 ((rd_T93 l0_1 x9_1).f0))).setCell ⟨gb235, 1, none⟩ (.int .i64 ((rd_T93 l0_1 x9_1).f1))).setCell ⟨gb235, 2, none⟩ (.int .i64 ((rd_T93 l0_1 x9_1).f2))).setCell ⟨gb235, 3, none⟩ (.int .i64 ((rd_T93 l0_1 x9_1).f3))).heap[gb235]? = some (.cells #[.int .i64 ((rd_T93 l0_1 x9_1).f0), .int .i64 ((rd_T93 l0_1 x9_1).f1), .int .i64 ((rd_T93 l0_1 x9_1).f2), .int .i64 ((rd_T93 l0_1 x9_1).f3)] 93 (0, 0))) := ⟨by refine bz_ ?_; refine blk_put (cs := #[.int .i64 ((rd_T93 l0_1 x9_1).f0), .int .i64 ((rd_T93 l0_1 x9_1).f1), .int .i64 ((rd_T93 l0_1 x9_1).f2), .int .i64 0]) ?_ 3 _ rfl; refine bz_ ?_; refine blk_put (cs := #[.int .i64 ((rd_T93 l0_1 x9_1).f0), .int .i64 ((rd_T93 l0_1 x9_1).f1), .int .i64 0, .int .i64 0]) ?_ 2 _ rfl; refine bz_ ?_; refine blk_put (cs := #[.int .i64 ((rd_T93 l0_1 x9_1).f0), .int .i64 0, .int .i64 0, .int .i64 0]) ?_ 1 _ rfl; refine bz_ ?_; refine blk_put (cs := #[.int .i64 0, .int .i64 0, .int .i64 0, .int .i64 0]) ?_ 0 _ rfl; refine bz_ ?_; exact BK235.out⟩
         have n2_ : Aside0 (Below w.heap.size w ((((w22.setCell ⟨gb235, 0, none⟩ (.int .i64 ((rd_T93 l0_1 x9_1).f0))).setCell ⟨gb235, 1, none⟩ (.int .i64 ((rd_T93 l0_1 x9_1).f1))).setCell ⟨gb235, 2, none⟩ (.int .i64 ((rd_T93 l0_1 x9_1).f2))).setCell ⟨gb235, 3, none⟩ (.int .i64 ((rd_T93 l0_1 x9_1).f3)))) := ⟨bw_q HB⟩
         (try clear BK233)
         (try clear BK235)
         (try clear HB)
         generalize ((((w22.setCell ⟨gb235, 0, none⟩ (.int .i64 ((rd_T93 l0_1 x9_1).f0))).setCell ⟨gb235, 1, none⟩ (.int .i64 ((rd_T93 l0_1 x9_1).f1))).setCell ⟨gb235, 2, none⟩ (.int .i64 ((rd_T93 l0_1 x9_1).f2))).setCell ⟨gb235, 3, none⟩ (.int .i64 ((rd_T93 l0_1 x9_1).f3))) = w25 at n0_ n1_ n2_ ⊢
         have BK233 := n0_
         have BK235 := n1_
         have HB := n2_
         clear n0_ n1_ n2_
         (try clear hx234_0); (try clear hx234_1); (try clear hx234_2); (try clear hx234_3)
         have H := HC20.out
         clear HC20
         by_cases c26 : ((rd_T93 l0_1 x9_1).f1) = a1
         ·rw [if_pos c26] at H
          have c26b0 : (((rd_T93 l0_1 x9_1).f1) == a1) = true := beq_iff_eq.mpr c26
          have c26b1 : (((rd_T93 l0_1 x9_1).f1) != a1) = false := bne_eq_false_iff_eq.mpr c26
          clear c26
          (first | rw [c26b0] | rw [c26b1] | (simp only [i64_w, i32_w]; first | rw [c26b0] | rw [c26b1]) | skip)
          obtain rfl := Option.some.inj H
          have hnb27 := NB235_233.out
          have hnc27 := NB233_235.out
          obtain ⟨hcz28_0, hcz28_1, hcz28_2, hcz28_3⟩ := cz4_ BK235
          obtain ⟨hfz28_0, hfz28_1, hfz28_2, hfz28_3⟩ := fz4_ BK235
          go_wp2
          go_ret
          exact ⟨er_q, bw_q HB⟩
         ·rw [if_neg c26] at H
          have c26b0 : (((rd_T93 l0_1 x9_1).f1) == a1) = false := beq_eq_false_iff_ne.mpr c26
          have c26b1 : (((rd_T93 l0_1 x9_1).f1) != a1) = true := bne_iff_ne.mpr c26
          (first | rw [c26b0] | rw [c26b1] | (simp only [i64_w, i32_w]; first | rw [c26b0] | rw [c26b1]) | skip)
          have H' := Aside0.mk H
          clear H
          go_wp2
          go_roundg k1
          case measure => have := HK1.out; omega
          case rel => exact ⟨(wrap64 (x9_1 + 1)), (by first | rfl | (simp; done) | (simp [*]; done)), H', ⟨by have := HK1.out; omega⟩, ⟨by refine bz_ ?_; exact BK233.out⟩, ⟨bw_q HB⟩⟩
        ·rw [if_neg c19] at H
         have c19b0 : (((rd_T93 l0_1 x9_1).f0) == a2) = false := beq_eq_false_iff_ne.mpr c19
         have c19b1 : (((rd_T93 l0_1 x9_1).f0) != a2) = true := bne_iff_ne.mpr c19
         have HC29 := Aside0.mk H
         clear H
         obtain ⟨hcz30_0, hcz30_1, hcz30_2⟩ := cz3_ BK233
         obtain ⟨hfz30_0, hfz30_1, hfz30_2⟩ := fz3_ BK233
         have p234 : 0 ≤ (x9_1 : Int) := of_decide_eq_true as_q
         have q234 : x9_1 < (l0_1.length : Int) := of_decide_eq_true as_q
         obtain ⟨ad234, e234, hx234_0, hx234_1, hx234_2, hx234_3⟩ := at_T93 HR0_1.out x9_1 p234 q234
         cases e234
         replace hx234_0 := (HB.out.cell (World.block_lt_of_cell? w _ hx234_0)).trans hx234_0
         replace hx234_1 := (HB.out.cell (World.block_lt_of_cell? w _ hx234_1)).trans hx234_1
         replace hx234_2 := (HB.out.cell (World.block_lt_of_cell? w _ hx234_2)).trans hx234_2
         replace hx234_3 := (HB.out.cell (World.block_lt_of_cell? w _ hx234_3)).trans hx234_3
         replace p234 := eq_true p234
         replace q234 := eq_true q234
         go_upto_if 50 with (first | ((with_reducible refine gate_dst (N := 10) rfl ?_); refine box_q 10 #[.int .i64 0, .int .i64 0, .int .i64 0, .int .i64 0] 93 ?_; intro gb235 hg w31 hbox hb; have BK235 := Aside0.mk (hbox); have GW235 := Aside0.mk ((by rw [hg]; exact (below_size (bw_q HB)) : w.heap.size ≤ gb235)); have GE235 := Aside0.mk ((by rw [hg]; exact (below_size (bw_q HB)) : w.heap.size ≤ gb235)); replace HB := Aside0.mk (below_step (bw_q HB) hb); have NB233_235 := Aside0.mk ((by rw [hg]; exact Nat.ne_of_lt (blk_lt (g := gb233) (o := .cells #[.int .i64 a0_0, .slice (some ad234) l0_1.length c0_1, .slice A0_2 l0_2.length c0_2] 31 (0, 0)) (bk_q BK233)) : gb233 ≠ gb235)); have NB235_233 := Aside0.mk ((by rw [hg]; exact Nat.ne_of_gt (blk_lt (g := gb233) (o := .cells #[.int .i64 a0_0, .slice (some ad234) l0_1.length c0_1, .slice A0_2 l0_2.length c0_2] 31 (0, 0)) (bk_q BK233)) : gb235 ≠ gb233)); replace BK233 := Aside0.mk (blk_below (g := gb233) (bk_q BK233) hb); clear hb hbox hg; have hnb32 := NB235_233.out; have hnc32 := NB233_235.out; have hcz33_0 : w31.cell? ⟨gb235, 0, none⟩ = some (.int .i64 0) := (blk_cell BK235.out 0).trans rfl; have hcz33_1 : w31.cell? ⟨gb235, 1, none⟩ = some (.int .i64 0) := (blk_cell BK235.out 1).trans rfl; have hcz33_2 : w31.cell? ⟨gb235, 2, none⟩ = some (.int .i64 0) := (blk_cell BK235.out 2).trans rfl; have hcz33_3 : w31.cell? ⟨gb235, 3, none⟩ = some (.int .i64 0) := (blk_cell BK235.out 3).trans rfl; have hfz33_0 := blk_frozen BK235.out 0; have hfz33_1 := blk_frozen BK235.out 1; have hfz33_2 := blk_frozen BK235.out 2; have hfz33_3 := blk_frozen BK235.out 3))
         have n0_ : Aside0 (((((w31.setCell ⟨gb235, 0, none⟩ (.int .i64 ((rd_T93 l0_1 x9_1).f0))).setCell ⟨gb235, 1, none⟩ (.int .i64 ((rd_T93 l0_1 x9_1).f1))).setCell ⟨gb235, 2, none⟩ (.int .i64 ((rd_T93 l0_1 x9_1).f2))).setCell ⟨gb235, 3, none⟩ (.int .i64 ((rd_T93 l0_1 x9_1).f3))).heap[gb233]? = some (.cells #[.int .i64 a0_0, .slice (some ad234) l0_1.length c0_1, .slice A0_2 l0_2.length c0_2] 31 (0, 0))) := ⟨by refine bz_ ?_; refine blk_far ?_ NB233_235.out _; refine bz_ ?_; refine blk_far ?_ NB233_235.out _; refine bz_ ?_; refine blk_far ?_ NB233_235.out _; refine bz_ ?_; refine blk_far ?_ NB233_235.out _; refine bz_ ?_; exact BK233.out⟩
         have n1_ : Aside0 (((((w31.setCell ⟨gb235, 0, none⟩ (.int .i64 ((rd_T93 l0_1 x9_1).f0))).setCell ⟨gb235, 1, none⟩ (.int .i64 ((rd_T93 l0_1 x9_1).f1))).setCell ⟨gb235, 2, none⟩ (.int .i64 ((rd_T93 l0_1 x9_1).f2))).setCell ⟨gb235, 3, none⟩ (.int .i64 ((rd_T93 l0_1 x9_1).f3))).heap[gb235]? = some (.cells #[.int .i64 ((rd_T93 l0_1 x9_1).f0), .int .i64 ((rd_T93 l0_1 x9_1).f1), .int .i64 ((rd_T93 l0_1 x9_1).f2), .int .i64 ((rd_T93 l0_1 x9_1).f3)] 93 (0, 0))) := ⟨by refine bz_ ?_; refine blk_put (cs := #[.int .i64 ((rd_T93 l0_1 x9_1).f0), .int .i64 ((rd_T93 l0_1 x9_1).f1), .int .i64 ((rd_T93 l0_1 x9_1).f2), .int .i64 0]) ?_ 3 _ rfl; refine bz_ ?_; refine blk_put (cs := #[.int .i64 ((rd_T93 l0_1 x9_1).f0), .int .i64 ((rd_T93 l0_1 x9_1).f1), .int .i64 0, .int .i64 0]) ?_ 2 _ rfl; refine bz_ ?_; refine blk_put (cs := #[.int .i64 ((rd_T93 l0_1 x9_1).f0), .int .i64 0, .int .i64 0, .int .i64 0]) ?_ 1 _ rfl; refine bz_ ?_; refine blk_put (cs := #[.int .i64 0, .int .i64 0, .int .i64 0, .int .i64 0]) ?_ 0 _ rfl; refine bz_ ?_; exact BK235.out⟩
         have n2_ : Aside0 (Below w.heap.size w ((((w31.setCell ⟨gb235, 0, none⟩ (.int .i64 ((rd_T93 l0_1 x9_1).f0))).setCell ⟨gb235, 1, none⟩ (.int .i64 ((rd_T93 l0_1 x9_1).f1))).setCell ⟨gb235, 2, none⟩ (.int .i64 ((rd_T93 l0_1 x9_1).f2))).setCell ⟨gb235, 3, none⟩ (.int .i64 ((rd_T93 l0_1 x9_1).f3)))) := ⟨bw_q HB⟩
         (try clear BK233)
         (try clear BK235)
         (try clear HB)
         generalize ((((w31.setCell ⟨gb235, 0, none⟩ (.int .i64 ((rd_T93 l0_1 x9_1).f0))).setCell ⟨gb235, 1, none⟩ (.int .i64 ((rd_T93 l0_1 x9_1).f1))).setCell ⟨gb235, 2, none⟩ (.int .i64 ((rd_T93 l0_1 x9_1).f2))).setCell ⟨gb235, 3, none⟩ (.int .i64 ((rd_T93 l0_1 x9_1).f3))) = w34 at n0_ n1_ n2_ ⊢
         have BK233 := n0_
         have BK235 := n1_
         have HB := n2_
         clear n0_ n1_ n2_
         (try clear hx234_0); (try clear hx234_1); (try clear hx234_2); (try clear hx234_3)
         have H := HC29.out
         clear HC29
         have H' := Aside0.mk H
         clear H
         go_wp2
         go_roundg k1
         case measure => have := HK1.out; omega
         case rel => exact ⟨(wrap64 (x9_1 + 1)), (by first | rfl | (simp; done) | (simp [*]; done)), H', ⟨by have := HK1.out; omega⟩, ⟨by refine bz_ ?_; exact BK233.out⟩, ⟨bw_q HB⟩⟩
      ·rw [if_neg c9] at H
       have c9b0 : (((rd_T93 l0_1 x9_1).f0) == a1) = false := beq_eq_false_iff_ne.mpr c9
       have c9b1 : (((rd_T93 l0_1 x9_1).f0) != a1) = true := bne_iff_ne.mpr c9
       by_cases c35 : ((rd_T93 l0_1 x9_1).f0) = a2
       ·rw [if_pos c35] at H
        have c35b0 : (((rd_T93 l0_1 x9_1).f0) == a2) = true := beq_iff_eq.mpr c35
        have c35b1 : (((rd_T93 l0_1 x9_1).f0) != a2) = false := bne_eq_false_iff_eq.mpr c35
        clear c35
        have HC36 := Aside0.mk H
        clear H
        obtain ⟨hcz37_0, hcz37_1, hcz37_2⟩ := cz3_ BK233
        obtain ⟨hfz37_0, hfz37_1, hfz37_2⟩ := fz3_ BK233
        have p234 : 0 ≤ (x9_1 : Int) := of_decide_eq_true as_q
        have q234 : x9_1 < (l0_1.length : Int) := of_decide_eq_true as_q
        obtain ⟨ad234, e234, hx234_0, hx234_1, hx234_2, hx234_3⟩ := at_T93 HR0_1.out x9_1 p234 q234
        cases e234
        replace hx234_0 := (HB.out.cell (World.block_lt_of_cell? w _ hx234_0)).trans hx234_0
        replace hx234_1 := (HB.out.cell (World.block_lt_of_cell? w _ hx234_1)).trans hx234_1
        replace hx234_2 := (HB.out.cell (World.block_lt_of_cell? w _ hx234_2)).trans hx234_2
        replace hx234_3 := (HB.out.cell (World.block_lt_of_cell? w _ hx234_3)).trans hx234_3
        replace p234 := eq_true p234
        replace q234 := eq_true q234
        go_upto_if 50 with (first | ((with_reducible refine gate_dst (N := 10) rfl ?_); refine box_q 10 #[.int .i64 0, .int .i64 0, .int .i64 0, .int .i64 0] 93 ?_; intro gb235 hg w38 hbox hb; have BK235 := Aside0.mk (hbox); have GW235 := Aside0.mk ((by rw [hg]; exact (below_size (bw_q HB)) : w.heap.size ≤ gb235)); have GE235 := Aside0.mk ((by rw [hg]; exact (below_size (bw_q HB)) : w.heap.size ≤ gb235)); replace HB := Aside0.mk (below_step (bw_q HB) hb); have NB233_235 := Aside0.mk ((by rw [hg]; exact Nat.ne_of_lt (blk_lt (g := gb233) (o := .cells #[.int .i64 a0_0, .slice (some ad234) l0_1.length c0_1, .slice A0_2 l0_2.length c0_2] 31 (0, 0)) (bk_q BK233)) : gb233 ≠ gb235)); have NB235_233 := Aside0.mk ((by rw [hg]; exact Nat.ne_of_gt (blk_lt (g := gb233) (o := .cells #[.int .i64 a0_0, .slice (some ad234) l0_1.length c0_1, .slice A0_2 l0_2.length c0_2] 31 (0, 0)) (bk_q BK233)) : gb235 ≠ gb233)); replace BK233 := Aside0.mk (blk_below (g := gb233) (bk_q BK233) hb); clear hb hbox hg; have hnb39 := NB235_233.out; have hnc39 := NB233_235.out; have hcz40_0 : w38.cell? ⟨gb235, 0, none⟩ = some (.int .i64 0) := (blk_cell BK235.out 0).trans rfl; have hcz40_1 : w38.cell? ⟨gb235, 1, none⟩ = some (.int .i64 0) := (blk_cell BK235.out 1).trans rfl; have hcz40_2 : w38.cell? ⟨gb235, 2, none⟩ = some (.int .i64 0) := (blk_cell BK235.out 2).trans rfl; have hcz40_3 : w38.cell? ⟨gb235, 3, none⟩ = some (.int .i64 0) := (blk_cell BK235.out 3).trans rfl; have hfz40_0 := blk_frozen BK235.out 0; have hfz40_1 := blk_frozen BK235.out 1; have hfz40_2 := blk_frozen BK235.out 2; have hfz40_3 := blk_frozen BK235.out 3))
        have n0_ : Aside0 (((((w38.setCell ⟨gb235, 0, none⟩ (.int .i64 ((rd_T93 l0_1 x9_1).f0))).setCell ⟨gb235, 1, none⟩ (.int .i64 ((rd_T93 l0_1 x9_1).f1))).setCell ⟨gb235, 2, none⟩ (.int .i64 ((rd_T93 l0_1 x9_1).f2))).setCell ⟨gb235, 3, none⟩ (.int .i64 ((rd_T93 l0_1 x9_1).f3))).heap[gb233]? = some (.cells #[.int .i64 a0_0, .slice (some ad234) l0_1.length c0_1, .slice A0_2 l0_2.length c0_2] 31 (0, 0))) := ⟨by refine bz_ ?_; refine blk_far ?_ NB233_235.out _; refine bz_ ?_; refine blk_far ?_ NB233_235.out _; refine bz_ ?_; refine blk_far ?_ NB233_235.out _; refine bz_ ?_; refine blk_far ?_ NB233_235.out _; refine bz_ ?_; exact BK233.out⟩
        have n1_ : Aside0 (((((w38.setCell ⟨gb235, 0, none⟩ (.int .i64 ((rd_T93 l0_1 x9_1).f0))).setCell ⟨gb235, 1, none⟩ (.int .i64 ((rd_T93 l0_1 x9_1).f1))).setCell ⟨gb235, 2, none⟩ (.int .i64 ((rd_T93 l0_1 x9_1).f2))).setCell ⟨gb235, 3, none⟩ (.int .i64 ((rd_T93 l0_1 x9_1).f3))).heap[gb235]? = some (.cells #[.int .i64 ((rd_T93 l0_1 x9_1).f0), .int .i64 ((rd_T93 l0_1 x9_1).f1), .int .i64 ((rd_T93 l0_1 x9_1).f2), .int .i64 ((rd_T93 l0_1 x9_1).f3)] 93 (0, 0))) := ⟨by refine bz_ ?_; refine blk_put (cs := #[.int .i64 ((rd_T93 l0_1 x9_1).f0), .int .i64 ((rd_T93 l0_1 x9_1).f1), .int .i64 ((rd_T93 l0_1 x9_1).f2), .int .i64 0]) ?_ 3 _ rfl; refine bz_ ?_; refine blk_put (cs := #[.int .i64 ((rd_T93 l0_1 x9_1).f0), .int .i64 ((rd_T93 l0_1 x9_1).f1), .int .i64 0, .int .i64 0]) ?_ 2 _ rfl; refine bz_ ?_; refine blk_put (cs := #[.int .i64 ((rd_T93 l0_1 x9_1).f0), .int .i64 0, .int .i64 0, .int .i64 0]) ?_ 1 _ rfl; refine bz_ ?_; refine blk_put (cs := #[.int .i64 0, .int .i64 0, .int .i64 0, .int .i64 0]) ?_ 0 _ rfl; refine bz_ ?_; exact BK235.out⟩
        have n2_ : Aside0 (Below w.heap.size w ((((w38.setCell ⟨gb235, 0, none⟩ (.int .i64 ((rd_T93 l0_1 x9_1).f0))).setCell ⟨gb235, 1, none⟩ (.int .i64 ((rd_T93 l0_1 x9_1).f1))).setCell ⟨gb235, 2, none⟩ (.int .i64 ((rd_T93 l0_1 x9_1).f2))).setCell ⟨gb235, 3, none⟩ (.int .i64 ((rd_T93 l0_1 x9_1).f3)))) := ⟨bw_q HB⟩
        (try clear BK233)
        (try clear BK235)
        (try clear HB)
        generalize ((((w38.setCell ⟨gb235, 0, none⟩ (.int .i64 ((rd_T93 l0_1 x9_1).f0))).setCell ⟨gb235, 1, none⟩ (.int .i64 ((rd_T93 l0_1 x9_1).f1))).setCell ⟨gb235, 2, none⟩ (.int .i64 ((rd_T93 l0_1 x9_1).f2))).setCell ⟨gb235, 3, none⟩ (.int .i64 ((rd_T93 l0_1 x9_1).f3))) = w41 at n0_ n1_ n2_ ⊢
        have BK233 := n0_
        have BK235 := n1_
        have HB := n2_
        clear n0_ n1_ n2_
        (try clear hx234_0); (try clear hx234_1); (try clear hx234_2); (try clear hx234_3)
        have H := HC36.out
        clear HC36
        by_cases c42 : ((rd_T93 l0_1 x9_1).f1) = a1
        ·rw [if_pos c42] at H
         have c42b0 : (((rd_T93 l0_1 x9_1).f1) == a1) = true := beq_iff_eq.mpr c42
         have c42b1 : (((rd_T93 l0_1 x9_1).f1) != a1) = false := bne_eq_false_iff_eq.mpr c42
         clear c42
         (first | rw [c42b0] | rw [c42b1] | (simp only [i64_w, i32_w]; first | rw [c42b0] | rw [c42b1]) | skip)
         obtain rfl := Option.some.inj H
         have hnb43 := NB235_233.out
         have hnc43 := NB233_235.out
         obtain ⟨hcz44_0, hcz44_1, hcz44_2, hcz44_3⟩ := cz4_ BK235
         obtain ⟨hfz44_0, hfz44_1, hfz44_2, hfz44_3⟩ := fz4_ BK235
         go_wp2
         go_ret
         exact ⟨er_q, bw_q HB⟩
        ·rw [if_neg c42] at H
         have c42b0 : (((rd_T93 l0_1 x9_1).f1) == a1) = false := beq_eq_false_iff_ne.mpr c42
         have c42b1 : (((rd_T93 l0_1 x9_1).f1) != a1) = true := bne_iff_ne.mpr c42
         (first | rw [c42b0] | rw [c42b1] | (simp only [i64_w, i32_w]; first | rw [c42b0] | rw [c42b1]) | skip)
         have H' := Aside0.mk H
         clear H
         go_wp2
         go_roundg k1
         case measure => have := HK1.out; omega
         case rel => exact ⟨(wrap64 (x9_1 + 1)), (by first | rfl | (simp; done) | (simp [*]; done)), H', ⟨by have := HK1.out; omega⟩, ⟨by refine bz_ ?_; exact BK233.out⟩, ⟨bw_q HB⟩⟩
       ·rw [if_neg c35] at H
        have c35b0 : (((rd_T93 l0_1 x9_1).f0) == a2) = false := beq_eq_false_iff_ne.mpr c35
        have c35b1 : (((rd_T93 l0_1 x9_1).f0) != a2) = true := bne_iff_ne.mpr c35
        have HC45 := Aside0.mk H
        clear H
        obtain ⟨hcz46_0, hcz46_1, hcz46_2⟩ := cz3_ BK233
        obtain ⟨hfz46_0, hfz46_1, hfz46_2⟩ := fz3_ BK233
        have p234 : 0 ≤ (x9_1 : Int) := of_decide_eq_true as_q
        have q234 : x9_1 < (l0_1.length : Int) := of_decide_eq_true as_q
        obtain ⟨ad234, e234, hx234_0, hx234_1, hx234_2, hx234_3⟩ := at_T93 HR0_1.out x9_1 p234 q234
        cases e234
        replace hx234_0 := (HB.out.cell (World.block_lt_of_cell? w _ hx234_0)).trans hx234_0
        replace hx234_1 := (HB.out.cell (World.block_lt_of_cell? w _ hx234_1)).trans hx234_1
        replace hx234_2 := (HB.out.cell (World.block_lt_of_cell? w _ hx234_2)).trans hx234_2
        replace hx234_3 := (HB.out.cell (World.block_lt_of_cell? w _ hx234_3)).trans hx234_3
        replace p234 := eq_true p234
        replace q234 := eq_true q234
        go_upto_if 50 with (first | ((with_reducible refine gate_dst (N := 10) rfl ?_); refine box_q 10 #[.int .i64 0, .int .i64 0, .int .i64 0, .int .i64 0] 93 ?_; intro gb235 hg w47 hbox hb; have BK235 := Aside0.mk (hbox); have GW235 := Aside0.mk ((by rw [hg]; exact (below_size (bw_q HB)) : w.heap.size ≤ gb235)); have GE235 := Aside0.mk ((by rw [hg]; exact (below_size (bw_q HB)) : w.heap.size ≤ gb235)); replace HB := Aside0.mk (below_step (bw_q HB) hb); have NB233_235 := Aside0.mk ((by rw [hg]; exact Nat.ne_of_lt (blk_lt (g := gb233) (o := .cells #[.int .i64 a0_0, .slice (some ad234) l0_1.length c0_1, .slice A0_2 l0_2.length c0_2] 31 (0, 0)) (bk_q BK233)) : gb233 ≠ gb235)); have NB235_233 := Aside0.mk ((by rw [hg]; exact Nat.ne_of_gt (blk_lt (g := gb233) (o := .cells #[.int .i64 a0_0, .slice (some ad234) l0_1.length c0_1, .slice A0_2 l0_2.length c0_2] 31 (0, 0)) (bk_q BK233)) : gb235 ≠ gb233)); replace BK233 := Aside0.mk (blk_below (g := gb233) (bk_q BK233) hb); clear hb hbox hg; have hnb48 := NB235_233.out; have hnc48 := NB233_235.out; have hcz49_0 : w47.cell? ⟨gb235, 0, none⟩ = some (.int .i64 0) := (blk_cell BK235.out 0).trans rfl; have hcz49_1 : w47.cell? ⟨gb235, 1, none⟩ = some (.int .i64 0) := (blk_cell BK235.out 1).trans rfl; have hcz49_2 : w47.cell? ⟨gb235, 2, none⟩ = some (.int .i64 0) := (blk_cell BK235.out 2).trans rfl; have hcz49_3 : w47.cell? ⟨gb235, 3, none⟩ = some (.int .i64 0) := (blk_cell BK235.out 3).trans rfl; have hfz49_0 := blk_frozen BK235.out 0; have hfz49_1 := blk_frozen BK235.out 1; have hfz49_2 := blk_frozen BK235.out 2; have hfz49_3 := blk_frozen BK235.out 3))
        have n0_ : Aside0 (((((w47.setCell ⟨gb235, 0, none⟩ (.int .i64 ((rd_T93 l0_1 x9_1).f0))).setCell ⟨gb235, 1, none⟩ (.int .i64 ((rd_T93 l0_1 x9_1).f1))).setCell ⟨gb235, 2, none⟩ (.int .i64 ((rd_T93 l0_1 x9_1).f2))).setCell ⟨gb235, 3, none⟩ (.int .i64 ((rd_T93 l0_1 x9_1).f3))).heap[gb233]? = some (.cells #[.int .i64 a0_0, .slice (some ad234) l0_1.length c0_1, .slice A0_2 l0_2.length c0_2] 31 (0, 0))) := ⟨by refine bz_ ?_; refine blk_far ?_ NB233_235.out _; refine bz_ ?_; refine blk_far ?_ NB233_235.out _; refine bz_ ?_; refine blk_far ?_ NB233_235.out _; refine bz_ ?_; refine blk_far ?_ NB233_235.out _; refine bz_ ?_; exact BK233.out⟩
        have n1_ : Aside0 (((((w47.setCell ⟨gb235, 0, none⟩ (.int .i64 ((rd_T93 l0_1 x9_1).f0))).setCell ⟨gb235, 1, none⟩ (.int .i64 ((rd_T93 l0_1 x9_1).f1))).setCell ⟨gb235, 2, none⟩ (.int .i64 ((rd_T93 l0_1 x9_1).f2))).setCell ⟨gb235, 3, none⟩ (.int .i64 ((rd_T93 l0_1 x9_1).f3))).heap[gb235]? = some (.cells #[.int .i64 ((rd_T93 l0_1 x9_1).f0), .int .i64 ((rd_T93 l0_1 x9_1).f1), .int .i64 ((rd_T93 l0_1 x9_1).f2), .int .i64 ((rd_T93 l0_1 x9_1).f3)] 93 (0, 0))) := ⟨by refine bz_ ?_; refine blk_put (cs := #[.int .i64 ((rd_T93 l0_1 x9_1).f0), .int .i64 ((rd_T93 l0_1 x9_1).f1), .int .i64 ((rd_T93 l0_1 x9_1).f2), .int .i64 0]) ?_ 3 _ rfl; refine bz_ ?_; refine blk_put (cs := #[.int .i64 ((rd_T93 l0_1 x9_1).f0), .int .i64 ((rd_T93 l0_1 x9_1).f1), .int .i64 0, .int .i64 0]) ?_ 2 _ rfl; refine bz_ ?_; refine blk_put (cs := #[.int .i64 ((rd_T93 l0_1 x9_1).f0), .int .i64 0, .int .i64 0, .int .i64 0]) ?_ 1 _ rfl; refine bz_ ?_; refine blk_put (cs := #[.int .i64 0, .int .i64 0, .int .i64 0, .int .i64 0]) ?_ 0 _ rfl; refine bz_ ?_; exact BK235.out⟩
        have n2_ : Aside0 (Below w.heap.size w ((((w47.setCell ⟨gb235, 0, none⟩ (.int .i64 ((rd_T93 l0_1 x9_1).f0))).setCell ⟨gb235, 1, none⟩ (.int .i64 ((rd_T93 l0_1 x9_1).f1))).setCell ⟨gb235, 2, none⟩ (.int .i64 ((rd_T93 l0_1 x9_1).f2))).setCell ⟨gb235, 3, none⟩ (.int .i64 ((rd_T93 l0_1 x9_1).f3)))) := ⟨bw_q HB⟩
        (try clear BK233)
        (try clear BK235)
        (try clear HB)
        generalize ((((w47.setCell ⟨gb235, 0, none⟩ (.int .i64 ((rd_T93 l0_1 x9_1).f0))).setCell ⟨gb235, 1, none⟩ (.int .i64 ((rd_T93 l0_1 x9_1).f1))).setCell ⟨gb235, 2, none⟩ (.int .i64 ((rd_T93 l0_1 x9_1).f2))).setCell ⟨gb235, 3, none⟩ (.int .i64 ((rd_T93 l0_1 x9_1).f3))) = w50 at n0_ n1_ n2_ ⊢
        have BK233 := n0_
        have BK235 := n1_
        have HB := n2_
        clear n0_ n1_ n2_
        (try clear hx234_0); (try clear hx234_1); (try clear hx234_2); (try clear hx234_3)
        have H := HC45.out
        clear HC45
        have H' := Aside0.mk H
        clear H
        go_wp2
        go_roundg k1
        case measure => have := HK1.out; omega
        case rel => exact ⟨(wrap64 (x9_1 + 1)), (by first | rfl | (simp; done) | (simp [*]; done)), H', ⟨by have := HK1.out; omega⟩, ⟨by refine bz_ ?_; exact BK233.out⟩, ⟨bw_q HB⟩⟩
     ·rw [if_neg c8] at H
      have c8b0 : (((rd_T93 l0_1 x9_1).f3) == a3) = false := beq_eq_false_iff_ne.mpr c8
      have c8b1 : (((rd_T93 l0_1 x9_1).f3) != a3) = true := bne_iff_ne.mpr c8
      have HC51 := Aside0.mk H
      clear H
      obtain ⟨hcz52_0, hcz52_1, hcz52_2⟩ := cz3_ BK233
      obtain ⟨hfz52_0, hfz52_1, hfz52_2⟩ := fz3_ BK233
      have p234 : 0 ≤ (x9_1 : Int) := of_decide_eq_true as_q
      have q234 : x9_1 < (l0_1.length : Int) := of_decide_eq_true as_q
      obtain ⟨ad234, e234, hx234_0, hx234_1, hx234_2, hx234_3⟩ := at_T93 HR0_1.out x9_1 p234 q234
      cases e234
      replace hx234_0 := (HB.out.cell (World.block_lt_of_cell? w _ hx234_0)).trans hx234_0
      replace hx234_1 := (HB.out.cell (World.block_lt_of_cell? w _ hx234_1)).trans hx234_1
      replace hx234_2 := (HB.out.cell (World.block_lt_of_cell? w _ hx234_2)).trans hx234_2
      replace hx234_3 := (HB.out.cell (World.block_lt_of_cell? w _ hx234_3)).trans hx234_3
      replace p234 := eq_true p234
      replace q234 := eq_true q234
      go_upto_if 50 with (first | ((with_reducible refine gate_dst (N := 10) rfl ?_); refine box_q 10 #[.int .i64 0, .int .i64 0, .int .i64 0, .int .i64 0] 93 ?_; intro gb235 hg w53 hbox hb; have BK235 := Aside0.mk (hbox); have GW235 := Aside0.mk ((by rw [hg]; exact (below_size (bw_q HB)) : w.heap.size ≤ gb235)); have GE235 := Aside0.mk ((by rw [hg]; exact (below_size (bw_q HB)) : w.heap.size ≤ gb235)); replace HB := Aside0.mk (below_step (bw_q HB) hb); have NB233_235 := Aside0.mk ((by rw [hg]; exact Nat.ne_of_lt (blk_lt (g := gb233) (o := .cells #[.int .i64 a0_0, .slice (some ad234) l0_1.length c0_1, .slice A0_2 l0_2.length c0_2] 31 (0, 0)) (bk_q BK233)) : gb233 ≠ gb235)); have NB235_233 := Aside0.mk ((by rw [hg]; exact Nat.ne_of_gt (blk_lt (g := gb233) (o := .cells #[.int .i64 a0_0, .slice (some ad234) l0_1.length c0_1, .slice A0_2 l0_2.length c0_2] 31 (0, 0)) (bk_q BK233)) : gb235 ≠ gb233)); replace BK233 := Aside0.mk (blk_below (g := gb233) (bk_q BK233) hb); clear hb hbox hg; have hnb54 := NB235_233.out; have hnc54 := NB233_235.out; have hcz55_0 : w53.cell? ⟨gb235, 0, none⟩ = some (.int .i64 0) := (blk_cell BK235.out 0).trans rfl; have hcz55_1 : w53.cell? ⟨gb235, 1, none⟩ = some (.int .i64 0) := (blk_cell BK235.out 1).trans rfl; have hcz55_2 : w53.cell? ⟨gb235, 2, none⟩ = some (.int .i64 0) := (blk_cell BK235.out 2).trans rfl; have hcz55_3 : w53.cell? ⟨gb235, 3, none⟩ = some (.int .i64 0) := (blk_cell BK235.out 3).trans rfl; have hfz55_0 := blk_frozen BK235.out 0; have hfz55_1 := blk_frozen BK235.out 1; have hfz55_2 := blk_frozen BK235.out 2; have hfz55_3 := blk_frozen BK235.out 3))
      have n0_ : Aside0 (((((w53.setCell ⟨gb235, 0, none⟩ (.int .i64 ((rd_T93 l0_1 x9_1).f0))).setCell ⟨gb235, 1, none⟩ (.int .i64 ((rd_T93 l0_1 x9_1).f1))).setCell ⟨gb235, 2, none⟩ (.int .i64 ((rd_T93 l0_1 x9_1).f2))).setCell ⟨gb235, 3, none⟩ (.int .i64 ((rd_T93 l0_1 x9_1).f3))).heap[gb233]? = some (.cells #[.int .i64 a0_0, .slice (some ad234) l0_1.length c0_1, .slice A0_2 l0_2.length c0_2] 31 (0, 0))) := ⟨by refine bz_ ?_; refine blk_far ?_ NB233_235.out _; refine bz_ ?_; refine blk_far ?_ NB233_235.out _; refine bz_ ?_; refine blk_far ?_ NB233_235.out _; refine bz_ ?_; refine blk_far ?_ NB233_235.out _; refine bz_ ?_; exact BK233.out⟩
      have n1_ : Aside0 (((((w53.setCell ⟨gb235, 0, none⟩ (.int .i64 ((rd_T93 l0_1 x9_1).f0))).setCell ⟨gb235, 1, none⟩ (.int .i64 ((rd_T93 l0_1 x9_1).f1))).setCell ⟨gb235, 2, none⟩ (.int .i64 ((rd_T93 l0_1 x9_1).f2))).setCell ⟨gb235, 3, none⟩ (.int .i64 ((rd_T93 l0_1 x9_1).f3))).heap[gb235]? = some (.cells #[.int .i64 ((rd_T93 l0_1 x9_1).f0), .int .i64 ((rd_T93 l0_1 x9_1).f1), .int .i64 ((rd_T93 l0_1 x9_1).f2), .int .i64 ((rd_T93 l0_1 x9_1).f3)] 93 (0, 0))) := ⟨by refine bz_ ?_; refine blk_put (cs := #[.int .i64 ((rd_T93 l0_1 x9_1).f0), .int .i64 ((rd_T93 l0_1 x9_1).f1), .int .i64 ((rd_T93 l0_1 x9_1).f2), .int .i64 0]) ?_ 3 _ rfl; refine bz_ ?_; refine blk_put (cs := #[.int .i64 ((rd_T93 l0_1 x9_1).f0), .int .i64 ((rd_T93 l0_1 x9_1).f1), .int .i64 0, .int .i64 0]) ?_ 2 _ rfl; refine bz_ ?_; refine blk_put (cs := #[.int .i64 ((rd_T93 l0_1 x9_1).f0), .int .i64 0, .int .i64 0, .int .i64 0]) ?_ 1 _ rfl; refine bz_ ?_; refine blk_put (cs := #[.int .i64 0, .int .i64 0, .int .i64 0, .int .i64 0]) ?_ 0 _ rfl; refine bz_ ?_; exact BK235.out⟩
      have n2_ : Aside0 (Below w.heap.size w ((((w53.setCell ⟨gb235, 0, none⟩ (.int .i64 ((rd_T93 l0_1 x9_1).f0))).setCell ⟨gb235, 1, none⟩ (.int .i64 ((rd_T93 l0_1 x9_1).f1))).setCell ⟨gb235, 2, none⟩ (.int .i64 ((rd_T93 l0_1 x9_1).f2))).setCell ⟨gb235, 3, none⟩ (.int .i64 ((rd_T93 l0_1 x9_1).f3)))) := ⟨bw_q HB⟩
      (try clear BK233)
      (try clear BK235)
      (try clear HB)
      generalize ((((w53.setCell ⟨gb235, 0, none⟩ (.int .i64 ((rd_T93 l0_1 x9_1).f0))).setCell ⟨gb235, 1, none⟩ (.int .i64 ((rd_T93 l0_1 x9_1).f1))).setCell ⟨gb235, 2, none⟩ (.int .i64 ((rd_T93 l0_1 x9_1).f2))).setCell ⟨gb235, 3, none⟩ (.int .i64 ((rd_T93 l0_1 x9_1).f3))) = w56 at n0_ n1_ n2_ ⊢
      have BK233 := n0_
      have BK235 := n1_
      have HB := n2_
      clear n0_ n1_ n2_
      (try clear hx234_0); (try clear hx234_1); (try clear hx234_2); (try clear hx234_3)
      have H := HC51.out
      clear HC51
      have H' := Aside0.mk H
      clear H
      go_wp2
      go_roundg k1
      case measure => have := HK1.out; omega
      case rel => exact ⟨(wrap64 (x9_1 + 1)), (by first | rfl | (simp; done) | (simp [*]; done)), H', ⟨by have := HK1.out; omega⟩, ⟨by refine bz_ ?_; exact BK233.out⟩, ⟨bw_q HB⟩⟩
    ·rw [if_neg c7] at H
     exact absurd H (by simp)
   ·rw [if_neg c6] at H
    have c6b0 : decide (x9_1 < (l0_1.length : Int)) = false := decide_eq_false c6
    clear c6
    obtain rfl := Option.some.inj H
    obtain ⟨hcz57_0, hcz57_1, hcz57_2⟩ := cz3_ BK233
    obtain ⟨hfz57_0, hfz57_1, hfz57_2⟩ := fz3_ BK233
    go_wp2
    go_ret
    exact ⟨er_q, bw_q HB⟩

end Go.Proofs.Ythjmdiggglkeaaa.Q

/- A Go function as a Lean function, and its contract: for every input the Go code comes to what the Lean function tells. -/


namespace Go.Proofs.Ythjmdiggglkeaaa.Q
open Go.RowKit Go.Proofs.YthjmdiggglkeaaaW.PrintWords Go.Proofs.YthjmdiggglkeaaaW.PrintLast Go.Proofs.YthjmdiggglkeaaaW.PrintMore
attribute [local go_sem] max2_int min2_int max_two min_two max_three min_three max_four min_four   -- for this text's walks alone
set_option linter.unusedVariables false
set_option linter.unusedSimpArgs false

/-! ### spec_l08Heard: function 87 -/
mutual
def spec_l08Heard.j0 : Nat → Bool → Int → Int → Int → List (S93) → List (S102) → List Int → List (S61) → Option (Bool)
 | 0, _, _, _, _, _, _, _, _ => none
 | k + 1, x16, x237000, x237001, x237002, x237003, x237004, x237005, x237006 => if x16 = true then (some false) else (spec_l08Heard.l0 k 0 x237000 x237001 x237002 x237003 x237004 x237005 x237006)
def spec_l08Heard.l0 : Nat → Int → Int → Int → Int → List (S93) → List (S102) → List Int → List (S61) → Option (Bool)
 | 0, _, _, _, _, _, _, _, _ => none
 | k + 1, x3, x237000, x237001, x237002, x237003, x237004, x237005, x237006 => if x3 < (x237005.length : Int) then (if 0 ≤ x3 then (if 0 ≤ (wrap64 (x3 + 1)) then (if (wrap64 (x3 + 1)) < (x237005.length : Int) then ((spec_CostTo.f k x237002 x237003 x237004 x237000 (rd x237005 x3) (rd x237005 (wrap64 (x3 + 1)))).bind fun t239 => (if t239 = 0 then (some false) else (if x3 > 0 then (if 0 ≤ (wrap64 (x3 - 2)) then (if (wrap64 (x3 - 2)) < (x237005.length : Int) then (if (rd x237005 (wrap64 (x3 - 2))) > (rd x237005 x3) then (some false) else (if (rd x237005 (wrap64 (x3 - 2))) = (rd x237005 x3) then (if 0 ≤ (wrap64 (x3 - 1)) then (if (wrap64 (x3 - 1)) < (x237005.length : Int) then (if (rd x237005 (wrap64 (x3 - 1))) ≥ (rd x237005 (wrap64 (x3 + 1))) then (some false) else (spec_l08Heard.l0 k (wrap64 (x3 + 2)) x237000 x237001 x237002 x237003 x237004 x237005 x237006)) else (none)) else (none)) else (spec_l08Heard.l0 k (wrap64 (x3 + 2)) x237000 x237001 x237002 x237003 x237004 x237005 x237006))) else (none)) else (none)) else (spec_l08Heard.l0 k (wrap64 (x3 + 2)) x237000 x237001 x237002 x237003 x237004 x237005 x237006)))) else (none)) else (none)) else (none)) else (some true)
end
def spec_l08Heard.f (k : Nat) (a0_0 : Int) (a0_1 : Int) (a0_2 : Int) (l0_3 : List (S93)) (l0_4 : List (S102)) (l0_5 : List Int) (l0_6 : List (S61)) : Option (Bool) := if ((l0_5.length : Int) % 2) = 1 then (spec_l08Heard.j0 k true a0_0 a0_1 a0_2 l0_3 l0_4 l0_5 l0_6) else (spec_l08Heard.j0 k (decide ((l0_5.length : Int) > 60)) a0_0 a0_1 a0_2 l0_3 l0_4 l0_5 l0_6)
theorem spec_l08Heard.mono_l : ∀ k, (∀ y0 y1 y2 y3 y4 y5 y6 y7, LeO (spec_l08Heard.j0 k y0 y1 y2 y3 y4 y5 y6 y7) (spec_l08Heard.j0 (k + 1) y0 y1 y2 y3 y4 y5 y6 y7)) ∧ (∀ y0 y1 y2 y3 y4 y5 y6 y7, LeO (spec_l08Heard.l0 k y0 y1 y2 y3 y4 y5 y6 y7) (spec_l08Heard.l0 (k + 1) y0 y1 y2 y3 y4 y5 y6 y7))
 | 0 => ⟨fun _ _ _ _ _ _ _ _ r h => by simp [spec_l08Heard.j0] at h, fun _ _ _ _ _ _ _ _ r h => by simp [spec_l08Heard.l0] at h⟩
 | k + 1 => by
  obtain ⟨ih0, ih1⟩ := spec_l08Heard.mono_l k
  refine ⟨?_, ?_⟩
  ·intro y0 y1 y2 y3 y4 y5 y6 y7
   unfold spec_l08Heard.j0
   repeat' first
   | (with_reducible exact ih0 _ _ _ _ _ _ _ _)
   | (with_reducible exact ih1 _ _ _ _ _ _ _ _)
   | (with_reducible exact spec_CostTo.mono _ _ _ _ _ _ _)
   | (with_reducible exact LeO.refl _)
   | (with_reducible exact LeO.none _)
   | (with_reducible refine LeO.ite ?_ ?_)
   | (with_reducible refine LeO.bind ?_ (fun _ => ?_))
   | exact ih0 _ _ _ _ _ _ _ _
   | exact ih1 _ _ _ _ _ _ _ _
   | exact spec_CostTo.mono _ _ _ _ _ _ _
   | exact LeO.none _
   | refine LeO.ite ?_ ?_
   | refine LeO.bind ?_ (fun _ => ?_)
  ·intro y0 y1 y2 y3 y4 y5 y6 y7
   unfold spec_l08Heard.l0
   repeat' first
   | (with_reducible exact ih0 _ _ _ _ _ _ _ _)
   | (with_reducible exact ih1 _ _ _ _ _ _ _ _)
   | (with_reducible exact spec_CostTo.mono _ _ _ _ _ _ _)
   | (with_reducible exact LeO.refl _)
   | (with_reducible exact LeO.none _)
   | (with_reducible refine LeO.ite ?_ ?_)
   | (with_reducible refine LeO.bind ?_ (fun _ => ?_))
   | exact ih0 _ _ _ _ _ _ _ _
   | exact ih1 _ _ _ _ _ _ _ _
   | exact spec_CostTo.mono _ _ _ _ _ _ _
   | exact LeO.none _
   | refine LeO.ite ?_ ?_
   | refine LeO.bind ?_ (fun _ => ?_)
theorem spec_l08Heard.mono : ∀ a0 a1 a2 a3 a4 a5 a6 k, LeO (spec_l08Heard.f k a0 a1 a2 a3 a4 a5 a6) (spec_l08Heard.f (k + 1) a0 a1 a2 a3 a4 a5 a6) := by
 intro a0 a1 a2 a3 a4 a5 a6 k
 obtain ⟨ih0, ih1⟩ := spec_l08Heard.mono_l k
 unfold spec_l08Heard.f
 repeat' first
   | (with_reducible exact ih0 _ _ _ _ _ _ _ _)
   | (with_reducible exact ih1 _ _ _ _ _ _ _ _)
   | (with_reducible exact spec_CostTo.mono _ _ _ _ _ _ _)
   | (with_reducible exact LeO.refl _)
   | (with_reducible exact LeO.none _)
   | (with_reducible refine LeO.ite ?_ ?_)
   | (with_reducible refine LeO.bind ?_ (fun _ => ?_))
   | exact ih0 _ _ _ _ _ _ _ _
   | exact ih1 _ _ _ _ _ _ _ _
   | exact spec_CostTo.mono _ _ _ _ _ _ _
   | exact LeO.none _
   | refine LeO.ite ?_ ?_
   | refine LeO.bind ?_ (fun _ => ?_)
set_option maxHeartbeats 8000000 in
set_option maxRecDepth 100000 in
theorem spec_l08Heard.calls (k : Nat) (a0_0 : Int) (a0_1 : Int) (a0_2 : Int) (A0_3 : Option Addr) (c0_3 : Nat) (l0_3 : List (S93)) (A0_4 : Option Addr) (c0_4 : Nat) (l0_4 : List (S102)) (A0_5 : Option Addr) (c0_5 : Nat) (l0_5 : List Int) (A0_6 : Option Addr) (c0_6 : Nat) (l0_6 : List (S61)) (r : Bool) (w : World) (hr0_3 : Kd.C k93 w A0_3 l0_3.length l0_3) (hc0_3 : l0_3.length ≤ c0_3) (hr0_4 : Kd.C k102 w A0_4 l0_4.length l0_4) (hc0_4 : l0_4.length ≤ c0_4) (hr0_5 : Kd.C (Kd.int .i64) w A0_5 l0_5.length l0_5) (hc0_5 : l0_5.length ≤ c0_5) (hr0_6 : Kd.C k61 w A0_6 l0_6.length l0_6) (hc0_6 : l0_6.length ≤ c0_6) (h : spec_l08Heard.f k a0_0 a0_1 a0_2 l0_3 l0_4 l0_5 l0_6 = some r) :
  Calls Try.prog 87 #[.agg #[.int .i64 a0_0, .int .i64 a0_1, .int .i64 a0_2, .slice A0_3 l0_3.length c0_3, .slice A0_4 l0_4.length c0_4, .slice A0_5 l0_5.length c0_5, .slice A0_6 l0_6.length c0_6]] w fun e w' => e = .returned (.bool r) ∧ Below w.heap.size w w' := by
 have hu43 := Try.underlying43
 have hu31 := Try.underlying31
 have HR0_3 := Aside0.mk hr0_3
 have HC0_3 := Aside0.mk hc0_3
 clear hr0_3 hc0_3
 have HR0_4 := Aside0.mk hr0_4
 have HC0_4 := Aside0.mk hc0_4
 clear hr0_4 hc0_4
 have HR0_5 := Aside0.mk hr0_5
 have HC0_5 := Aside0.mk hc0_5
 clear hr0_5 hc0_5
 have HR0_6 := Aside0.mk hr0_6
 have HC0_6 := Aside0.mk hc0_6
 clear hr0_6 hc0_6
 have HB := Aside0.mk (Below.refl w.heap.size w)
 have H : (if ((l0_5.length : Int) % 2) = 1 then (spec_l08Heard.j0 k true a0_0 a0_1 a0_2 l0_3 l0_4 l0_5 l0_6) else (spec_l08Heard.j0 k (decide ((l0_5.length : Int) > 60)) a0_0 a0_1 a0_2 l0_3 l0_4 l0_5 l0_6)) = some r := h
 clear h
 have HC2 := Aside0.mk H
 clear H
 go_enter Try.func87, Try.ntmps87
 go_upto_region 1 with (first | ((with_reducible refine gate_dst (N := 1) rfl ?_); (try (refine gate_guard (by rfl) ?_; dsimp only)); refine box_q 1 #[.int .i64 a0_0, .int .i64 a0_1, .int .i64 a0_2, .slice A0_3 l0_3.length c0_3, .slice A0_4 l0_4.length c0_4, .slice A0_5 l0_5.length c0_5, .slice A0_6 l0_6.length c0_6] 43 ?_; intro gb236 hg w3 hbox hb; have BK236 := Aside0.mk (hbox); have GW236 := Aside0.mk ((by rw [hg]; exact (below_size (bw_q HB)) : w.heap.size ≤ gb236)); have GE236 := Aside0.mk ((by rw [hg]; exact (below_size (bw_q HB)) : w.heap.size ≤ gb236)); replace HB := Aside0.mk (below_step (bw_q HB) hb); clear hb hbox hg))
 (try simp only [Act.put, List.setIfInBounds_toArray, List.set_cons_zero, List.set_cons_succ])
 go_cut [16] (fun v16 wc => ∃ (kq : Nat) (x16_1 : Bool), v16 = .bool x16_1 ∧ Aside0 (spec_l08Heard.j0 kq x16_1 a0_0 a0_1 a0_2 l0_3 l0_4 l0_5 l0_6 = some r) ∧ Aside0 (kq ≤ k) ∧ Aside0 (wc.heap[gb236]? = some (.cells #[.int .i64 a0_0, .int .i64 a0_1, .int .i64 a0_2, (.slice A0_3 l0_3.length c0_3), (.slice A0_4 l0_4.length c0_4), (.slice A0_5 l0_5.length c0_5), (.slice A0_6 l0_6.length c0_6)] 43 (0, 0))) ∧ Aside0 (Below w.heap.size w wc))
 case first =>
  have H := HC2.out
  clear HC2
  by_cases c4 : ((l0_5.length : Int) % 2) = 1
  ·rw [if_pos c4] at H
   have c4b0 : (((l0_5.length : Int) % 2) == 1) = true := beq_iff_eq.mpr c4
   have c4b1 : (((l0_5.length : Int) % 2) != 1) = false := bne_eq_false_iff_eq.mpr c4
   clear c4
   (first | rw [c4b0] | rw [c4b1] | (simp only [i64_w, i32_w]; first | rw [c4b0] | rw [c4b1]) | skip)
   have H' := Aside0.mk H
   clear H
   obtain ⟨hcz5_0, hcz5_1, hcz5_2, hcz5_3, hcz5_4, hcz5_5, hcz5_6⟩ := cz7_ BK236
   obtain ⟨hfz5_0, hfz5_1, hfz5_2, hfz5_3, hfz5_4, hfz5_5, hfz5_6⟩ := fz7_ BK236
   go_wp2
   go_meet
   case rel => exact ⟨_, (true), (by first | rfl | (simp; done) | (simp [*]; done)), H', ⟨by first | omega | exact Nat.le_refl _⟩, ⟨by refine bz_ ?_; exact BK236.out⟩, ⟨bw_q HB⟩⟩
  ·rw [if_neg c4] at H
   have c4b0 : (((l0_5.length : Int) % 2) == 1) = false := beq_eq_false_iff_ne.mpr c4
   have c4b1 : (((l0_5.length : Int) % 2) != 1) = true := bne_iff_ne.mpr c4
   (first | rw [c4b0] | rw [c4b1] | (simp only [i64_w, i32_w]; first | rw [c4b0] | rw [c4b1]) | skip)
   have H' := Aside0.mk H
   clear H
   obtain ⟨hcz6_0, hcz6_1, hcz6_2, hcz6_3, hcz6_4, hcz6_5, hcz6_6⟩ := cz7_ BK236
   obtain ⟨hfz6_0, hfz6_1, hfz6_2, hfz6_3, hfz6_4, hfz6_5, hfz6_6⟩ := fz7_ BK236
   go_wp2
   go_meet
   case rel => exact ⟨_, (decide ((l0_5.length : Int) > 60)), (by first | rfl | (simp; done) | (simp [*]; done)), H', ⟨by first | omega | exact Nat.le_refl _⟩, ⟨by refine bz_ ?_; exact BK236.out⟩, ⟨bw_q HB⟩⟩
 case rest =>
  clear HC2
  try clear p2
  try clear c4
  try clear c4b0
  try clear c4b1
  try clear hcz5_0
  try clear hcz5_1
  try clear hcz5_2
  try clear hcz5_3
  try clear hcz5_4
  try clear hcz5_5
  try clear hcz5_6
  try clear hcz6_0
  try clear hcz6_1
  try clear hcz6_2
  try clear hcz6_3
  try clear hcz6_4
  try clear hcz6_5
  try clear hcz6_6
  try clear hfz5_0
  try clear hfz5_1
  try clear hfz5_2
  try clear hfz5_3
  try clear hfz5_4
  try clear hfz5_5
  try clear hfz5_6
  try clear hfz6_0
  try clear hfz6_1
  try clear hfz6_2
  try clear hfz6_3
  try clear hfz6_4
  try clear hfz6_5
  try clear hfz6_6
  obtain ⟨kq, x16_1, rfl, HA, HJ1, BK236, HB⟩ := hcut
  cases kq with
  | zero => exact absurd HA.out (by simp [spec_l08Heard.j0])
  | succ kj1 =>
   have H := HA.out
   clear HA
   simp only [spec_l08Heard.j0] at H
   by_cases c7 : x16_1 = true
   ·subst c7
    have H1 : (some false) = some r := by rw [if_pos rfl] at H; exact H
    clear H
    have H := H1
    clear H1
    obtain rfl := Option.some.inj H
    go_wp2
    go_ret
    exact ⟨er_q, bw_q HB⟩
   ·replace c7 := Bool.eq_false_iff.mpr c7
    subst c7
    have H1 : (spec_l08Heard.l0 kj1 0 a0_0 a0_1 a0_2 l0_3 l0_4 l0_5 l0_6) = some r := by rw [if_neg (show ¬ (false = true) by decide)] at H; exact H
    clear H
    have H := H1
    clear H1
    have H' := Aside0.mk H
    clear H
    go_wp2
    go_loopg [3] kj1 (fun kq v3 w' => ∃ (x3_2 : Int), v3 = .int .i64 x3_2 ∧ Aside0 (spec_l08Heard.l0 kq x3_2 a0_0 a0_1 a0_2 l0_3 l0_4 l0_5 l0_6 = some r) ∧ Aside0 (kq ≤ kj1) ∧ Aside0 (w'.heap[gb236]? = some (.cells #[.int .i64 a0_0, .int .i64 a0_1, .int .i64 a0_2, (.slice A0_3 l0_3.length c0_3), (.slice A0_4 l0_4.length c0_4), (.slice A0_5 l0_5.length c0_5), (.slice A0_6 l0_6.length c0_6)] 43 (0, 0))) ∧ Aside0 (Below w.heap.size w w'))
    case atStart => exact ⟨(0), (by first | rfl | (simp; done) | (simp [*]; done)), H', ⟨Nat.le_refl _⟩, ⟨by refine bz_ ?_; exact BK236.out⟩, ⟨bw_q HB⟩⟩
    case round =>
     clear H'
     try clear p2
     try clear c4
     try clear c4b0
     try clear c4b1
     try clear c7
     try clear hcz5_0
     try clear hcz5_1
     try clear hcz5_2
     try clear hcz5_3
     try clear hcz5_4
     try clear hcz5_5
     try clear hcz5_6
     try clear hcz6_0
     try clear hcz6_1
     try clear hcz6_2
     try clear hcz6_3
     try clear hcz6_4
     try clear hcz6_5
     try clear hcz6_6
     try clear hfz5_0
     try clear hfz5_1
     try clear hfz5_2
     try clear hfz5_3
     try clear hfz5_4
     try clear hfz5_5
     try clear hfz5_6
     try clear hfz6_0
     try clear hfz6_1
     try clear hfz6_2
     try clear hfz6_3
     try clear hfz6_4
     try clear hfz6_5
     try clear hfz6_6
     try clear p2
     obtain ⟨x3_2, rfl, HA, HK2, BK236, HB⟩ := hrel
     cases gk with
     | zero => exact absurd HA.out (by simp [spec_l08Heard.l0])
     | succ k2 =>
      have H := HA.out
      clear HA
      simp only [spec_l08Heard.l0] at H
      by_cases c8 : x3_2 < (l0_5.length : Int)
      ·rw [if_pos c8] at H
       have c8b0 : decide (x3_2 < (l0_5.length : Int)) = true := decide_eq_true c8
       clear c8
       by_cases c9 : 0 ≤ x3_2
       ·rw [if_pos c9] at H
        have c9b0 : decide (0 ≤ x3_2) = true := decide_eq_true c9
        clear c9
        obtain ⟨ji10, hji10⟩ : ∃ j_ : Int, (wrap64 (x3_2 + 1)) = j_ := ⟨_, rfl⟩
        replace H : (if 0 ≤ (ji10) then (if (ji10) < (l0_5.length : Int) then ((spec_CostTo.f k2 a0_2 l0_3 l0_4 a0_0 (rd l0_5 x3_2) (rd l0_5 (ji10))).bind fun t239 => (if t239 = 0 then (some false) else (if x3_2 > 0 then (if 0 ≤ (wrap64 (x3_2 - 2)) then (if (wrap64 (x3_2 - 2)) < (l0_5.length : Int) then (if (rd l0_5 (wrap64 (x3_2 - 2))) > (rd l0_5 x3_2) then (some false) else (if (rd l0_5 (wrap64 (x3_2 - 2))) = (rd l0_5 x3_2) then (if 0 ≤ (wrap64 (x3_2 - 1)) then (if (wrap64 (x3_2 - 1)) < (l0_5.length : Int) then (if (rd l0_5 (wrap64 (x3_2 - 1))) ≥ (rd l0_5 (ji10)) then (some false) else (spec_l08Heard.l0 k2 (wrap64 (x3_2 + 2)) a0_0 a0_1 a0_2 l0_3 l0_4 l0_5 l0_6)) else (none)) else (none)) else (spec_l08Heard.l0 k2 (wrap64 (x3_2 + 2)) a0_0 a0_1 a0_2 l0_3 l0_4 l0_5 l0_6))) else (none)) else (none)) else (spec_l08Heard.l0 k2 (wrap64 (x3_2 + 2)) a0_0 a0_1 a0_2 l0_3 l0_4 l0_5 l0_6)))) else (none)) else (none)) = some r := by first | (rw [hji10] at H; exact H) | (simp only [hji10] at H ⊢; exact H)
        have hji10w : (IntKind.i64.wrap (x3_2 + 1)) = ji10 := (i64_w _).trans hji10
        by_cases c11 : 0 ≤ (ji10)
        ·rw [if_pos c11] at H
         have c11b0 : decide (0 ≤ (ji10)) = true := decide_eq_true c11
         clear c11
         by_cases c12 : (ji10) < (l0_5.length : Int)
         ·rw [if_pos c12] at H
          have c12b0 : decide ((ji10) < (l0_5.length : Int)) = true := decide_eq_true c12
          clear c12
          replace H := Option.bind_eq_some_iff.mp H
          obtain ⟨t239, A130, H⟩ := H
          replace H : (if t239 = 0 then (some false) else (if x3_2 > 0 then (if 0 ≤ (wrap64 (x3_2 - 2)) then (if (wrap64 (x3_2 - 2)) < (l0_5.length : Int) then (if (rd l0_5 (wrap64 (x3_2 - 2))) > (rd l0_5 x3_2) then (some false) else (if (rd l0_5 (wrap64 (x3_2 - 2))) = (rd l0_5 x3_2) then (if 0 ≤ (wrap64 (x3_2 - 1)) then (if (wrap64 (x3_2 - 1)) < (l0_5.length : Int) then (if (rd l0_5 (wrap64 (x3_2 - 1))) ≥ (rd l0_5 (ji10)) then (some false) else (spec_l08Heard.l0 k2 (wrap64 (x3_2 + 2)) a0_0 a0_1 a0_2 l0_3 l0_4 l0_5 l0_6)) else (none)) else (none)) else (spec_l08Heard.l0 k2 (wrap64 (x3_2 + 2)) a0_0 a0_1 a0_2 l0_3 l0_4 l0_5 l0_6))) else (none)) else (none)) else (spec_l08Heard.l0 k2 (wrap64 (x3_2 + 2)) a0_0 a0_1 a0_2 l0_3 l0_4 l0_5 l0_6))) = some r := H
          have A13 := Aside0.mk A130
          clear A130
          by_cases c14 : t239 = 0
          ·rw [if_pos c14] at H
           have c14b0 : (t239 == 0) = true := beq_iff_eq.mpr c14
           have c14b1 : (t239 != 0) = false := bne_eq_false_iff_eq.mpr c14
           clear c14
           obtain rfl := Option.some.inj H
           obtain ⟨hcz15_0, hcz15_1, hcz15_2, hcz15_3, hcz15_4, hcz15_5, hcz15_6⟩ := cz7_ BK236
           obtain ⟨hfz15_0, hfz15_1, hfz15_2, hfz15_3, hfz15_4, hfz15_5, hfz15_6⟩ := fz7_ BK236
           have p237 : 0 ≤ (x3_2 : Int) := of_decide_eq_true as_q
           have q237 : x3_2 < (l0_5.length : Int) := of_decide_eq_true as_q
           obtain ⟨ad237, e237, hx237_0⟩ := Kd.at_int HR0_5.out x3_2 p237 q237
           cases e237
           replace hx237_0 := (HB.out.cell (World.block_lt_of_cell? w _ hx237_0)).trans hx237_0
           replace p237 := eq_true p237
           replace q237 := eq_true q237
           have p238 : 0 ≤ ((ji10) : Int) := of_decide_eq_true as_q
           have q238 : (ji10) < (l0_5.length : Int) := of_decide_eq_true as_q
           obtain ⟨ad238, e238, hx238_0⟩ := Kd.at_int HR0_5.out (ji10) p238 q238
           obtain rfl : ad237 = ad238 := (by injection e238)
           replace hx238_0 := (HB.out.cell (World.block_lt_of_cell? w _ hx238_0)).trans hx238_0
           replace p238 := eq_true p238
           replace q238 := eq_true q238
           go_wp2_with (first | ((with_reducible refine gate_callee (f := 130) rfl ?_); refine goesL_ (some 41) rfl rfl Try.func130 (by kernel_rfl) rfl #[.agg #[.int .i64 a0_2, .slice A0_3 l0_3.length c0_3, .slice A0_4 l0_4.length c0_4], .int .i64 a0_0, .int .i64 (rd l0_5 x3_2), .int .i64 (rd l0_5 (ji10))] rfl (by (try simp only [List.map_toArray, List.map_cons, List.map_nil]); first | done | (simp only [hji10]; rfl) | rfl | (simp only [List.length_drop, List.length_take]; rfl)) ?_; (with_reducible refine (spec_CostTo.calls k2 a0_2 _ _ l0_3 _ _ l0_4 a0_0 (rd l0_5 x3_2) (rd l0_5 (ji10)) t239 _ ?side1 ?side2 ?side3 ?side4 A13.out).mono ?_); (case side1 => exact cs_q (Kd.C_below HR0_3.out HB.out)); (case side2 => exact HC0_3.out); (case side3 => exact cs_q (Kd.C_below HR0_4.out HB.out)); (case side4 => exact HC0_4.out); rintro e w16 ⟨rfl, hb⟩; refine ⟨_, rfl, ?_⟩; replace BK236 := Aside0.mk (blk_below (g := gb236) (bk_q BK236) hb); replace HB := Aside0.mk (below_step (bw_q HB) hb); (try clear hb); (try clear hb2); (try clear hk); (try clear hi)))
           go_ret
           exact ⟨by first | rfl | (simp [errW_none, errW_some] <;> rfl) | (simp only [← hji10]; first | rfl | (simp [errW_none, errW_some] <;> rfl)) | (simp [*, errW_none, errW_some] <;> rfl), bw_q HB⟩
          ·rw [if_neg c14] at H
           have c14b0 : (t239 == 0) = false := beq_eq_false_iff_ne.mpr c14
           have c14b1 : (t239 != 0) = true := bne_iff_ne.mpr c14
           by_cases c17 : x3_2 > 0
           ·rw [if_pos c17] at H
            have c17b0 : decide (0 < x3_2) = true := decide_eq_true c17
            clear c17
            obtain ⟨ji18, hji18⟩ : ∃ j_ : Int, (wrap64 (x3_2 - 2)) = j_ := ⟨_, rfl⟩
            replace H : (if 0 ≤ (ji18) then (if (ji18) < (l0_5.length : Int) then (if (rd l0_5 (ji18)) > (rd l0_5 x3_2) then (some false) else (if (rd l0_5 (ji18)) = (rd l0_5 x3_2) then (if 0 ≤ (wrap64 (x3_2 - 1)) then (if (wrap64 (x3_2 - 1)) < (l0_5.length : Int) then (if (rd l0_5 (wrap64 (x3_2 - 1))) ≥ (rd l0_5 (ji10)) then (some false) else (spec_l08Heard.l0 k2 (wrap64 (x3_2 + 2)) a0_0 a0_1 a0_2 l0_3 l0_4 l0_5 l0_6)) else (none)) else (none)) else (spec_l08Heard.l0 k2 (wrap64 (x3_2 + 2)) a0_0 a0_1 a0_2 l0_3 l0_4 l0_5 l0_6))) else (none)) else (none)) = some r := by first | (rw [hji18] at H; exact H) | (simp only [hji18] at H ⊢; exact H)
            (try rw [hji18] at A13)
            have hji18w : (IntKind.i64.wrap (x3_2 - 2)) = ji18 := (i64_w _).trans hji18
            by_cases c19 : 0 ≤ (ji18)
            ·rw [if_pos c19] at H
             have c19b0 : decide (0 ≤ (ji18)) = true := decide_eq_true c19
             clear c19
             by_cases c20 : (ji18) < (l0_5.length : Int)
             ·rw [if_pos c20] at H
              have c20b0 : decide ((ji18) < (l0_5.length : Int)) = true := decide_eq_true c20
              clear c20
              by_cases c21 : (rd l0_5 (ji18)) > (rd l0_5 x3_2)
              ·rw [if_pos c21] at H
               have c21b0 : decide ((rd l0_5 x3_2) < (rd l0_5 (ji18))) = true := decide_eq_true c21
               clear c21
               obtain rfl := Option.some.inj H
               obtain ⟨hcz22_0, hcz22_1, hcz22_2, hcz22_3, hcz22_4, hcz22_5, hcz22_6⟩ := cz7_ BK236
               obtain ⟨hfz22_0, hfz22_1, hfz22_2, hfz22_3, hfz22_4, hfz22_5, hfz22_6⟩ := fz7_ BK236
               have p237 : 0 ≤ (x3_2 : Int) := of_decide_eq_true as_q
               have q237 : x3_2 < (l0_5.length : Int) := of_decide_eq_true as_q
               obtain ⟨ad237, e237, hx237_0⟩ := Kd.at_int HR0_5.out x3_2 p237 q237
               cases e237
               replace hx237_0 := (HB.out.cell (World.block_lt_of_cell? w _ hx237_0)).trans hx237_0
               replace p237 := eq_true p237
               replace q237 := eq_true q237
               have p238 : 0 ≤ ((ji10) : Int) := of_decide_eq_true as_q
               have q238 : (ji10) < (l0_5.length : Int) := of_decide_eq_true as_q
               obtain ⟨ad238, e238, hx238_0⟩ := Kd.at_int HR0_5.out (ji10) p238 q238
               obtain rfl : ad237 = ad238 := (by injection e238)
               replace hx238_0 := (HB.out.cell (World.block_lt_of_cell? w _ hx238_0)).trans hx238_0
               replace p238 := eq_true p238
               replace q238 := eq_true q238
               go_wp2_with (first | ((with_reducible refine gate_callee (f := 130) rfl ?_); refine goesL_ (some 41) rfl rfl Try.func130 (by kernel_rfl) rfl #[.agg #[.int .i64 a0_2, .slice A0_3 l0_3.length c0_3, .slice A0_4 l0_4.length c0_4], .int .i64 a0_0, .int .i64 (rd l0_5 x3_2), .int .i64 (rd l0_5 (ji10))] rfl (by (try simp only [List.map_toArray, List.map_cons, List.map_nil]); first | done | (simp only [hji10]; rfl) | rfl | (simp only [List.length_drop, List.length_take]; rfl)) ?_; (with_reducible refine (spec_CostTo.calls k2 a0_2 _ _ l0_3 _ _ l0_4 a0_0 (rd l0_5 x3_2) (rd l0_5 (ji10)) t239 _ ?side1 ?side2 ?side3 ?side4 A13.out).mono ?_); (case side1 => exact cs_q (Kd.C_below HR0_3.out HB.out)); (case side2 => exact HC0_3.out); (case side3 => exact cs_q (Kd.C_below HR0_4.out HB.out)); (case side4 => exact HC0_4.out); rintro e w23 ⟨rfl, hb⟩; refine ⟨_, rfl, ?_⟩; replace BK236 := Aside0.mk (blk_below (g := gb236) (bk_q BK236) hb); replace HB := Aside0.mk (below_step (bw_q HB) hb); (try clear hb); (try clear hb2); (try clear hk); (try clear hi); have hcz24_0 : w23.cell? ⟨gb236, 0, none⟩ = some (.int .i64 a0_0) := (blk_cell BK236.out 0).trans rfl; have hcz24_1 : w23.cell? ⟨gb236, 1, none⟩ = some (.int .i64 a0_1) := (blk_cell BK236.out 1).trans rfl; have hcz24_2 : w23.cell? ⟨gb236, 2, none⟩ = some (.int .i64 a0_2) := (blk_cell BK236.out 2).trans rfl; have hcz24_3 : w23.cell? ⟨gb236, 3, none⟩ = some (.slice A0_3 l0_3.length c0_3) := (blk_cell BK236.out 3).trans rfl; have hcz24_4 : w23.cell? ⟨gb236, 4, none⟩ = some (.slice A0_4 l0_4.length c0_4) := (blk_cell BK236.out 4).trans rfl; have hcz24_5 : w23.cell? ⟨gb236, 5, none⟩ = some (.slice (some ad237) l0_5.length c0_5) := (blk_cell BK236.out 5).trans rfl; have hcz24_6 : w23.cell? ⟨gb236, 6, none⟩ = some (.slice A0_6 l0_6.length c0_6) := (blk_cell BK236.out 6).trans rfl; have hfz24_0 := blk_frozen BK236.out 0; have hfz24_1 := blk_frozen BK236.out 1; have hfz24_2 := blk_frozen BK236.out 2; have hfz24_3 := blk_frozen BK236.out 3; have hfz24_4 := blk_frozen BK236.out 4; have hfz24_5 := blk_frozen BK236.out 5; have hfz24_6 := blk_frozen BK236.out 6; have p240 : 0 ≤ ((ji18) : Int) := of_decide_eq_true as_q; have q240 : (ji18) < (l0_5.length : Int) := of_decide_eq_true as_q; obtain ⟨ad240, e240, hx240_0⟩ := Kd.at_int HR0_5.out (ji18) p240 q240; obtain rfl : ad237 = ad240 := (by injection e240); replace hx240_0 := (HB.out.cell (World.block_lt_of_cell? w _ hx240_0)).trans hx240_0; replace p240 := eq_true p240; replace q240 := eq_true q240))
               go_ret
               exact ⟨by first | rfl | (simp [errW_none, errW_some] <;> rfl) | (simp only [← hji10, ← hji18]; first | rfl | (simp [errW_none, errW_some] <;> rfl)) | (simp [*, errW_none, errW_some] <;> rfl), bw_q HB⟩
              ·rw [if_neg c21] at H
               have c21b0 : decide ((rd l0_5 x3_2) < (rd l0_5 (ji18))) = false := decide_eq_false c21
               clear c21
               by_cases c25 : (rd l0_5 (ji18)) = (rd l0_5 x3_2)
               ·rw [if_pos c25] at H
                have c25b0 : ((rd l0_5 (ji18)) == (rd l0_5 x3_2)) = true := beq_iff_eq.mpr c25
                have c25b1 : ((rd l0_5 (ji18)) != (rd l0_5 x3_2)) = false := bne_eq_false_iff_eq.mpr c25
                clear c25
                obtain ⟨ji26, hji26⟩ : ∃ j_ : Int, (wrap64 (x3_2 - 1)) = j_ := ⟨_, rfl⟩
                replace H : (if 0 ≤ (ji26) then (if (ji26) < (l0_5.length : Int) then (if (rd l0_5 (ji26)) ≥ (rd l0_5 (ji10)) then (some false) else (spec_l08Heard.l0 k2 (wrap64 (x3_2 + 2)) a0_0 a0_1 a0_2 l0_3 l0_4 l0_5 l0_6)) else (none)) else (none)) = some r := by first | (rw [hji26] at H; exact H) | (simp only [hji26] at H ⊢; exact H)
                (try rw [hji26] at A13)
                have hji26w : (IntKind.i64.wrap (x3_2 - 1)) = ji26 := (i64_w _).trans hji26
                by_cases c27 : 0 ≤ (ji26)
                ·rw [if_pos c27] at H
                 have c27b0 : decide (0 ≤ (ji26)) = true := decide_eq_true c27
                 clear c27
                 by_cases c28 : (ji26) < (l0_5.length : Int)
                 ·rw [if_pos c28] at H
                  have c28b0 : decide ((ji26) < (l0_5.length : Int)) = true := decide_eq_true c28
                  clear c28
                  have HC29 := Aside0.mk H
                  clear H
                  obtain ⟨hcz30_0, hcz30_1, hcz30_2, hcz30_3, hcz30_4, hcz30_5, hcz30_6⟩ := cz7_ BK236
                  obtain ⟨hfz30_0, hfz30_1, hfz30_2, hfz30_3, hfz30_4, hfz30_5, hfz30_6⟩ := fz7_ BK236
                  have p237 : 0 ≤ (x3_2 : Int) := of_decide_eq_true as_q
                  have q237 : x3_2 < (l0_5.length : Int) := of_decide_eq_true as_q
                  obtain ⟨ad237, e237, hx237_0⟩ := Kd.at_int HR0_5.out x3_2 p237 q237
                  cases e237
                  replace hx237_0 := (HB.out.cell (World.block_lt_of_cell? w _ hx237_0)).trans hx237_0
                  replace p237 := eq_true p237
                  replace q237 := eq_true q237
                  have p238 : 0 ≤ ((ji10) : Int) := of_decide_eq_true as_q
                  have q238 : (ji10) < (l0_5.length : Int) := of_decide_eq_true as_q
                  obtain ⟨ad238, e238, hx238_0⟩ := Kd.at_int HR0_5.out (ji10) p238 q238
                  obtain rfl : ad237 = ad238 := (by injection e238)
                  replace hx238_0 := (HB.out.cell (World.block_lt_of_cell? w _ hx238_0)).trans hx238_0
                  replace p238 := eq_true p238
                  replace q238 := eq_true q238
                  go_upto_if 76 with (first | ((with_reducible refine gate_callee (f := 130) rfl ?_); refine goesL_ (some 41) rfl rfl Try.func130 (by kernel_rfl) rfl #[.agg #[.int .i64 a0_2, .slice A0_3 l0_3.length c0_3, .slice A0_4 l0_4.length c0_4], .int .i64 a0_0, .int .i64 (rd l0_5 x3_2), .int .i64 (rd l0_5 (ji10))] rfl (by (try simp only [List.map_toArray, List.map_cons, List.map_nil]); first | done | (simp only [hji10]; rfl) | rfl | (simp only [List.length_drop, List.length_take]; rfl)) ?_; (with_reducible refine (spec_CostTo.calls k2 a0_2 _ _ l0_3 _ _ l0_4 a0_0 (rd l0_5 x3_2) (rd l0_5 (ji10)) t239 _ ?side1 ?side2 ?side3 ?side4 A13.out).mono ?_); (case side1 => exact cs_q (Kd.C_below HR0_3.out HB.out)); (case side2 => exact HC0_3.out); (case side3 => exact cs_q (Kd.C_below HR0_4.out HB.out)); (case side4 => exact HC0_4.out); rintro e w31 ⟨rfl, hb⟩; refine ⟨_, rfl, ?_⟩; replace BK236 := Aside0.mk (blk_below (g := gb236) (bk_q BK236) hb); replace HB := Aside0.mk (below_step (bw_q HB) hb); (try clear hb); (try clear hb2); (try clear hk); (try clear hi); have hcz32_0 : w31.cell? ⟨gb236, 0, none⟩ = some (.int .i64 a0_0) := (blk_cell BK236.out 0).trans rfl; have hcz32_1 : w31.cell? ⟨gb236, 1, none⟩ = some (.int .i64 a0_1) := (blk_cell BK236.out 1).trans rfl; have hcz32_2 : w31.cell? ⟨gb236, 2, none⟩ = some (.int .i64 a0_2) := (blk_cell BK236.out 2).trans rfl; have hcz32_3 : w31.cell? ⟨gb236, 3, none⟩ = some (.slice A0_3 l0_3.length c0_3) := (blk_cell BK236.out 3).trans rfl; have hcz32_4 : w31.cell? ⟨gb236, 4, none⟩ = some (.slice A0_4 l0_4.length c0_4) := (blk_cell BK236.out 4).trans rfl; have hcz32_5 : w31.cell? ⟨gb236, 5, none⟩ = some (.slice (some ad237) l0_5.length c0_5) := (blk_cell BK236.out 5).trans rfl; have hcz32_6 : w31.cell? ⟨gb236, 6, none⟩ = some (.slice A0_6 l0_6.length c0_6) := (blk_cell BK236.out 6).trans rfl; have hfz32_0 := blk_frozen BK236.out 0; have hfz32_1 := blk_frozen BK236.out 1; have hfz32_2 := blk_frozen BK236.out 2; have hfz32_3 := blk_frozen BK236.out 3; have hfz32_4 := blk_frozen BK236.out 4; have hfz32_5 := blk_frozen BK236.out 5; have hfz32_6 := blk_frozen BK236.out 6; have p240 : 0 ≤ ((ji18) : Int) := of_decide_eq_true as_q; have q240 : (ji18) < (l0_5.length : Int) := of_decide_eq_true as_q; obtain ⟨ad240, e240, hx240_0⟩ := Kd.at_int HR0_5.out (ji18) p240 q240; obtain rfl : ad237 = ad240 := (by injection e240); replace hx240_0 := (HB.out.cell (World.block_lt_of_cell? w _ hx240_0)).trans hx240_0; replace p240 := eq_true p240; replace q240 := eq_true q240; have p241 : 0 ≤ ((ji18) : Int) := of_decide_eq_true as_q; have q241 : (ji18) < (l0_5.length : Int) := of_decide_eq_true as_q; obtain ⟨ad241, e241, hx241_0⟩ := Kd.at_int HR0_5.out (ji18) p241 q241; obtain rfl : ad237 = ad241 := (by injection e241); replace hx241_0 := (HB.out.cell (World.block_lt_of_cell? w _ hx241_0)).trans hx241_0; replace p241 := eq_true p241; replace q241 := eq_true q241; have p242 : 0 ≤ ((ji26) : Int) := of_decide_eq_true as_q; have q242 : (ji26) < (l0_5.length : Int) := of_decide_eq_true as_q; obtain ⟨ad242, e242, hx242_0⟩ := Kd.at_int HR0_5.out (ji26) p242 q242; obtain rfl : ad237 = ad242 := (by injection e242); replace hx242_0 := (HB.out.cell (World.block_lt_of_cell? w _ hx242_0)).trans hx242_0; replace p242 := eq_true p242; replace q242 := eq_true q242))
                  (try clear hx237_0); (try clear hx238_0)
                  have H := HC29.out
                  clear HC29
                  by_cases c33 : (rd l0_5 (ji26)) ≥ (rd l0_5 (ji10))
                  ·rw [if_pos c33] at H
                   have c33b0 : decide ((rd l0_5 (ji10)) ≤ (rd l0_5 (ji26))) = true := decide_eq_true c33
                   clear c33
                   (first | rw [c33b0] | rw [c33b1] | (simp only [i64_w, i32_w]; first | rw [c33b0] | rw [c33b1]) | skip)
                   obtain rfl := Option.some.inj H
                   go_wp2
                   go_ret
                   exact ⟨by first | rfl | (simp [errW_none, errW_some] <;> rfl) | (simp only [← hji10, ← hji18, ← hji26]; first | rfl | (simp [errW_none, errW_some] <;> rfl)) | (simp [*, errW_none, errW_some] <;> rfl), bw_q HB⟩
                  ·rw [if_neg c33] at H
                   have c33b0 : decide ((rd l0_5 (ji10)) ≤ (rd l0_5 (ji26))) = false := decide_eq_false c33
                   clear c33
                   (first | rw [c33b0] | rw [c33b1] | (simp only [i64_w, i32_w]; first | rw [c33b0] | rw [c33b1]) | skip)
                   have H' := Aside0.mk H
                   clear H
                   go_wp2
                   go_roundg k2
                   case measure => have := HJ1.out; have := HK2.out; omega
                   case rel => exact ⟨(wrap64 (x3_2 + 2)), (by first | rfl | (simp; done) | (simp [*]; done)), H', ⟨by have := HJ1.out; have := HK2.out; omega⟩, ⟨by refine bz_ ?_; exact BK236.out⟩, ⟨bw_q HB⟩⟩
                 ·rw [if_neg c28] at H
                  exact absurd H (by simp)
                ·rw [if_neg c27] at H
                 exact absurd H (by simp)
               ·rw [if_neg c25] at H
                have c25b0 : ((rd l0_5 (ji18)) == (rd l0_5 x3_2)) = false := beq_eq_false_iff_ne.mpr c25
                have c25b1 : ((rd l0_5 (ji18)) != (rd l0_5 x3_2)) = true := bne_iff_ne.mpr c25
                have HC34 := Aside0.mk H
                clear H
                obtain ⟨hcz35_0, hcz35_1, hcz35_2, hcz35_3, hcz35_4, hcz35_5, hcz35_6⟩ := cz7_ BK236
                obtain ⟨hfz35_0, hfz35_1, hfz35_2, hfz35_3, hfz35_4, hfz35_5, hfz35_6⟩ := fz7_ BK236
                have p237 : 0 ≤ (x3_2 : Int) := of_decide_eq_true as_q
                have q237 : x3_2 < (l0_5.length : Int) := of_decide_eq_true as_q
                obtain ⟨ad237, e237, hx237_0⟩ := Kd.at_int HR0_5.out x3_2 p237 q237
                cases e237
                replace hx237_0 := (HB.out.cell (World.block_lt_of_cell? w _ hx237_0)).trans hx237_0
                replace p237 := eq_true p237
                replace q237 := eq_true q237
                have p238 : 0 ≤ ((ji10) : Int) := of_decide_eq_true as_q
                have q238 : (ji10) < (l0_5.length : Int) := of_decide_eq_true as_q
                obtain ⟨ad238, e238, hx238_0⟩ := Kd.at_int HR0_5.out (ji10) p238 q238
                obtain rfl : ad237 = ad238 := (by injection e238)
                replace hx238_0 := (HB.out.cell (World.block_lt_of_cell? w _ hx238_0)).trans hx238_0
                replace p238 := eq_true p238
                replace q238 := eq_true q238
                go_upto_if 76 with (first | ((with_reducible refine gate_callee (f := 130) rfl ?_); refine goesL_ (some 41) rfl rfl Try.func130 (by kernel_rfl) rfl #[.agg #[.int .i64 a0_2, .slice A0_3 l0_3.length c0_3, .slice A0_4 l0_4.length c0_4], .int .i64 a0_0, .int .i64 (rd l0_5 x3_2), .int .i64 (rd l0_5 (ji10))] rfl (by (try simp only [List.map_toArray, List.map_cons, List.map_nil]); first | done | (simp only [hji10]; rfl) | rfl | (simp only [List.length_drop, List.length_take]; rfl)) ?_; (with_reducible refine (spec_CostTo.calls k2 a0_2 _ _ l0_3 _ _ l0_4 a0_0 (rd l0_5 x3_2) (rd l0_5 (ji10)) t239 _ ?side1 ?side2 ?side3 ?side4 A13.out).mono ?_); (case side1 => exact cs_q (Kd.C_below HR0_3.out HB.out)); (case side2 => exact HC0_3.out); (case side3 => exact cs_q (Kd.C_below HR0_4.out HB.out)); (case side4 => exact HC0_4.out); rintro e w36 ⟨rfl, hb⟩; refine ⟨_, rfl, ?_⟩; replace BK236 := Aside0.mk (blk_below (g := gb236) (bk_q BK236) hb); replace HB := Aside0.mk (below_step (bw_q HB) hb); (try clear hb); (try clear hb2); (try clear hk); (try clear hi); have hcz37_0 : w36.cell? ⟨gb236, 0, none⟩ = some (.int .i64 a0_0) := (blk_cell BK236.out 0).trans rfl; have hcz37_1 : w36.cell? ⟨gb236, 1, none⟩ = some (.int .i64 a0_1) := (blk_cell BK236.out 1).trans rfl; have hcz37_2 : w36.cell? ⟨gb236, 2, none⟩ = some (.int .i64 a0_2) := (blk_cell BK236.out 2).trans rfl; have hcz37_3 : w36.cell? ⟨gb236, 3, none⟩ = some (.slice A0_3 l0_3.length c0_3) := (blk_cell BK236.out 3).trans rfl; have hcz37_4 : w36.cell? ⟨gb236, 4, none⟩ = some (.slice A0_4 l0_4.length c0_4) := (blk_cell BK236.out 4).trans rfl; have hcz37_5 : w36.cell? ⟨gb236, 5, none⟩ = some (.slice (some ad237) l0_5.length c0_5) := (blk_cell BK236.out 5).trans rfl; have hcz37_6 : w36.cell? ⟨gb236, 6, none⟩ = some (.slice A0_6 l0_6.length c0_6) := (blk_cell BK236.out 6).trans rfl; have hfz37_0 := blk_frozen BK236.out 0; have hfz37_1 := blk_frozen BK236.out 1; have hfz37_2 := blk_frozen BK236.out 2; have hfz37_3 := blk_frozen BK236.out 3; have hfz37_4 := blk_frozen BK236.out 4; have hfz37_5 := blk_frozen BK236.out 5; have hfz37_6 := blk_frozen BK236.out 6; have p240 : 0 ≤ ((ji18) : Int) := of_decide_eq_true as_q; have q240 : (ji18) < (l0_5.length : Int) := of_decide_eq_true as_q; obtain ⟨ad240, e240, hx240_0⟩ := Kd.at_int HR0_5.out (ji18) p240 q240; obtain rfl : ad237 = ad240 := (by injection e240); replace hx240_0 := (HB.out.cell (World.block_lt_of_cell? w _ hx240_0)).trans hx240_0; replace p240 := eq_true p240; replace q240 := eq_true q240; have p241 : 0 ≤ ((ji18) : Int) := of_decide_eq_true as_q; have q241 : (ji18) < (l0_5.length : Int) := of_decide_eq_true as_q; obtain ⟨ad241, e241, hx241_0⟩ := Kd.at_int HR0_5.out (ji18) p241 q241; obtain rfl : ad237 = ad241 := (by injection e241); replace hx241_0 := (HB.out.cell (World.block_lt_of_cell? w _ hx241_0)).trans hx241_0; replace p241 := eq_true p241; replace q241 := eq_true q241))
                (try clear hx237_0); (try clear hx238_0)
                have H := HC34.out
                clear HC34
                have H' := Aside0.mk H
                clear H
                go_wp2
                go_roundg k2
                case measure => have := HJ1.out; have := HK2.out; omega
                case rel => exact ⟨(wrap64 (x3_2 + 2)), (by first | rfl | (simp; done) | (simp [*]; done)), H', ⟨by have := HJ1.out; have := HK2.out; omega⟩, ⟨by refine bz_ ?_; exact BK236.out⟩, ⟨bw_q HB⟩⟩
             ·rw [if_neg c20] at H
              exact absurd H (by simp)
            ·rw [if_neg c19] at H
             exact absurd H (by simp)
           ·rw [if_neg c17] at H
            have c17b0 : decide (0 < x3_2) = false := decide_eq_false c17
            clear c17
            have HC38 := Aside0.mk H
            clear H
            obtain ⟨hcz39_0, hcz39_1, hcz39_2, hcz39_3, hcz39_4, hcz39_5, hcz39_6⟩ := cz7_ BK236
            obtain ⟨hfz39_0, hfz39_1, hfz39_2, hfz39_3, hfz39_4, hfz39_5, hfz39_6⟩ := fz7_ BK236
            have p237 : 0 ≤ (x3_2 : Int) := of_decide_eq_true as_q
            have q237 : x3_2 < (l0_5.length : Int) := of_decide_eq_true as_q
            obtain ⟨ad237, e237, hx237_0⟩ := Kd.at_int HR0_5.out x3_2 p237 q237
            cases e237
            replace hx237_0 := (HB.out.cell (World.block_lt_of_cell? w _ hx237_0)).trans hx237_0
            replace p237 := eq_true p237
            replace q237 := eq_true q237
            have p238 : 0 ≤ ((ji10) : Int) := of_decide_eq_true as_q
            have q238 : (ji10) < (l0_5.length : Int) := of_decide_eq_true as_q
            obtain ⟨ad238, e238, hx238_0⟩ := Kd.at_int HR0_5.out (ji10) p238 q238
            obtain rfl : ad237 = ad238 := (by injection e238)
            replace hx238_0 := (HB.out.cell (World.block_lt_of_cell? w _ hx238_0)).trans hx238_0
            replace p238 := eq_true p238
            replace q238 := eq_true q238
            go_upto_if 76 with (first | ((with_reducible refine gate_callee (f := 130) rfl ?_); refine goesL_ (some 41) rfl rfl Try.func130 (by kernel_rfl) rfl #[.agg #[.int .i64 a0_2, .slice A0_3 l0_3.length c0_3, .slice A0_4 l0_4.length c0_4], .int .i64 a0_0, .int .i64 (rd l0_5 x3_2), .int .i64 (rd l0_5 (ji10))] rfl (by (try simp only [List.map_toArray, List.map_cons, List.map_nil]); first | done | (simp only [hji10]; rfl) | rfl | (simp only [List.length_drop, List.length_take]; rfl)) ?_; (with_reducible refine (spec_CostTo.calls k2 a0_2 _ _ l0_3 _ _ l0_4 a0_0 (rd l0_5 x3_2) (rd l0_5 (ji10)) t239 _ ?side1 ?side2 ?side3 ?side4 A13.out).mono ?_); (case side1 => exact cs_q (Kd.C_below HR0_3.out HB.out)); (case side2 => exact HC0_3.out); (case side3 => exact cs_q (Kd.C_below HR0_4.out HB.out)); (case side4 => exact HC0_4.out); rintro e w40 ⟨rfl, hb⟩; refine ⟨_, rfl, ?_⟩; replace BK236 := Aside0.mk (blk_below (g := gb236) (bk_q BK236) hb); replace HB := Aside0.mk (below_step (bw_q HB) hb); (try clear hb); (try clear hb2); (try clear hk); (try clear hi)))
            (try clear hx237_0); (try clear hx238_0)
            have H := HC38.out
            clear HC38
            have H' := Aside0.mk H
            clear H
            go_wp2
            go_roundg k2
            case measure => have := HJ1.out; have := HK2.out; omega
            case rel => exact ⟨(wrap64 (x3_2 + 2)), (by first | rfl | (simp; done) | (simp [*]; done)), H', ⟨by have := HJ1.out; have := HK2.out; omega⟩, ⟨by refine bz_ ?_; exact BK236.out⟩, ⟨bw_q HB⟩⟩
         ·rw [if_neg c12] at H
          exact absurd H (by simp)
        ·rw [if_neg c11] at H
         exact absurd H (by simp)
       ·rw [if_neg c9] at H
        exact absurd H (by simp)
      ·rw [if_neg c8] at H
       have c8b0 : decide (x3_2 < (l0_5.length : Int)) = false := decide_eq_false c8
       clear c8
       obtain rfl := Option.some.inj H
       obtain ⟨hcz41_0, hcz41_1, hcz41_2, hcz41_3, hcz41_4, hcz41_5, hcz41_6⟩ := cz7_ BK236
       obtain ⟨hfz41_0, hfz41_1, hfz41_2, hfz41_3, hfz41_4, hfz41_5, hfz41_6⟩ := fz7_ BK236
       go_wp2
       go_ret
       exact ⟨er_q, bw_q HB⟩

end Go.Proofs.Ythjmdiggglkeaaa.Q

/- A Go function as a Lean function, and its contract: for every input the Go code comes to what the Lean function tells. -/

namespace Go.Proofs.Ythjmdiggglkeaaa.Q
open Go.RowKit Go.Proofs.YthjmdiggglkeaaaW.PrintWords Go.Proofs.YthjmdiggglkeaaaW.PrintLast Go.Proofs.YthjmdiggglkeaaaW.PrintMore
attribute [local go_sem] max2_int min2_int max_two min_two max_three min_three max_four min_four   -- for this text's walks alone
set_option linter.unusedVariables false
set_option linter.unusedSimpArgs false

/-! ### spec_Before: function 72 -/
def spec_Before.f (a0_0 : Int) (a0_1 : Int) (a0_2 : Int) (a0_3 : Int) (a0_4 : Int) (l0_5 : List (S127)) (a0_6 : Int) (a0_7 : Bool) (a1_0 : Int) (a1_1 : Int) (a1_2 : Int) (a1_3 : Int) (a1_4 : Int) (l1_5 : List (S127)) (a1_6 : Int) (a1_7 : Bool) : Option (Bool) := if a0_0 = a1_0 then (if a0_1 = a1_1 then (if a0_2 = a1_2 then (some (decide (a0_3 < a1_3))) else (some (decide (a0_2 < a1_2)))) else (some (decide (a0_1 < a1_1)))) else (some (decide (a0_0 < a1_0)))
set_option maxHeartbeats 8000000 in
set_option maxRecDepth 100000 in
theorem spec_Before.calls (a0_0 : Int) (a0_1 : Int) (a0_2 : Int) (a0_3 : Int) (a0_4 : Int) (A0_5 : Option Addr) (c0_5 : Nat) (l0_5 : List (S127)) (a0_6 : Int) (a0_7 : Bool) (a1_0 : Int) (a1_1 : Int) (a1_2 : Int) (a1_3 : Int) (a1_4 : Int) (A1_5 : Option Addr) (c1_5 : Nat) (l1_5 : List (S127)) (a1_6 : Int) (a1_7 : Bool) (r : Bool) (w : World) (hr0_5 : Kd.C k127 w A0_5 l0_5.length l0_5) (hc0_5 : l0_5.length ≤ c0_5) (hr1_5 : Kd.C k127 w A1_5 l1_5.length l1_5) (hc1_5 : l1_5.length ≤ c1_5) (h : spec_Before.f a0_0 a0_1 a0_2 a0_3 a0_4 l0_5 a0_6 a0_7 a1_0 a1_1 a1_2 a1_3 a1_4 l1_5 a1_6 a1_7 = some r) :
  Calls Try.prog 72 #[.agg #[.int .i64 a0_0, .int .i64 a0_1, .int .i64 a0_2, .int .i64 a0_3, .int .i64 a0_4, .slice A0_5 l0_5.length c0_5, .int .i64 a0_6, .bool a0_7], .agg #[.int .i64 a1_0, .int .i64 a1_1, .int .i64 a1_2, .int .i64 a1_3, .int .i64 a1_4, .slice A1_5 l1_5.length c1_5, .int .i64 a1_6, .bool a1_7]] w fun e w' => e = .returned (.bool r) ∧ Below w.heap.size w w' := by
 have hu61 := Try.underlying61
 have HR0_5 := Aside0.mk hr0_5
 have HC0_5 := Aside0.mk hc0_5
 clear hr0_5 hc0_5
 have HR1_5 := Aside0.mk hr1_5
 have HC1_5 := Aside0.mk hc1_5
 clear hr1_5 hc1_5
 have HB := Aside0.mk (Below.refl w.heap.size w)
 have H : (if a0_0 = a1_0 then (if a0_1 = a1_1 then (if a0_2 = a1_2 then (some (decide (a0_3 < a1_3))) else (some (decide (a0_2 < a1_2)))) else (some (decide (a0_1 < a1_1)))) else (some (decide (a0_0 < a1_0)))) = some r := h
 clear h
 have HC3 := Aside0.mk H
 clear H
 go_enter Try.func72, Try.ntmps72
 go_upto_if 9 with (first | ((with_reducible refine gate_dst (N := 2) rfl ?_); refine box_q 2 #[.int .i64 a0_0, .int .i64 a0_1, .int .i64 a0_2, .int .i64 a0_3, .int .i64 a0_4, .slice A0_5 l0_5.length c0_5, .int .i64 a0_6, .bool a0_7] 61 ?_; intro gb243 hg w4 hbox hb; have BK243 := Aside0.mk (hbox); have GW243 := Aside0.mk ((by rw [hg]; exact (below_size (bw_q HB)) : w.heap.size ≤ gb243)); have GE243 := Aside0.mk ((by rw [hg]; exact (below_size (bw_q HB)) : w.heap.size ≤ gb243)); replace HB := Aside0.mk (below_step (bw_q HB) hb); clear hb hbox hg) | ((with_reducible refine gate_dst (N := 3) rfl ?_); refine box_q 3 #[.int .i64 a1_0, .int .i64 a1_1, .int .i64 a1_2, .int .i64 a1_3, .int .i64 a1_4, .slice A1_5 l1_5.length c1_5, .int .i64 a1_6, .bool a1_7] 61 ?_; intro gb244 hg w5 hbox hb; have BK244 := Aside0.mk (hbox); have GW244 := Aside0.mk ((by rw [hg]; exact (below_size (bw_q HB)) : w.heap.size ≤ gb244)); have GE244 := Aside0.mk ((by rw [hg]; exact (below_size (bw_q HB)) : w.heap.size ≤ gb244)); replace HB := Aside0.mk (below_step (bw_q HB) hb); have NB243_244 := Aside0.mk ((by rw [hg]; exact Nat.ne_of_lt (blk_lt (g := gb243) (o := .cells #[.int .i64 a0_0, .int .i64 a0_1, .int .i64 a0_2, .int .i64 a0_3, .int .i64 a0_4, .slice A0_5 l0_5.length c0_5, .int .i64 a0_6, .bool a0_7] 61 (0, 0)) (bk_q BK243)) : gb243 ≠ gb244)); have NB244_243 := Aside0.mk ((by rw [hg]; exact Nat.ne_of_gt (blk_lt (g := gb243) (o := .cells #[.int .i64 a0_0, .int .i64 a0_1, .int .i64 a0_2, .int .i64 a0_3, .int .i64 a0_4, .slice A0_5 l0_5.length c0_5, .int .i64 a0_6, .bool a0_7] 61 (0, 0)) (bk_q BK243)) : gb244 ≠ gb243)); replace BK243 := Aside0.mk (blk_below (g := gb243) (bk_q BK243) hb); clear hb hbox hg; have hnb6 := NB243_244.out; have hnc6 := NB244_243.out; have hcz7_0 : w5.cell? ⟨gb243, 0, none⟩ = some (.int .i64 a0_0) := (blk_cell BK243.out 0).trans rfl; have hcz7_1 : w5.cell? ⟨gb243, 1, none⟩ = some (.int .i64 a0_1) := (blk_cell BK243.out 1).trans rfl; have hcz7_2 : w5.cell? ⟨gb243, 2, none⟩ = some (.int .i64 a0_2) := (blk_cell BK243.out 2).trans rfl; have hcz7_3 : w5.cell? ⟨gb243, 3, none⟩ = some (.int .i64 a0_3) := (blk_cell BK243.out 3).trans rfl; have hcz7_4 : w5.cell? ⟨gb243, 4, none⟩ = some (.int .i64 a0_4) := (blk_cell BK243.out 4).trans rfl; have hcz7_5 : w5.cell? ⟨gb243, 5, none⟩ = some (.slice A0_5 l0_5.length c0_5) := (blk_cell BK243.out 5).trans rfl; have hcz7_6 : w5.cell? ⟨gb243, 6, none⟩ = some (.int .i64 a0_6) := (blk_cell BK243.out 6).trans rfl; have hcz7_7 : w5.cell? ⟨gb243, 7, none⟩ = some (.bool a0_7) := (blk_cell BK243.out 7).trans rfl; have hfz7_0 := blk_frozen BK243.out 0; have hfz7_1 := blk_frozen BK243.out 1; have hfz7_2 := blk_frozen BK243.out 2; have hfz7_3 := blk_frozen BK243.out 3; have hfz7_4 := blk_frozen BK243.out 4; have hfz7_5 := blk_frozen BK243.out 5; have hfz7_6 := blk_frozen BK243.out 6; have hfz7_7 := blk_frozen BK243.out 7; have hcz8_0 : w5.cell? ⟨gb244, 0, none⟩ = some (.int .i64 a1_0) := (blk_cell BK244.out 0).trans rfl; have hcz8_1 : w5.cell? ⟨gb244, 1, none⟩ = some (.int .i64 a1_1) := (blk_cell BK244.out 1).trans rfl; have hcz8_2 : w5.cell? ⟨gb244, 2, none⟩ = some (.int .i64 a1_2) := (blk_cell BK244.out 2).trans rfl; have hcz8_3 : w5.cell? ⟨gb244, 3, none⟩ = some (.int .i64 a1_3) := (blk_cell BK244.out 3).trans rfl; have hcz8_4 : w5.cell? ⟨gb244, 4, none⟩ = some (.int .i64 a1_4) := (blk_cell BK244.out 4).trans rfl; have hcz8_5 : w5.cell? ⟨gb244, 5, none⟩ = some (.slice A1_5 l1_5.length c1_5) := (blk_cell BK244.out 5).trans rfl; have hcz8_6 : w5.cell? ⟨gb244, 6, none⟩ = some (.int .i64 a1_6) := (blk_cell BK244.out 6).trans rfl; have hcz8_7 : w5.cell? ⟨gb244, 7, none⟩ = some (.bool a1_7) := (blk_cell BK244.out 7).trans rfl; have hfz8_0 := blk_frozen BK244.out 0; have hfz8_1 := blk_frozen BK244.out 1; have hfz8_2 := blk_frozen BK244.out 2; have hfz8_3 := blk_frozen BK244.out 3; have hfz8_4 := blk_frozen BK244.out 4; have hfz8_5 := blk_frozen BK244.out 5; have hfz8_6 := blk_frozen BK244.out 6; have hfz8_7 := blk_frozen BK244.out 7))
 have H := HC3.out
 clear HC3
 by_cases c9 : a0_0 = a1_0
 ·rw [if_pos c9] at H
  have c9b0 : (a0_0 == a1_0) = true := beq_iff_eq.mpr c9
  have c9b1 : (a0_0 != a1_0) = false := bne_eq_false_iff_eq.mpr c9
  clear c9
  (first | rw [c9b0] | rw [c9b1] | (simp only [i64_w, i32_w]; first | rw [c9b0] | rw [c9b1]) | skip)
  by_cases c10 : a0_1 = a1_1
  ·rw [if_pos c10] at H
   have c10b0 : (a0_1 == a1_1) = true := beq_iff_eq.mpr c10
   have c10b1 : (a0_1 != a1_1) = false := bne_eq_false_iff_eq.mpr c10
   clear c10
   by_cases c11 : a0_2 = a1_2
   ·rw [if_pos c11] at H
    have c11b0 : (a0_2 == a1_2) = true := beq_iff_eq.mpr c11
    have c11b1 : (a0_2 != a1_2) = false := bne_eq_false_iff_eq.mpr c11
    clear c11
    obtain rfl := Option.some.inj H
    have hnb12 := NB243_244.out
    have hnc12 := NB244_243.out
    obtain ⟨hcz13_0, hcz13_1, hcz13_2, hcz13_3, hcz13_4, hcz13_5, hcz13_6, hcz13_7⟩ := cz8_ BK243
    obtain ⟨hfz13_0, hfz13_1, hfz13_2, hfz13_3, hfz13_4, hfz13_5, hfz13_6, hfz13_7⟩ := fz8_ BK243
    obtain ⟨hcz14_0, hcz14_1, hcz14_2, hcz14_3, hcz14_4, hcz14_5, hcz14_6, hcz14_7⟩ := cz8_ BK244
    obtain ⟨hfz14_0, hfz14_1, hfz14_2, hfz14_3, hfz14_4, hfz14_5, hfz14_6, hfz14_7⟩ := fz8_ BK244
    go_wp2
    go_ret
    exact ⟨er_q, bw_q HB⟩
   ·rw [if_neg c11] at H
    have c11b0 : (a0_2 == a1_2) = false := beq_eq_false_iff_ne.mpr c11
    have c11b1 : (a0_2 != a1_2) = true := bne_iff_ne.mpr c11
    obtain rfl := Option.some.inj H
    have hnb15 := NB243_244.out
    have hnc15 := NB244_243.out
    obtain ⟨hcz16_0, hcz16_1, hcz16_2, hcz16_3, hcz16_4, hcz16_5, hcz16_6, hcz16_7⟩ := cz8_ BK243
    obtain ⟨hfz16_0, hfz16_1, hfz16_2, hfz16_3, hfz16_4, hfz16_5, hfz16_6, hfz16_7⟩ := fz8_ BK243
    obtain ⟨hcz17_0, hcz17_1, hcz17_2, hcz17_3, hcz17_4, hcz17_5, hcz17_6, hcz17_7⟩ := cz8_ BK244
    obtain ⟨hfz17_0, hfz17_1, hfz17_2, hfz17_3, hfz17_4, hfz17_5, hfz17_6, hfz17_7⟩ := fz8_ BK244
    go_wp2
    go_ret
    exact ⟨er_q, bw_q HB⟩
  ·rw [if_neg c10] at H
   have c10b0 : (a0_1 == a1_1) = false := beq_eq_false_iff_ne.mpr c10
   have c10b1 : (a0_1 != a1_1) = true := bne_iff_ne.mpr c10
   obtain rfl := Option.some.inj H
   have hnb18 := NB243_244.out
   have hnc18 := NB244_243.out
   obtain ⟨hcz19_0, hcz19_1, hcz19_2, hcz19_3, hcz19_4, hcz19_5, hcz19_6, hcz19_7⟩ := cz8_ BK243
   obtain ⟨hfz19_0, hfz19_1, hfz19_2, hfz19_3, hfz19_4, hfz19_5, hfz19_6, hfz19_7⟩ := fz8_ BK243
   obtain ⟨hcz20_0, hcz20_1, hcz20_2, hcz20_3, hcz20_4, hcz20_5, hcz20_6, hcz20_7⟩ := cz8_ BK244
   obtain ⟨hfz20_0, hfz20_1, hfz20_2, hfz20_3, hfz20_4, hfz20_5, hfz20_6, hfz20_7⟩ := fz8_ BK244
   go_wp2
   go_ret
   exact ⟨er_q, bw_q HB⟩
 ·rw [if_neg c9] at H
  have c9b0 : (a0_0 == a1_0) = false := beq_eq_false_iff_ne.mpr c9
  have c9b1 : (a0_0 != a1_0) = true := bne_iff_ne.mpr c9
  (first | rw [c9b0] | rw [c9b1] | (simp only [i64_w, i32_w]; first | rw [c9b0] | rw [c9b1]) | skip)
  obtain rfl := Option.some.inj H
  have hnb21 := NB243_244.out
  have hnc21 := NB244_243.out
  obtain ⟨hcz22_0, hcz22_1, hcz22_2, hcz22_3, hcz22_4, hcz22_5, hcz22_6, hcz22_7⟩ := cz8_ BK243
  obtain ⟨hfz22_0, hfz22_1, hfz22_2, hfz22_3, hfz22_4, hfz22_5, hfz22_6, hfz22_7⟩ := fz8_ BK243
  obtain ⟨hcz23_0, hcz23_1, hcz23_2, hcz23_3, hcz23_4, hcz23_5, hcz23_6, hcz23_7⟩ := cz8_ BK244
  obtain ⟨hfz23_0, hfz23_1, hfz23_2, hfz23_3, hfz23_4, hfz23_5, hfz23_6, hfz23_7⟩ := fz8_ BK244
  go_wp2
  go_ret
  exact ⟨er_q, bw_q HB⟩

end Go.Proofs.Ythjmdiggglkeaaa.Q
