import Derived.Test.YthjmdiggglkeaaaXFnNetsQimplless
/- A Go function as a Lean function, and its contract: for every input the Go code comes to what the Lean function tells. -/

namespace Go.Proofs.Ythjmdiggglkeaaa.Q
open Go.RowKit Go.Proofs.YthjmdiggglkeaaaW.PrintWords Go.Proofs.YthjmdiggglkeaaaW.PrintLast Go.Proofs.YthjmdiggglkeaaaW.PrintMore
attribute [local go_sem] max2_int min2_int max_two min_two max_three min_three max_four min_four   -- for this text's walks alone
set_option linter.unusedVariables false
set_option linter.unusedSimpArgs false

/-! ### impl_linkAt: function 124 -/
def impl_linkAt.l0 : Nat → Int → Int → Int → List (S93) → Int → Int → Option (Int)
 | 0, _, _, _, _, _, _ => none
 | k + 1, x1, x2, x3, x12, x13, x14 => if x14 < x13 then (if 0 ≤ x14 then (if x14 < (x12.length : Int) then (if ((rd_T93 x12 x14).f3) = x3 then (if ((rd_T93 x12 x14).f0) = x1 then (if ((rd_T93 x12 x14).f1) = x2 then (some x14) else (if ((rd_T93 x12 x14).f0) = x2 then (if ((rd_T93 x12 x14).f1) = x1 then (some x14) else (impl_linkAt.l0 k x1 x2 x3 x12 x13 (wrap64 (x14 + 1)))) else (impl_linkAt.l0 k x1 x2 x3 x12 x13 (wrap64 (x14 + 1))))) else (if ((rd_T93 x12 x14).f0) = x2 then (if ((rd_T93 x12 x14).f1) = x1 then (some x14) else (impl_linkAt.l0 k x1 x2 x3 x12 x13 (wrap64 (x14 + 1)))) else (impl_linkAt.l0 k x1 x2 x3 x12 x13 (wrap64 (x14 + 1))))) else (impl_linkAt.l0 k x1 x2 x3 x12 x13 (wrap64 (x14 + 1)))) else (none)) else (none)) else (some (-1))
def impl_linkAt.f (k : Nat) (a0_0 : Int) (l0_1 : List (S93)) (l0_2 : List (S102)) (a1 : Int) (a2 : Int) (a3 : Int) : Option (Int) := impl_linkAt.l0 k a1 a2 a3 l0_1 (l0_1.length : Int) 0
theorem impl_linkAt.mono_l : ∀ k, (∀ y0 y1 y2 y3 y4 y5, LeO (impl_linkAt.l0 k y0 y1 y2 y3 y4 y5) (impl_linkAt.l0 (k + 1) y0 y1 y2 y3 y4 y5))
 | 0 => fun _ _ _ _ _ _ r h => by simp [impl_linkAt.l0] at h
 | k + 1 => by
  have ih0 := impl_linkAt.mono_l k
  ·intro y0 y1 y2 y3 y4 y5
   unfold impl_linkAt.l0
   repeat' first
   | (with_reducible exact ih0 _ _ _ _ _ _)
   | (with_reducible exact LeO.refl _)
   | (with_reducible exact LeO.none _)
   | (with_reducible refine LeO.ite ?_ ?_)
   | (with_reducible refine LeO.bind ?_ (fun _ => ?_))
   | exact ih0 _ _ _ _ _ _
   | exact LeO.none _
   | refine LeO.ite ?_ ?_
   | refine LeO.bind ?_ (fun _ => ?_)
theorem impl_linkAt.mono : ∀ a0 a1 a2 a3 a4 a5 k, LeO (impl_linkAt.f k a0 a1 a2 a3 a4 a5) (impl_linkAt.f (k + 1) a0 a1 a2 a3 a4 a5) := by
 intro a0 a1 a2 a3 a4 a5 k
 have ih0 := impl_linkAt.mono_l k
 unfold impl_linkAt.f
 repeat' first
   | (with_reducible exact ih0 _ _ _ _ _ _)
   | (with_reducible exact LeO.refl _)
   | (with_reducible exact LeO.none _)
   | (with_reducible refine LeO.ite ?_ ?_)
   | (with_reducible refine LeO.bind ?_ (fun _ => ?_))
   | exact ih0 _ _ _ _ _ _
   | exact LeO.none _
   | refine LeO.ite ?_ ?_
   | refine LeO.bind ?_ (fun _ => ?_)
set_option maxHeartbeats 8000000 in
set_option maxRecDepth 100000 in
theorem impl_linkAt.calls (k : Nat) (a0_0 : Int) (A0_1 : Option Addr) (c0_1 : Nat) (l0_1 : List (S93)) (A0_2 : Option Addr) (c0_2 : Nat) (l0_2 : List (S102)) (a1 : Int) (a2 : Int) (a3 : Int) (r : Int) (w : World) (hr0_1 : Kd.C k93 w A0_1 l0_1.length l0_1) (hc0_1 : l0_1.length ≤ c0_1) (hr0_2 : Kd.C k102 w A0_2 l0_2.length l0_2) (hc0_2 : l0_2.length ≤ c0_2) (h : impl_linkAt.f k a0_0 l0_1 l0_2 a1 a2 a3 = some r) :
  Calls Try.prog 124 #[.agg #[.int .i64 a0_0, .slice A0_1 l0_1.length c0_1, .slice A0_2 l0_2.length c0_2], .int .i64 a1, .int .i64 a2, .int .i64 a3] w fun e w' => e = .returned (.int .i64 r) ∧ Below w.heap.size w w' := by
 have hu31 := Try.underlying31
 have hu93 := Try.underlying93
 have HR0_1 := Aside0.mk hr0_1
 have HC0_1 := Aside0.mk hc0_1
 clear hr0_1 hc0_1
 have HR0_2 := Aside0.mk hr0_2
 have HC0_2 := Aside0.mk hc0_2
 clear hr0_2 hc0_2
 have HB := Aside0.mk (Below.refl w.heap.size w)
 have H : (impl_linkAt.l0 k a1 a2 a3 l0_1 (l0_1.length : Int) 0) = some r := h
 clear h
 have H' := Aside0.mk H
 clear H
 go_enter Try.func124, Try.ntmps124
 go_wp2_with (first | ((with_reducible refine gate_dst (N := 4) rfl ?_); refine box_q 4 #[.int .i64 a0_0, .slice A0_1 l0_1.length c0_1, .slice A0_2 l0_2.length c0_2] 31 ?_; intro gb346 hg w5 hbox hb; have BK346 := Aside0.mk (hbox); have GW346 := Aside0.mk ((by rw [hg]; exact (below_size (bw_q HB)) : w.heap.size ≤ gb346)); have GE346 := Aside0.mk ((by rw [hg]; exact (below_size (bw_q HB)) : w.heap.size ≤ gb346)); replace HB := Aside0.mk (below_step (bw_q HB) hb); clear hb hbox hg; have hcz6_0 : w5.cell? ⟨gb346, 0, none⟩ = some (.int .i64 a0_0) := (blk_cell BK346.out 0).trans rfl; have hcz6_1 : w5.cell? ⟨gb346, 1, none⟩ = some (.slice A0_1 l0_1.length c0_1) := (blk_cell BK346.out 1).trans rfl; have hcz6_2 : w5.cell? ⟨gb346, 2, none⟩ = some (.slice A0_2 l0_2.length c0_2) := (blk_cell BK346.out 2).trans rfl; have hfz6_0 := blk_frozen BK346.out 0; have hfz6_1 := blk_frozen BK346.out 1; have hfz6_2 := blk_frozen BK346.out 2))
 go_loopg [14] k (fun kq v14 w' => ∃ (x14_1 : Int), v14 = .int .i64 x14_1 ∧ Aside0 (impl_linkAt.l0 kq a1 a2 a3 l0_1 (l0_1.length : Int) x14_1 = some r) ∧ Aside0 (kq ≤ k) ∧ Aside0 (w'.heap[gb346]? = some (.cells #[.int .i64 a0_0, (.slice A0_1 l0_1.length c0_1), (.slice A0_2 l0_2.length c0_2)] 31 (0, 0))) ∧ Aside0 (Below w.heap.size w w'))
 case atStart => exact ⟨(0), (by first | rfl | (simp; done) | (simp [*]; done)), H', ⟨Nat.le_refl _⟩, ⟨by refine bz_ ?_; exact BK346.out⟩, ⟨bw_q HB⟩⟩
 case round =>
  clear H'
  try clear c1
  try clear p2
  try clear hcz6_0
  try clear hcz6_1
  try clear hcz6_2
  try clear hfz6_0
  try clear hfz6_1
  try clear hfz6_2
  obtain ⟨x14_1, rfl, HA, HK1, BK346, HB⟩ := hrel
  cases gk with
  | zero => exact absurd HA.out (by simp [impl_linkAt.l0])
  | succ k1 =>
   have H := HA.out
   clear HA
   simp only [impl_linkAt.l0] at H
   by_cases c7 : x14_1 < (l0_1.length : Int)
   ·rw [if_pos c7] at H
    have c7b0 : decide (x14_1 < (l0_1.length : Int)) = true := decide_eq_true c7
    clear c7
    by_cases c8 : 0 ≤ x14_1
    ·rw [if_pos c8] at H
     have c8b0 : decide (0 ≤ x14_1) = true := decide_eq_true c8
     clear c8
     by_cases c9 : x14_1 < (l0_1.length : Int)
     ·rw [if_pos c9] at H
      have c9b0 : decide (x14_1 < (l0_1.length : Int)) = true := decide_eq_true c9
      clear c9
      by_cases c10 : ((rd_T93 l0_1 x14_1).f3) = a3
      ·rw [if_pos c10] at H
       have c10b0 : (((rd_T93 l0_1 x14_1).f3) == a3) = true := beq_iff_eq.mpr c10
       have c10b1 : (((rd_T93 l0_1 x14_1).f3) != a3) = false := bne_eq_false_iff_eq.mpr c10
       clear c10
       by_cases c11 : ((rd_T93 l0_1 x14_1).f0) = a1
       ·rw [if_pos c11] at H
        have c11b0 : (((rd_T93 l0_1 x14_1).f0) == a1) = true := beq_iff_eq.mpr c11
        have c11b1 : (((rd_T93 l0_1 x14_1).f0) != a1) = false := bne_eq_false_iff_eq.mpr c11
        clear c11
        by_cases c12 : ((rd_T93 l0_1 x14_1).f1) = a2
        ·rw [if_pos c12] at H
         have c12b0 : (((rd_T93 l0_1 x14_1).f1) == a2) = true := beq_iff_eq.mpr c12
         have c12b1 : (((rd_T93 l0_1 x14_1).f1) != a2) = false := bne_eq_false_iff_eq.mpr c12
         clear c12
         obtain rfl := Option.some.inj H
         have p347 : 0 ≤ (x14_1 : Int) := of_decide_eq_true as_q
         have q347 : x14_1 < (l0_1.length : Int) := of_decide_eq_true as_q
         obtain ⟨ad347, e347, hx347_0, hx347_1, hx347_2, hx347_3⟩ := at_T93 HR0_1.out x14_1 p347 q347
         cases e347
         replace hx347_0 := (HB.out.cell (World.block_lt_of_cell? w _ hx347_0)).trans hx347_0
         replace hx347_1 := (HB.out.cell (World.block_lt_of_cell? w _ hx347_1)).trans hx347_1
         replace hx347_2 := (HB.out.cell (World.block_lt_of_cell? w _ hx347_2)).trans hx347_2
         replace hx347_3 := (HB.out.cell (World.block_lt_of_cell? w _ hx347_3)).trans hx347_3
         replace p347 := eq_true p347
         replace q347 := eq_true q347
         go_wp2_with (first | ((with_reducible refine gate_dst (N := 10) rfl ?_); refine box_q 10 #[.int .i64 0, .int .i64 0, .int .i64 0, .int .i64 0] 93 ?_; intro gb348 hg w13 hbox hb; have BK348 := Aside0.mk (hbox); have GW348 := Aside0.mk ((by rw [hg]; exact (below_size (bw_q HB)) : w.heap.size ≤ gb348)); have GE348 := Aside0.mk ((by rw [hg]; exact (below_size (bw_q HB)) : w.heap.size ≤ gb348)); replace HB := Aside0.mk (below_step (bw_q HB) hb); have NB346_348 := Aside0.mk ((by rw [hg]; exact Nat.ne_of_lt (blk_lt (g := gb346) (o := .cells #[.int .i64 a0_0, .slice (some ad347) l0_1.length c0_1, .slice A0_2 l0_2.length c0_2] 31 (0, 0)) (bk_q BK346)) : gb346 ≠ gb348)); have NB348_346 := Aside0.mk ((by rw [hg]; exact Nat.ne_of_gt (blk_lt (g := gb346) (o := .cells #[.int .i64 a0_0, .slice (some ad347) l0_1.length c0_1, .slice A0_2 l0_2.length c0_2] 31 (0, 0)) (bk_q BK346)) : gb348 ≠ gb346)); replace BK346 := Aside0.mk (blk_below (g := gb346) (bk_q BK346) hb); clear hb hbox hg; have hnb14 := NB348_346.out; have hnc14 := NB346_348.out; have hcz15_0 : w13.cell? ⟨gb348, 0, none⟩ = some (.int .i64 0) := (blk_cell BK348.out 0).trans rfl; have hcz15_1 : w13.cell? ⟨gb348, 1, none⟩ = some (.int .i64 0) := (blk_cell BK348.out 1).trans rfl; have hcz15_2 : w13.cell? ⟨gb348, 2, none⟩ = some (.int .i64 0) := (blk_cell BK348.out 2).trans rfl; have hcz15_3 : w13.cell? ⟨gb348, 3, none⟩ = some (.int .i64 0) := (blk_cell BK348.out 3).trans rfl; have hfz15_0 := blk_frozen BK348.out 0; have hfz15_1 := blk_frozen BK348.out 1; have hfz15_2 := blk_frozen BK348.out 2; have hfz15_3 := blk_frozen BK348.out 3))
         go_ret
         exact ⟨er_q, bw_q HB⟩
        ·rw [if_neg c12] at H
         have c12b0 : (((rd_T93 l0_1 x14_1).f1) == a2) = false := beq_eq_false_iff_ne.mpr c12
         have c12b1 : (((rd_T93 l0_1 x14_1).f1) != a2) = true := bne_iff_ne.mpr c12
         by_cases c16 : ((rd_T93 l0_1 x14_1).f0) = a2
         ·rw [if_pos c16] at H
          have c16b0 : (((rd_T93 l0_1 x14_1).f0) == a2) = true := beq_iff_eq.mpr c16
          have c16b1 : (((rd_T93 l0_1 x14_1).f0) != a2) = false := bne_eq_false_iff_eq.mpr c16
          clear c16
          have HC17 := Aside0.mk H
          clear H
          have p347 : 0 ≤ (x14_1 : Int) := of_decide_eq_true as_q
          have q347 : x14_1 < (l0_1.length : Int) := of_decide_eq_true as_q
          obtain ⟨ad347, e347, hx347_0, hx347_1, hx347_2, hx347_3⟩ := at_T93 HR0_1.out x14_1 p347 q347
          cases e347
          replace hx347_0 := (HB.out.cell (World.block_lt_of_cell? w _ hx347_0)).trans hx347_0
          replace hx347_1 := (HB.out.cell (World.block_lt_of_cell? w _ hx347_1)).trans hx347_1
          replace hx347_2 := (HB.out.cell (World.block_lt_of_cell? w _ hx347_2)).trans hx347_2
          replace hx347_3 := (HB.out.cell (World.block_lt_of_cell? w _ hx347_3)).trans hx347_3
          replace p347 := eq_true p347
          replace q347 := eq_true q347
          go_upto_if 46 with (first | ((with_reducible refine gate_dst (N := 10) rfl ?_); refine box_q 10 #[.int .i64 0, .int .i64 0, .int .i64 0, .int .i64 0] 93 ?_; intro gb348 hg w18 hbox hb; have BK348 := Aside0.mk (hbox); have GW348 := Aside0.mk ((by rw [hg]; exact (below_size (bw_q HB)) : w.heap.size ≤ gb348)); have GE348 := Aside0.mk ((by rw [hg]; exact (below_size (bw_q HB)) : w.heap.size ≤ gb348)); replace HB := Aside0.mk (below_step (bw_q HB) hb); have NB346_348 := Aside0.mk ((by rw [hg]; exact Nat.ne_of_lt (blk_lt (g := gb346) (o := .cells #[.int .i64 a0_0, .slice (some ad347) l0_1.length c0_1, .slice A0_2 l0_2.length c0_2] 31 (0, 0)) (bk_q BK346)) : gb346 ≠ gb348)); have NB348_346 := Aside0.mk ((by rw [hg]; exact Nat.ne_of_gt (blk_lt (g := gb346) (o := .cells #[.int .i64 a0_0, .slice (some ad347) l0_1.length c0_1, .slice A0_2 l0_2.length c0_2] 31 (0, 0)) (bk_q BK346)) : gb348 ≠ gb346)); replace BK346 := Aside0.mk (blk_below (g := gb346) (bk_q BK346) hb); clear hb hbox hg; have hnb19 := NB348_346.out; have hnc19 := NB346_348.out; have hcz20_0 : w18.cell? ⟨gb348, 0, none⟩ = some (.int .i64 0) := (blk_cell BK348.out 0).trans rfl; have hcz20_1 : w18.cell? ⟨gb348, 1, none⟩ = some (.int .i64 0) := (blk_cell BK348.out 1).trans rfl; have hcz20_2 : w18.cell? ⟨gb348, 2, none⟩ = some (.int .i64 0) := (blk_cell BK348.out 2).trans rfl; have hcz20_3 : w18.cell? ⟨gb348, 3, none⟩ = some (.int .i64 0) := (blk_cell BK348.out 3).trans rfl; have hfz20_0 := blk_frozen BK348.out 0; have hfz20_1 := blk_frozen BK348.out 1; have hfz20_2 := blk_frozen BK348.out 2; have hfz20_3 := blk_frozen BK348.out 3))
          have n0_ : Aside0 (((((w18.setCell ⟨gb348, 0, none⟩ (.int .i64 ((rd_T93 l0_1 x14_1).f0))).setCell ⟨gb348, 1, none⟩ (.int .i64 ((rd_T93 l0_1 x14_1).f1))).setCell ⟨gb348, 2, none⟩ (.int .i64 ((rd_T93 l0_1 x14_1).f2))).setCell ⟨gb348, 3, none⟩ (.int .i64 ((rd_T93 l0_1 x14_1).f3))).heap[gb346]? = some (.cells #[.int .i64 a0_0, .slice (some ad347) l0_1.length c0_1, .slice A0_2 l0_2.length c0_2] 31 (0, 0))) := ⟨by refine bz_ ?_; refine blk_far ?_ NB346_348.out _; refine bz_ ?_; refine blk_far ?_ NB346_348.out _; refine bz_ ?_; refine blk_far ?_ NB346_348.out _; refine bz_ ?_; refine blk_far ?_ NB346_348.out _; refine bz_ ?_; exact BK346.out⟩
          have n1_ : Aside0 (((((w18.setCell ⟨gb348, 0, none⟩ (.int .i64 ((rd_T93 l0_1 x14_1).f0))).setCell ⟨gb348, 1, none⟩ (.int .i64 ((rd_T93 l0_1 x14_1).f1))).setCell ⟨gb348, 2, none⟩ (.int .i64 ((rd_T93 l0_1 x14_1).f2))).setCell ⟨gb348, 3, none⟩ (.int .i64 ((rd_T93 l0_1 x14_1).f3))).heap[gb348]? = some (.cells #[.int .i64 ((rd_T93 l0_1 x14_1).f0), .int .i64 ((rd_T93 l0_1 x14_1).f1), .int .i64 ((rd_T93 l0_1 x14_1).f2), .int .i64 ((rd_T93 l0_1 x14_1).f3)] 93 (0, 0))) := ⟨by refine bz_ ?_; refine blk_put (cs := #[.int .i64 ((rd_T93 l0_1 x14_1).f0), .int .i64 ((rd_T93 l0_1 x14_1).f1), .int .i64 ((rd_T93 l0_1 x14_1).f2), .int .i64 0]) ?_ 3 _ rfl; refine bz_ ?_; refine blk_put (cs := #[.int .i64 ((rd_T93 l0_1 x14_1).f0), .int .i64 ((rd_T93 l0_1 x14_1).f1), .int .i64 0, .int .i64 0]) ?_ 2 _ rfl; refine bz_ ?_; refine blk_put (cs := #[.int .i64 ((rd_T93 l0_1 x14_1).f0), .int .i64 0, .int .i64 0, .int .i64 0]) ?_ 1 _ rfl; refine bz_ ?_; refine blk_put (cs := #[.int .i64 0, .int .i64 0, .int .i64 0, .int .i64 0]) ?_ 0 _ rfl; refine bz_ ?_; exact BK348.out⟩
          have n2_ : Aside0 (Below w.heap.size w ((((w18.setCell ⟨gb348, 0, none⟩ (.int .i64 ((rd_T93 l0_1 x14_1).f0))).setCell ⟨gb348, 1, none⟩ (.int .i64 ((rd_T93 l0_1 x14_1).f1))).setCell ⟨gb348, 2, none⟩ (.int .i64 ((rd_T93 l0_1 x14_1).f2))).setCell ⟨gb348, 3, none⟩ (.int .i64 ((rd_T93 l0_1 x14_1).f3)))) := ⟨bw_q HB⟩
          (try clear BK346)
          (try clear BK348)
          (try clear HB)
          generalize ((((w18.setCell ⟨gb348, 0, none⟩ (.int .i64 ((rd_T93 l0_1 x14_1).f0))).setCell ⟨gb348, 1, none⟩ (.int .i64 ((rd_T93 l0_1 x14_1).f1))).setCell ⟨gb348, 2, none⟩ (.int .i64 ((rd_T93 l0_1 x14_1).f2))).setCell ⟨gb348, 3, none⟩ (.int .i64 ((rd_T93 l0_1 x14_1).f3))) = w21 at n0_ n1_ n2_ ⊢
          have BK346 := n0_
          have BK348 := n1_
          have HB := n2_
          clear n0_ n1_ n2_
          (try clear hx347_0); (try clear hx347_1); (try clear hx347_2); (try clear hx347_3)
          have H := HC17.out
          clear HC17
          by_cases c22 : ((rd_T93 l0_1 x14_1).f1) = a1
          ·rw [if_pos c22] at H
           have c22b0 : (((rd_T93 l0_1 x14_1).f1) == a1) = true := beq_iff_eq.mpr c22
           have c22b1 : (((rd_T93 l0_1 x14_1).f1) != a1) = false := bne_eq_false_iff_eq.mpr c22
           clear c22
           (first | rw [c22b0] | rw [c22b1] | (simp only [i64_w, i32_w]; first | rw [c22b0] | rw [c22b1]) | skip)
           obtain rfl := Option.some.inj H
           go_wp2
           go_ret
           exact ⟨er_q, bw_q HB⟩
          ·rw [if_neg c22] at H
           have c22b0 : (((rd_T93 l0_1 x14_1).f1) == a1) = false := beq_eq_false_iff_ne.mpr c22
           have c22b1 : (((rd_T93 l0_1 x14_1).f1) != a1) = true := bne_iff_ne.mpr c22
           (first | rw [c22b0] | rw [c22b1] | (simp only [i64_w, i32_w]; first | rw [c22b0] | rw [c22b1]) | skip)
           have H' := Aside0.mk H
           clear H
           go_wp2
           go_roundg k1
           case measure => have := HK1.out; omega
           case rel => exact ⟨(wrap64 (x14_1 + 1)), (by first | rfl | (simp; done) | (simp [*]; done)), H', ⟨by have := HK1.out; omega⟩, ⟨by refine bz_ ?_; exact BK346.out⟩, ⟨bw_q HB⟩⟩
         ·rw [if_neg c16] at H
          have c16b0 : (((rd_T93 l0_1 x14_1).f0) == a2) = false := beq_eq_false_iff_ne.mpr c16
          have c16b1 : (((rd_T93 l0_1 x14_1).f0) != a2) = true := bne_iff_ne.mpr c16
          have HC23 := Aside0.mk H
          clear H
          have p347 : 0 ≤ (x14_1 : Int) := of_decide_eq_true as_q
          have q347 : x14_1 < (l0_1.length : Int) := of_decide_eq_true as_q
          obtain ⟨ad347, e347, hx347_0, hx347_1, hx347_2, hx347_3⟩ := at_T93 HR0_1.out x14_1 p347 q347
          cases e347
          replace hx347_0 := (HB.out.cell (World.block_lt_of_cell? w _ hx347_0)).trans hx347_0
          replace hx347_1 := (HB.out.cell (World.block_lt_of_cell? w _ hx347_1)).trans hx347_1
          replace hx347_2 := (HB.out.cell (World.block_lt_of_cell? w _ hx347_2)).trans hx347_2
          replace hx347_3 := (HB.out.cell (World.block_lt_of_cell? w _ hx347_3)).trans hx347_3
          replace p347 := eq_true p347
          replace q347 := eq_true q347
          go_upto_if 46 with (first | ((with_reducible refine gate_dst (N := 10) rfl ?_); refine box_q 10 #[.int .i64 0, .int .i64 0, .int .i64 0, .int .i64 0] 93 ?_; intro gb348 hg w24 hbox hb; have BK348 := Aside0.mk (hbox); have GW348 := Aside0.mk ((by rw [hg]; exact (below_size (bw_q HB)) : w.heap.size ≤ gb348)); have GE348 := Aside0.mk ((by rw [hg]; exact (below_size (bw_q HB)) : w.heap.size ≤ gb348)); replace HB := Aside0.mk (below_step (bw_q HB) hb); have NB346_348 := Aside0.mk ((by rw [hg]; exact Nat.ne_of_lt (blk_lt (g := gb346) (o := .cells #[.int .i64 a0_0, .slice (some ad347) l0_1.length c0_1, .slice A0_2 l0_2.length c0_2] 31 (0, 0)) (bk_q BK346)) : gb346 ≠ gb348)); have NB348_346 := Aside0.mk ((by rw [hg]; exact Nat.ne_of_gt (blk_lt (g := gb346) (o := .cells #[.int .i64 a0_0, .slice (some ad347) l0_1.length c0_1, .slice A0_2 l0_2.length c0_2] 31 (0, 0)) (bk_q BK346)) : gb348 ≠ gb346)); replace BK346 := Aside0.mk (blk_below (g := gb346) (bk_q BK346) hb); clear hb hbox hg; have hnb25 := NB348_346.out; have hnc25 := NB346_348.out; have hcz26_0 : w24.cell? ⟨gb348, 0, none⟩ = some (.int .i64 0) := (blk_cell BK348.out 0).trans rfl; have hcz26_1 : w24.cell? ⟨gb348, 1, none⟩ = some (.int .i64 0) := (blk_cell BK348.out 1).trans rfl; have hcz26_2 : w24.cell? ⟨gb348, 2, none⟩ = some (.int .i64 0) := (blk_cell BK348.out 2).trans rfl; have hcz26_3 : w24.cell? ⟨gb348, 3, none⟩ = some (.int .i64 0) := (blk_cell BK348.out 3).trans rfl; have hfz26_0 := blk_frozen BK348.out 0; have hfz26_1 := blk_frozen BK348.out 1; have hfz26_2 := blk_frozen BK348.out 2; have hfz26_3 := blk_frozen BK348.out 3))
          have n0_ : Aside0 (((((w24.setCell ⟨gb348, 0, none⟩ (.int .i64 ((rd_T93 l0_1 x14_1).f0))).setCell ⟨gb348, 1, none⟩ (.int .i64 ((rd_T93 l0_1 x14_1).f1))).setCell ⟨gb348, 2, none⟩ (.int .i64 ((rd_T93 l0_1 x14_1).f2))).setCell ⟨gb348, 3, none⟩ (.int .i64 ((rd_T93 l0_1 x14_1).f3))).heap[gb346]? = some (.cells #[.int .i64 a0_0, .slice (some ad347) l0_1.length c0_1, .slice A0_2 l0_2.length c0_2] 31 (0, 0))) := ⟨by refine bz_ ?_; refine blk_far ?_ NB346_348.out _; refine bz_ ?_; refine blk_far ?_ NB346_348.out _; refine bz_ ?_; refine blk_far ?_ NB346_348.out _; refine bz_ ?_; refine blk_far ?_ NB346_348.out _; refine bz_ ?_; exact BK346.out⟩
          have n1_ : Aside0 (((((w24.setCell ⟨gb348, 0, none⟩ (.int .i64 ((rd_T93 l0_1 x14_1).f0))).setCell ⟨gb348, 1, none⟩ (.int .i64 ((rd_T93 l0_1 x14_1).f1))).setCell ⟨gb348, 2, none⟩ (.int .i64 ((rd_T93 l0_1 x14_1).f2))).setCell ⟨gb348, 3, none⟩ (.int .i64 ((rd_T93 l0_1 x14_1).f3))).heap[gb348]? = some (.cells #[.int .i64 ((rd_T93 l0_1 x14_1).f0), .int .i64 ((rd_T93 l0_1 x14_1).f1), .int .i64 ((rd_T93 l0_1 x14_1).f2), .int .i64 ((rd_T93 l0_1 x14_1).f3)] 93 (0, 0))) := ⟨by refine bz_ ?_; refine blk_put (cs := #[.int .i64 ((rd_T93 l0_1 x14_1).f0), .int .i64 ((rd_T93 l0_1 x14_1).f1), .int .i64 ((rd_T93 l0_1 x14_1).f2), .int .i64 0]) ?_ 3 _ rfl; refine bz_ ?_; refine blk_put (cs := #[.int .i64 ((rd_T93 l0_1 x14_1).f0), .int .i64 ((rd_T93 l0_1 x14_1).f1), .int .i64 0, .int .i64 0]) ?_ 2 _ rfl; refine bz_ ?_; refine blk_put (cs := #[.int .i64 ((rd_T93 l0_1 x14_1).f0), .int .i64 0, .int .i64 0, .int .i64 0]) ?_ 1 _ rfl; refine bz_ ?_; refine blk_put (cs := #[.int .i64 0, .int .i64 0, .int .i64 0, .int .i64 0]) ?_ 0 _ rfl; refine bz_ ?_; exact BK348.out⟩
          have n2_ : Aside0 (Below w.heap.size w ((((w24.setCell ⟨gb348, 0, none⟩ (.int .i64 ((rd_T93 l0_1 x14_1).f0))).setCell ⟨gb348, 1, none⟩ (.int .i64 ((rd_T93 l0_1 x14_1).f1))).setCell ⟨gb348, 2, none⟩ (.int .i64 ((rd_T93 l0_1 x14_1).f2))).setCell ⟨gb348, 3, none⟩ (.int .i64 ((rd_T93 l0_1 x14_1).f3)))) := ⟨bw_q HB⟩
          (try clear BK346)
          (try clear BK348)
          (try clear HB)
          generalize ((((w24.setCell ⟨gb348, 0, none⟩ (.int .i64 ((rd_T93 l0_1 x14_1).f0))).setCell ⟨gb348, 1, none⟩ (.int .i64 ((rd_T93 l0_1 x14_1).f1))).setCell ⟨gb348, 2, none⟩ (.int .i64 ((rd_T93 l0_1 x14_1).f2))).setCell ⟨gb348, 3, none⟩ (.int .i64 ((rd_T93 l0_1 x14_1).f3))) = w27 at n0_ n1_ n2_ ⊢
          have BK346 := n0_
          have BK348 := n1_
          have HB := n2_
          clear n0_ n1_ n2_
          (try clear hx347_0); (try clear hx347_1); (try clear hx347_2); (try clear hx347_3)
          have H := HC23.out
          clear HC23
          have H' := Aside0.mk H
          clear H
          go_wp2
          go_roundg k1
          case measure => have := HK1.out; omega
          case rel => exact ⟨(wrap64 (x14_1 + 1)), (by first | rfl | (simp; done) | (simp [*]; done)), H', ⟨by have := HK1.out; omega⟩, ⟨by refine bz_ ?_; exact BK346.out⟩, ⟨bw_q HB⟩⟩
       ·rw [if_neg c11] at H
        have c11b0 : (((rd_T93 l0_1 x14_1).f0) == a1) = false := beq_eq_false_iff_ne.mpr c11
        have c11b1 : (((rd_T93 l0_1 x14_1).f0) != a1) = true := bne_iff_ne.mpr c11
        by_cases c28 : ((rd_T93 l0_1 x14_1).f0) = a2
        ·rw [if_pos c28] at H
         have c28b0 : (((rd_T93 l0_1 x14_1).f0) == a2) = true := beq_iff_eq.mpr c28
         have c28b1 : (((rd_T93 l0_1 x14_1).f0) != a2) = false := bne_eq_false_iff_eq.mpr c28
         clear c28
         have HC29 := Aside0.mk H
         clear H
         have p347 : 0 ≤ (x14_1 : Int) := of_decide_eq_true as_q
         have q347 : x14_1 < (l0_1.length : Int) := of_decide_eq_true as_q
         obtain ⟨ad347, e347, hx347_0, hx347_1, hx347_2, hx347_3⟩ := at_T93 HR0_1.out x14_1 p347 q347
         cases e347
         replace hx347_0 := (HB.out.cell (World.block_lt_of_cell? w _ hx347_0)).trans hx347_0
         replace hx347_1 := (HB.out.cell (World.block_lt_of_cell? w _ hx347_1)).trans hx347_1
         replace hx347_2 := (HB.out.cell (World.block_lt_of_cell? w _ hx347_2)).trans hx347_2
         replace hx347_3 := (HB.out.cell (World.block_lt_of_cell? w _ hx347_3)).trans hx347_3
         replace p347 := eq_true p347
         replace q347 := eq_true q347
         go_upto_if 46 with (first | ((with_reducible refine gate_dst (N := 10) rfl ?_); refine box_q 10 #[.int .i64 0, .int .i64 0, .int .i64 0, .int .i64 0] 93 ?_; intro gb348 hg w30 hbox hb; have BK348 := Aside0.mk (hbox); have GW348 := Aside0.mk ((by rw [hg]; exact (below_size (bw_q HB)) : w.heap.size ≤ gb348)); have GE348 := Aside0.mk ((by rw [hg]; exact (below_size (bw_q HB)) : w.heap.size ≤ gb348)); replace HB := Aside0.mk (below_step (bw_q HB) hb); have NB346_348 := Aside0.mk ((by rw [hg]; exact Nat.ne_of_lt (blk_lt (g := gb346) (o := .cells #[.int .i64 a0_0, .slice (some ad347) l0_1.length c0_1, .slice A0_2 l0_2.length c0_2] 31 (0, 0)) (bk_q BK346)) : gb346 ≠ gb348)); have NB348_346 := Aside0.mk ((by rw [hg]; exact Nat.ne_of_gt (blk_lt (g := gb346) (o := .cells #[.int .i64 a0_0, .slice (some ad347) l0_1.length c0_1, .slice A0_2 l0_2.length c0_2] 31 (0, 0)) (bk_q BK346)) : gb348 ≠ gb346)); replace BK346 := Aside0.mk (blk_below (g := gb346) (bk_q BK346) hb); clear hb hbox hg; have hnb31 := NB348_346.out; have hnc31 := NB346_348.out; have hcz32_0 : w30.cell? ⟨gb348, 0, none⟩ = some (.int .i64 0) := (blk_cell BK348.out 0).trans rfl; have hcz32_1 : w30.cell? ⟨gb348, 1, none⟩ = some (.int .i64 0) := (blk_cell BK348.out 1).trans rfl; have hcz32_2 : w30.cell? ⟨gb348, 2, none⟩ = some (.int .i64 0) := (blk_cell BK348.out 2).trans rfl; have hcz32_3 : w30.cell? ⟨gb348, 3, none⟩ = some (.int .i64 0) := (blk_cell BK348.out 3).trans rfl; have hfz32_0 := blk_frozen BK348.out 0; have hfz32_1 := blk_frozen BK348.out 1; have hfz32_2 := blk_frozen BK348.out 2; have hfz32_3 := blk_frozen BK348.out 3))
         have n0_ : Aside0 (((((w30.setCell ⟨gb348, 0, none⟩ (.int .i64 ((rd_T93 l0_1 x14_1).f0))).setCell ⟨gb348, 1, none⟩ (.int .i64 ((rd_T93 l0_1 x14_1).f1))).setCell ⟨gb348, 2, none⟩ (.int .i64 ((rd_T93 l0_1 x14_1).f2))).setCell ⟨gb348, 3, none⟩ (.int .i64 ((rd_T93 l0_1 x14_1).f3))).heap[gb346]? = some (.cells #[.int .i64 a0_0, .slice (some ad347) l0_1.length c0_1, .slice A0_2 l0_2.length c0_2] 31 (0, 0))) := ⟨by refine bz_ ?_; refine blk_far ?_ NB346_348.out _; refine bz_ ?_; refine blk_far ?_ NB346_348.out _; refine bz_ ?_; refine blk_far ?_ NB346_348.out _; refine bz_ ?_; refine blk_far ?_ NB346_348.out _; refine bz_ ?_; exact BK346.out⟩
         have n1_ : Aside0 (((((w30.setCell ⟨gb348, 0, none⟩ (.int .i64 ((rd_T93 l0_1 x14_1).f0))).setCell ⟨gb348, 1, none⟩ (.int .i64 ((rd_T93 l0_1 x14_1).f1))).setCell ⟨gb348, 2, none⟩ (.int .i64 ((rd_T93 l0_1 x14_1).f2))).setCell ⟨gb348, 3, none⟩ (.int .i64 ((rd_T93 l0_1 x14_1).f3))).heap[gb348]? = some (.cells #[.int .i64 ((rd_T93 l0_1 x14_1).f0), .int .i64 ((rd_T93 l0_1 x14_1).f1), .int .i64 ((rd_T93 l0_1 x14_1).f2), .int .i64 ((rd_T93 l0_1 x14_1).f3)] 93 (0, 0))) := ⟨by refine bz_ ?_; refine blk_put (cs := #[.int .i64 ((rd_T93 l0_1 x14_1).f0), .int .i64 ((rd_T93 l0_1 x14_1).f1), .int .i64 ((rd_T93 l0_1 x14_1).f2), .int .i64 0]) ?_ 3 _ rfl; refine bz_ ?_; refine blk_put (cs := #[.int .i64 ((rd_T93 l0_1 x14_1).f0), .int .i64 ((rd_T93 l0_1 x14_1).f1), .int .i64 0, .int .i64 0]) ?_ 2 _ rfl; refine bz_ ?_; refine blk_put (cs := #[.int .i64 ((rd_T93 l0_1 x14_1).f0), .int .i64 0, .int .i64 0, .int .i64 0]) ?_ 1 _ rfl; refine bz_ ?_; refine blk_put (cs := #[.int .i64 0, .int .i64 0, .int .i64 0, .int .i64 0]) ?_ 0 _ rfl; refine bz_ ?_; exact BK348.out⟩
         have n2_ : Aside0 (Below w.heap.size w ((((w30.setCell ⟨gb348, 0, none⟩ (.int .i64 ((rd_T93 l0_1 x14_1).f0))).setCell ⟨gb348, 1, none⟩ (.int .i64 ((rd_T93 l0_1 x14_1).f1))).setCell ⟨gb348, 2, none⟩ (.int .i64 ((rd_T93 l0_1 x14_1).f2))).setCell ⟨gb348, 3, none⟩ (.int .i64 ((rd_T93 l0_1 x14_1).f3)))) := ⟨bw_q HB⟩
         (try clear BK346)
         (try clear BK348)
         (try clear HB)
         generalize ((((w30.setCell ⟨gb348, 0, none⟩ (.int .i64 ((rd_T93 l0_1 x14_1).f0))).setCell ⟨gb348, 1, none⟩ (.int .i64 ((rd_T93 l0_1 x14_1).f1))).setCell ⟨gb348, 2, none⟩ (.int .i64 ((rd_T93 l0_1 x14_1).f2))).setCell ⟨gb348, 3, none⟩ (.int .i64 ((rd_T93 l0_1 x14_1).f3))) = w33 at n0_ n1_ n2_ ⊢
         have BK346 := n0_
         have BK348 := n1_
         have HB := n2_
         clear n0_ n1_ n2_
         (try clear hx347_0); (try clear hx347_1); (try clear hx347_2); (try clear hx347_3)
         have H := HC29.out
         clear HC29
         by_cases c34 : ((rd_T93 l0_1 x14_1).f1) = a1
         ·rw [if_pos c34] at H
          have c34b0 : (((rd_T93 l0_1 x14_1).f1) == a1) = true := beq_iff_eq.mpr c34
          have c34b1 : (((rd_T93 l0_1 x14_1).f1) != a1) = false := bne_eq_false_iff_eq.mpr c34
          clear c34
          (first | rw [c34b0] | rw [c34b1] | (simp only [i64_w, i32_w]; first | rw [c34b0] | rw [c34b1]) | skip)
          obtain rfl := Option.some.inj H
          go_wp2
          go_ret
          exact ⟨er_q, bw_q HB⟩
         ·rw [if_neg c34] at H
          have c34b0 : (((rd_T93 l0_1 x14_1).f1) == a1) = false := beq_eq_false_iff_ne.mpr c34
          have c34b1 : (((rd_T93 l0_1 x14_1).f1) != a1) = true := bne_iff_ne.mpr c34
          (first | rw [c34b0] | rw [c34b1] | (simp only [i64_w, i32_w]; first | rw [c34b0] | rw [c34b1]) | skip)
          have H' := Aside0.mk H
          clear H
          go_wp2
          go_roundg k1
          case measure => have := HK1.out; omega
          case rel => exact ⟨(wrap64 (x14_1 + 1)), (by first | rfl | (simp; done) | (simp [*]; done)), H', ⟨by have := HK1.out; omega⟩, ⟨by refine bz_ ?_; exact BK346.out⟩, ⟨bw_q HB⟩⟩
        ·rw [if_neg c28] at H
         have c28b0 : (((rd_T93 l0_1 x14_1).f0) == a2) = false := beq_eq_false_iff_ne.mpr c28
         have c28b1 : (((rd_T93 l0_1 x14_1).f0) != a2) = true := bne_iff_ne.mpr c28
         have HC35 := Aside0.mk H
         clear H
         have p347 : 0 ≤ (x14_1 : Int) := of_decide_eq_true as_q
         have q347 : x14_1 < (l0_1.length : Int) := of_decide_eq_true as_q
         obtain ⟨ad347, e347, hx347_0, hx347_1, hx347_2, hx347_3⟩ := at_T93 HR0_1.out x14_1 p347 q347
         cases e347
         replace hx347_0 := (HB.out.cell (World.block_lt_of_cell? w _ hx347_0)).trans hx347_0
         replace hx347_1 := (HB.out.cell (World.block_lt_of_cell? w _ hx347_1)).trans hx347_1
         replace hx347_2 := (HB.out.cell (World.block_lt_of_cell? w _ hx347_2)).trans hx347_2
         replace hx347_3 := (HB.out.cell (World.block_lt_of_cell? w _ hx347_3)).trans hx347_3
         replace p347 := eq_true p347
         replace q347 := eq_true q347
         go_upto_if 46 with (first | ((with_reducible refine gate_dst (N := 10) rfl ?_); refine box_q 10 #[.int .i64 0, .int .i64 0, .int .i64 0, .int .i64 0] 93 ?_; intro gb348 hg w36 hbox hb; have BK348 := Aside0.mk (hbox); have GW348 := Aside0.mk ((by rw [hg]; exact (below_size (bw_q HB)) : w.heap.size ≤ gb348)); have GE348 := Aside0.mk ((by rw [hg]; exact (below_size (bw_q HB)) : w.heap.size ≤ gb348)); replace HB := Aside0.mk (below_step (bw_q HB) hb); have NB346_348 := Aside0.mk ((by rw [hg]; exact Nat.ne_of_lt (blk_lt (g := gb346) (o := .cells #[.int .i64 a0_0, .slice (some ad347) l0_1.length c0_1, .slice A0_2 l0_2.length c0_2] 31 (0, 0)) (bk_q BK346)) : gb346 ≠ gb348)); have NB348_346 := Aside0.mk ((by rw [hg]; exact Nat.ne_of_gt (blk_lt (g := gb346) (o := .cells #[.int .i64 a0_0, .slice (some ad347) l0_1.length c0_1, .slice A0_2 l0_2.length c0_2] 31 (0, 0)) (bk_q BK346)) : gb348 ≠ gb346)); replace BK346 := Aside0.mk (blk_below (g := gb346) (bk_q BK346) hb); clear hb hbox hg; have hnb37 := NB348_346.out; have hnc37 := NB346_348.out; have hcz38_0 : w36.cell? ⟨gb348, 0, none⟩ = some (.int .i64 0) := (blk_cell BK348.out 0).trans rfl; have hcz38_1 : w36.cell? ⟨gb348, 1, none⟩ = some (.int .i64 0) := (blk_cell BK348.out 1).trans rfl; have hcz38_2 : w36.cell? ⟨gb348, 2, none⟩ = some (.int .i64 0) := (blk_cell BK348.out 2).trans rfl; have hcz38_3 : w36.cell? ⟨gb348, 3, none⟩ = some (.int .i64 0) := (blk_cell BK348.out 3).trans rfl; have hfz38_0 := blk_frozen BK348.out 0; have hfz38_1 := blk_frozen BK348.out 1; have hfz38_2 := blk_frozen BK348.out 2; have hfz38_3 := blk_frozen BK348.out 3))
         have n0_ : Aside0 (((((w36.setCell ⟨gb348, 0, none⟩ (.int .i64 ((rd_T93 l0_1 x14_1).f0))).setCell ⟨gb348, 1, none⟩ (.int .i64 ((rd_T93 l0_1 x14_1).f1))).setCell ⟨gb348, 2, none⟩ (.int .i64 ((rd_T93 l0_1 x14_1).f2))).setCell ⟨gb348, 3, none⟩ (.int .i64 ((rd_T93 l0_1 x14_1).f3))).heap[gb346]? = some (.cells #[.int .i64 a0_0, .slice (some ad347) l0_1.length c0_1, .slice A0_2 l0_2.length c0_2] 31 (0, 0))) := ⟨by refine bz_ ?_; refine blk_far ?_ NB346_348.out _; refine bz_ ?_; refine blk_far ?_ NB346_348.out _; refine bz_ ?_; refine blk_far ?_ NB346_348.out _; refine bz_ ?_; refine blk_far ?_ NB346_348.out _; refine bz_ ?_; exact BK346.out⟩
         have n1_ : Aside0 (((((w36.setCell ⟨gb348, 0, none⟩ (.int .i64 ((rd_T93 l0_1 x14_1).f0))).setCell ⟨gb348, 1, none⟩ (.int .i64 ((rd_T93 l0_1 x14_1).f1))).setCell ⟨gb348, 2, none⟩ (.int .i64 ((rd_T93 l0_1 x14_1).f2))).setCell ⟨gb348, 3, none⟩ (.int .i64 ((rd_T93 l0_1 x14_1).f3))).heap[gb348]? = some (.cells #[.int .i64 ((rd_T93 l0_1 x14_1).f0), .int .i64 ((rd_T93 l0_1 x14_1).f1), .int .i64 ((rd_T93 l0_1 x14_1).f2), .int .i64 ((rd_T93 l0_1 x14_1).f3)] 93 (0, 0))) := ⟨by refine bz_ ?_; refine blk_put (cs := #[.int .i64 ((rd_T93 l0_1 x14_1).f0), .int .i64 ((rd_T93 l0_1 x14_1).f1), .int .i64 ((rd_T93 l0_1 x14_1).f2), .int .i64 0]) ?_ 3 _ rfl; refine bz_ ?_; refine blk_put (cs := #[.int .i64 ((rd_T93 l0_1 x14_1).f0), .int .i64 ((rd_T93 l0_1 x14_1).f1), .int .i64 0, .int .i64 0]) ?_ 2 _ rfl; refine bz_ ?_; refine blk_put (cs := #[.int .i64 ((rd_T93 l0_1 x14_1).f0), .int .i64 0, .int .i64 0, .int .i64 0]) ?_ 1 _ rfl; refine bz_ ?_; refine blk_put (cs := #[.int .i64 0, .int .i64 0, .int .i64 0, .int .i64 0]) ?_ 0 _ rfl; refine bz_ ?_; exact BK348.out⟩
         have n2_ : Aside0 (Below w.heap.size w ((((w36.setCell ⟨gb348, 0, none⟩ (.int .i64 ((rd_T93 l0_1 x14_1).f0))).setCell ⟨gb348, 1, none⟩ (.int .i64 ((rd_T93 l0_1 x14_1).f1))).setCell ⟨gb348, 2, none⟩ (.int .i64 ((rd_T93 l0_1 x14_1).f2))).setCell ⟨gb348, 3, none⟩ (.int .i64 ((rd_T93 l0_1 x14_1).f3)))) := ⟨bw_q HB⟩
         (try clear BK346)
         (try clear BK348)
         (try clear HB)
         generalize ((((w36.setCell ⟨gb348, 0, none⟩ (.int .i64 ((rd_T93 l0_1 x14_1).f0))).setCell ⟨gb348, 1, none⟩ (.int .i64 ((rd_T93 l0_1 x14_1).f1))).setCell ⟨gb348, 2, none⟩ (.int .i64 ((rd_T93 l0_1 x14_1).f2))).setCell ⟨gb348, 3, none⟩ (.int .i64 ((rd_T93 l0_1 x14_1).f3))) = w39 at n0_ n1_ n2_ ⊢
         have BK346 := n0_
         have BK348 := n1_
         have HB := n2_
         clear n0_ n1_ n2_
         (try clear hx347_0); (try clear hx347_1); (try clear hx347_2); (try clear hx347_3)
         have H := HC35.out
         clear HC35
         have H' := Aside0.mk H
         clear H
         go_wp2
         go_roundg k1
         case measure => have := HK1.out; omega
         case rel => exact ⟨(wrap64 (x14_1 + 1)), (by first | rfl | (simp; done) | (simp [*]; done)), H', ⟨by have := HK1.out; omega⟩, ⟨by refine bz_ ?_; exact BK346.out⟩, ⟨bw_q HB⟩⟩
      ·rw [if_neg c10] at H
       have c10b0 : (((rd_T93 l0_1 x14_1).f3) == a3) = false := beq_eq_false_iff_ne.mpr c10
       have c10b1 : (((rd_T93 l0_1 x14_1).f3) != a3) = true := bne_iff_ne.mpr c10
       have HC40 := Aside0.mk H
       clear H
       have p347 : 0 ≤ (x14_1 : Int) := of_decide_eq_true as_q
       have q347 : x14_1 < (l0_1.length : Int) := of_decide_eq_true as_q
       obtain ⟨ad347, e347, hx347_0, hx347_1, hx347_2, hx347_3⟩ := at_T93 HR0_1.out x14_1 p347 q347
       cases e347
       replace hx347_0 := (HB.out.cell (World.block_lt_of_cell? w _ hx347_0)).trans hx347_0
       replace hx347_1 := (HB.out.cell (World.block_lt_of_cell? w _ hx347_1)).trans hx347_1
       replace hx347_2 := (HB.out.cell (World.block_lt_of_cell? w _ hx347_2)).trans hx347_2
       replace hx347_3 := (HB.out.cell (World.block_lt_of_cell? w _ hx347_3)).trans hx347_3
       replace p347 := eq_true p347
       replace q347 := eq_true q347
       go_upto_if 46 with (first | ((with_reducible refine gate_dst (N := 10) rfl ?_); refine box_q 10 #[.int .i64 0, .int .i64 0, .int .i64 0, .int .i64 0] 93 ?_; intro gb348 hg w41 hbox hb; have BK348 := Aside0.mk (hbox); have GW348 := Aside0.mk ((by rw [hg]; exact (below_size (bw_q HB)) : w.heap.size ≤ gb348)); have GE348 := Aside0.mk ((by rw [hg]; exact (below_size (bw_q HB)) : w.heap.size ≤ gb348)); replace HB := Aside0.mk (below_step (bw_q HB) hb); have NB346_348 := Aside0.mk ((by rw [hg]; exact Nat.ne_of_lt (blk_lt (g := gb346) (o := .cells #[.int .i64 a0_0, .slice (some ad347) l0_1.length c0_1, .slice A0_2 l0_2.length c0_2] 31 (0, 0)) (bk_q BK346)) : gb346 ≠ gb348)); have NB348_346 := Aside0.mk ((by rw [hg]; exact Nat.ne_of_gt (blk_lt (g := gb346) (o := .cells #[.int .i64 a0_0, .slice (some ad347) l0_1.length c0_1, .slice A0_2 l0_2.length c0_2] 31 (0, 0)) (bk_q BK346)) : gb348 ≠ gb346)); replace BK346 := Aside0.mk (blk_below (g := gb346) (bk_q BK346) hb); clear hb hbox hg; have hnb42 := NB348_346.out; have hnc42 := NB346_348.out; have hcz43_0 : w41.cell? ⟨gb348, 0, none⟩ = some (.int .i64 0) := (blk_cell BK348.out 0).trans rfl; have hcz43_1 : w41.cell? ⟨gb348, 1, none⟩ = some (.int .i64 0) := (blk_cell BK348.out 1).trans rfl; have hcz43_2 : w41.cell? ⟨gb348, 2, none⟩ = some (.int .i64 0) := (blk_cell BK348.out 2).trans rfl; have hcz43_3 : w41.cell? ⟨gb348, 3, none⟩ = some (.int .i64 0) := (blk_cell BK348.out 3).trans rfl; have hfz43_0 := blk_frozen BK348.out 0; have hfz43_1 := blk_frozen BK348.out 1; have hfz43_2 := blk_frozen BK348.out 2; have hfz43_3 := blk_frozen BK348.out 3))
       have n0_ : Aside0 (((((w41.setCell ⟨gb348, 0, none⟩ (.int .i64 ((rd_T93 l0_1 x14_1).f0))).setCell ⟨gb348, 1, none⟩ (.int .i64 ((rd_T93 l0_1 x14_1).f1))).setCell ⟨gb348, 2, none⟩ (.int .i64 ((rd_T93 l0_1 x14_1).f2))).setCell ⟨gb348, 3, none⟩ (.int .i64 ((rd_T93 l0_1 x14_1).f3))).heap[gb346]? = some (.cells #[.int .i64 a0_0, .slice (some ad347) l0_1.length c0_1, .slice A0_2 l0_2.length c0_2] 31 (0, 0))) := ⟨by refine bz_ ?_; refine blk_far ?_ NB346_348.out _; refine bz_ ?_; refine blk_far ?_ NB346_348.out _; refine bz_ ?_; refine blk_far ?_ NB346_348.out _; refine bz_ ?_; refine blk_far ?_ NB346_348.out _; refine bz_ ?_; exact BK346.out⟩
       have n1_ : Aside0 (((((w41.setCell ⟨gb348, 0, none⟩ (.int .i64 ((rd_T93 l0_1 x14_1).f0))).setCell ⟨gb348, 1, none⟩ (.int .i64 ((rd_T93 l0_1 x14_1).f1))).setCell ⟨gb348, 2, none⟩ (.int .i64 ((rd_T93 l0_1 x14_1).f2))).setCell ⟨gb348, 3, none⟩ (.int .i64 ((rd_T93 l0_1 x14_1).f3))).heap[gb348]? = some (.cells #[.int .i64 ((rd_T93 l0_1 x14_1).f0), .int .i64 ((rd_T93 l0_1 x14_1).f1), .int .i64 ((rd_T93 l0_1 x14_1).f2), .int .i64 ((rd_T93 l0_1 x14_1).f3)] 93 (0, 0))) := ⟨by refine bz_ ?_; refine blk_put (cs := #[.int .i64 ((rd_T93 l0_1 x14_1).f0), .int .i64 ((rd_T93 l0_1 x14_1).f1), .int .i64 ((rd_T93 l0_1 x14_1).f2), .int .i64 0]) ?_ 3 _ rfl; refine bz_ ?_; refine blk_put (cs := #[.int .i64 ((rd_T93 l0_1 x14_1).f0), .int .i64 ((rd_T93 l0_1 x14_1).f1), .int .i64 0, .int .i64 0]) ?_ 2 _ rfl; refine bz_ ?_; refine blk_put (cs := #[.int .i64 ((rd_T93 l0_1 x14_1).f0), .int .i64 0, .int .i64 0, .int .i64 0]) ?_ 1 _ rfl; refine bz_ ?_; refine blk_put (cs := #[.int .i64 0, .int .i64 0, .int .i64 0, .int .i64 0]) ?_ 0 _ rfl; refine bz_ ?_; exact BK348.out⟩
       have n2_ : Aside0 (Below w.heap.size w ((((w41.setCell ⟨gb348, 0, none⟩ (.int .i64 ((rd_T93 l0_1 x14_1).f0))).setCell ⟨gb348, 1, none⟩ (.int .i64 ((rd_T93 l0_1 x14_1).f1))).setCell ⟨gb348, 2, none⟩ (.int .i64 ((rd_T93 l0_1 x14_1).f2))).setCell ⟨gb348, 3, none⟩ (.int .i64 ((rd_T93 l0_1 x14_1).f3)))) := ⟨bw_q HB⟩
       (try clear BK346)
       (try clear BK348)
       (try clear HB)
       generalize ((((w41.setCell ⟨gb348, 0, none⟩ (.int .i64 ((rd_T93 l0_1 x14_1).f0))).setCell ⟨gb348, 1, none⟩ (.int .i64 ((rd_T93 l0_1 x14_1).f1))).setCell ⟨gb348, 2, none⟩ (.int .i64 ((rd_T93 l0_1 x14_1).f2))).setCell ⟨gb348, 3, none⟩ (.int .i64 ((rd_T93 l0_1 x14_1).f3))) = w44 at n0_ n1_ n2_ ⊢
       have BK346 := n0_
       have BK348 := n1_
       have HB := n2_
       clear n0_ n1_ n2_
       (try clear hx347_0); (try clear hx347_1); (try clear hx347_2); (try clear hx347_3)
       have H := HC40.out
       clear HC40
       have H' := Aside0.mk H
       clear H
       go_wp2
       go_roundg k1
       case measure => have := HK1.out; omega
       case rel => exact ⟨(wrap64 (x14_1 + 1)), (by first | rfl | (simp; done) | (simp [*]; done)), H', ⟨by have := HK1.out; omega⟩, ⟨by refine bz_ ?_; exact BK346.out⟩, ⟨bw_q HB⟩⟩
     ·rw [if_neg c9] at H
      exact absurd H (by simp)
    ·rw [if_neg c8] at H
     exact absurd H (by simp)
   ·rw [if_neg c7] at H
    have c7b0 : decide (x14_1 < (l0_1.length : Int)) = false := decide_eq_false c7
    clear c7
    obtain rfl := Option.some.inj H
    go_wp2
    go_ret
    exact ⟨er_q, bw_q HB⟩

end Go.Proofs.Ythjmdiggglkeaaa.Q

/- A Go function as a Lean function, and its contract: for every input the Go code comes to what the Lean function tells. -/


namespace Go.Proofs.Ythjmdiggglkeaaa.Q
open Go.RowKit Go.Proofs.YthjmdiggglkeaaaW.PrintWords Go.Proofs.YthjmdiggglkeaaaW.PrintLast Go.Proofs.YthjmdiggglkeaaaW.PrintMore
attribute [local go_sem] max2_int min2_int max_two min_two max_three min_three max_four min_four   -- for this text's walks alone
set_option linter.unusedVariables false
set_option linter.unusedSimpArgs false

/-! ### impl_CostTo: function 65 -/
def impl_CostTo.f (k : Nat) (a0_0 : Int) (l0_1 : List (S93)) (l0_2 : List (S102)) (a1 : Int) (a2 : Int) (a3 : Int) : Option (Int) := (impl_linkAt.f k a0_0 l0_1 l0_2 a1 a2 a3).bind fun t1747 => (if t1747 ≥ 0 then (if 0 ≤ t1747 then (if t1747 < (l0_1.length : Int) then (some ((rd_T93 l0_1 t1747).f2)) else (none)) else (none)) else (some 0))
theorem impl_CostTo.mono : ∀ a0 a1 a2 a3 a4 a5 k, LeO (impl_CostTo.f k a0 a1 a2 a3 a4 a5) (impl_CostTo.f (k + 1) a0 a1 a2 a3 a4 a5) := by
 intro a0 a1 a2 a3 a4 a5 k
 unfold impl_CostTo.f
 repeat' first
   | (with_reducible exact impl_linkAt.mono _ _ _ _ _ _ _)
   | (with_reducible exact LeO.refl _)
   | (with_reducible exact LeO.none _)
   | (with_reducible refine LeO.ite ?_ ?_)
   | (with_reducible refine LeO.bind ?_ (fun _ => ?_))
   | exact impl_linkAt.mono _ _ _ _ _ _ _
   | exact LeO.none _
   | refine LeO.ite ?_ ?_
   | refine LeO.bind ?_ (fun _ => ?_)
set_option maxHeartbeats 8000000 in
set_option maxRecDepth 100000 in
theorem impl_CostTo.calls (k : Nat) (a0_0 : Int) (A0_1 : Option Addr) (c0_1 : Nat) (l0_1 : List (S93)) (A0_2 : Option Addr) (c0_2 : Nat) (l0_2 : List (S102)) (a1 : Int) (a2 : Int) (a3 : Int) (r : Int) (w : World) (hr0_1 : Kd.C k93 w A0_1 l0_1.length l0_1) (hc0_1 : l0_1.length ≤ c0_1) (hr0_2 : Kd.C k102 w A0_2 l0_2.length l0_2) (hc0_2 : l0_2.length ≤ c0_2) (h : impl_CostTo.f k a0_0 l0_1 l0_2 a1 a2 a3 = some r) :
  Calls Try.prog 65 #[.agg #[.int .i64 a0_0, .slice A0_1 l0_1.length c0_1, .slice A0_2 l0_2.length c0_2], .int .i64 a1, .int .i64 a2, .int .i64 a3] w fun e w' => e = .returned (.int .i64 r) ∧ Below w.heap.size w w' := by
 have hu31 := Try.underlying31
 have HR0_1 := Aside0.mk hr0_1
 have HC0_1 := Aside0.mk hc0_1
 clear hr0_1 hc0_1
 have HR0_2 := Aside0.mk hr0_2
 have HC0_2 := Aside0.mk hc0_2
 clear hr0_2 hc0_2
 have HB := Aside0.mk (Below.refl w.heap.size w)
 have H : ((impl_linkAt.f k a0_0 l0_1 l0_2 a1 a2 a3).bind fun t1747 => (if t1747 ≥ 0 then (if 0 ≤ t1747 then (if t1747 < (l0_1.length : Int) then (some ((rd_T93 l0_1 t1747).f2)) else (none)) else (none)) else (some 0))) = some r := h
 clear h
 replace H := Option.bind_eq_some_iff.mp H
 obtain ⟨t1747, A50, H⟩ := H
 replace H : (if t1747 ≥ 0 then (if 0 ≤ t1747 then (if t1747 < (l0_1.length : Int) then (some ((rd_T93 l0_1 t1747).f2)) else (none)) else (none)) else (some 0)) = some r := H
 have A5 := Aside0.mk A50
 clear A50
 have HC6 := Aside0.mk H
 clear H
 go_enter Try.func65, Try.ntmps65
 go_upto_if 16 with (first | ((with_reducible refine gate_dst (N := 4) rfl ?_); refine box_q 4 #[.int .i64 a0_0, .slice A0_1 l0_1.length c0_1, .slice A0_2 l0_2.length c0_2] 31 ?_; intro gb1746 hg w7 hbox hb; have BK1746 := Aside0.mk (hbox); have GW1746 := Aside0.mk ((by rw [hg]; exact (below_size (bw_q HB)) : w.heap.size ≤ gb1746)); have GE1746 := Aside0.mk ((by rw [hg]; exact (below_size (bw_q HB)) : w.heap.size ≤ gb1746)); replace HB := Aside0.mk (below_step (bw_q HB) hb); clear hb hbox hg; have hcz8_0 : w7.cell? ⟨gb1746, 0, none⟩ = some (.int .i64 a0_0) := (blk_cell BK1746.out 0).trans rfl; have hcz8_1 : w7.cell? ⟨gb1746, 1, none⟩ = some (.slice A0_1 l0_1.length c0_1) := (blk_cell BK1746.out 1).trans rfl; have hcz8_2 : w7.cell? ⟨gb1746, 2, none⟩ = some (.slice A0_2 l0_2.length c0_2) := (blk_cell BK1746.out 2).trans rfl; have hfz8_0 := blk_frozen BK1746.out 0; have hfz8_1 := blk_frozen BK1746.out 1; have hfz8_2 := blk_frozen BK1746.out 2) | ((with_reducible refine gate_callee (f := 124) rfl ?_); refine goesL_ (some 14) rfl rfl Try.func124 (by kernel_rfl) rfl #[.agg #[.int .i64 a0_0, .slice A0_1 l0_1.length c0_1, .slice A0_2 l0_2.length c0_2], .int .i64 a1, .int .i64 a2, .int .i64 a3] rfl mp_q ?_; (with_reducible refine (impl_linkAt.calls k a0_0 _ _ l0_1 _ _ l0_2 a1 a2 a3 t1747 _ ?side1 ?side2 ?side3 ?side4 A5.out).mono ?_); (case side1 => exact cs_q (Kd.C_below HR0_1.out HB.out)); (case side2 => exact HC0_1.out); (case side3 => exact cs_q (Kd.C_below HR0_2.out HB.out)); (case side4 => exact HC0_2.out); rintro e w9 ⟨rfl, hb⟩; refine ⟨_, rfl, ?_⟩; replace BK1746 := Aside0.mk (blk_below (g := gb1746) (bk_q BK1746) hb); replace HB := Aside0.mk (below_step (bw_q HB) hb); (try clear hb); (try clear hb2); (try clear hk); (try clear hi)))
 have H := HC6.out
 clear HC6
 by_cases c10 : t1747 ≥ 0
 ·rw [if_pos c10] at H
  have c10b0 : decide (0 ≤ t1747) = true := decide_eq_true c10
  clear c10
  (first | rw [c10b0] | rw [c10b1] | (simp only [i64_w, i32_w]; first | rw [c10b0] | rw [c10b1]) | skip)
  by_cases c11 : 0 ≤ t1747
  ·rw [if_pos c11] at H
   have c11b0 : decide (0 ≤ t1747) = true := decide_eq_true c11
   clear c11
   by_cases c12 : t1747 < (l0_1.length : Int)
   ·rw [if_pos c12] at H
    have c12b0 : decide (t1747 < (l0_1.length : Int)) = true := decide_eq_true c12
    clear c12
    obtain rfl := Option.some.inj H
    obtain ⟨hcz13_0, hcz13_1, hcz13_2⟩ := cz3_ BK1746
    obtain ⟨hfz13_0, hfz13_1, hfz13_2⟩ := fz3_ BK1746
    have p1748 : 0 ≤ (t1747 : Int) := of_decide_eq_true as_q
    have q1748 : t1747 < (l0_1.length : Int) := of_decide_eq_true as_q
    obtain ⟨ad1748, e1748, hx1748_0, hx1748_1, hx1748_2, hx1748_3⟩ := at_T93 HR0_1.out t1747 p1748 q1748
    cases e1748
    replace hx1748_0 := (HB.out.cell (World.block_lt_of_cell? w _ hx1748_0)).trans hx1748_0
    replace hx1748_1 := (HB.out.cell (World.block_lt_of_cell? w _ hx1748_1)).trans hx1748_1
    replace hx1748_2 := (HB.out.cell (World.block_lt_of_cell? w _ hx1748_2)).trans hx1748_2
    replace hx1748_3 := (HB.out.cell (World.block_lt_of_cell? w _ hx1748_3)).trans hx1748_3
    replace p1748 := eq_true p1748
    replace q1748 := eq_true q1748
    go_wp2
    go_ret
    exact ⟨er_q, bw_q HB⟩
   ·rw [if_neg c12] at H
    exact absurd H (by simp)
  ·rw [if_neg c11] at H
   exact absurd H (by simp)
 ·rw [if_neg c10] at H
  have c10b0 : decide (0 ≤ t1747) = false := decide_eq_false c10
  clear c10
  (first | rw [c10b0] | rw [c10b1] | (simp only [i64_w, i32_w]; first | rw [c10b0] | rw [c10b1]) | skip)
  obtain rfl := Option.some.inj H
  go_wp2
  go_ret
  exact ⟨er_q, bw_q HB⟩

end Go.Proofs.Ythjmdiggglkeaaa.Q
