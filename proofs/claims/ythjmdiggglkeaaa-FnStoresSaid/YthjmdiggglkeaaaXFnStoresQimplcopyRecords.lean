import Derived.Test.YthjmdiggglkeaaaXFnStoresQimplnearOk
/- A Go function as a Lean function, and its contract: for every input the Go code comes to what the Lean function tells. -/

namespace Go.Proofs.Ythjmdiggglkeaaa.Q
open Go.RowKit Go.Proofs.YthjmdiggglkeaaaW.PrintWords Go.Proofs.YthjmdiggglkeaaaW.PrintLast Go.Proofs.YthjmdiggglkeaaaW.PrintMore
attribute [local go_sem] max2_int min2_int max_two min_two max_three min_three max_four min_four   -- for this text's walks alone
set_option linter.unusedVariables false
set_option linter.unusedSimpArgs false

/-! ### impl_SameKey: function 69 -/
def impl_SameKey.f (a0_0 : Int) (a0_1 : Int) (a0_2 : Int) (a0_3 : Int) (a0_4 : Int) (l0_5 : List (S127)) (a0_6 : Int) (a0_7 : Bool) (a1_0 : Int) (a1_1 : Int) (a1_2 : Int) (a1_3 : Int) (a1_4 : Int) (l1_5 : List (S127)) (a1_6 : Int) (a1_7 : Bool) : Option (Bool) := if a0_0 = a1_0 then (if a0_1 = a1_1 then (if a0_2 = a1_2 then (some (a0_3 == a1_3)) else (some false)) else (some false)) else (some false)
set_option maxHeartbeats 8000000 in
set_option maxRecDepth 100000 in
theorem impl_SameKey.calls (a0_0 : Int) (a0_1 : Int) (a0_2 : Int) (a0_3 : Int) (a0_4 : Int) (A0_5 : Option Addr) (c0_5 : Nat) (l0_5 : List (S127)) (a0_6 : Int) (a0_7 : Bool) (a1_0 : Int) (a1_1 : Int) (a1_2 : Int) (a1_3 : Int) (a1_4 : Int) (A1_5 : Option Addr) (c1_5 : Nat) (l1_5 : List (S127)) (a1_6 : Int) (a1_7 : Bool) (r : Bool) (w : World) (hr0_5 : Kd.C k127 w A0_5 l0_5.length l0_5) (hc0_5 : l0_5.length ≤ c0_5) (hr1_5 : Kd.C k127 w A1_5 l1_5.length l1_5) (hc1_5 : l1_5.length ≤ c1_5) (h : impl_SameKey.f a0_0 a0_1 a0_2 a0_3 a0_4 l0_5 a0_6 a0_7 a1_0 a1_1 a1_2 a1_3 a1_4 l1_5 a1_6 a1_7 = some r) :
  Calls Try.prog 69 #[.agg #[.int .i64 a0_0, .int .i64 a0_1, .int .i64 a0_2, .int .i64 a0_3, .int .i64 a0_4, .slice A0_5 l0_5.length c0_5, .int .i64 a0_6, .bool a0_7], .agg #[.int .i64 a1_0, .int .i64 a1_1, .int .i64 a1_2, .int .i64 a1_3, .int .i64 a1_4, .slice A1_5 l1_5.length c1_5, .int .i64 a1_6, .bool a1_7]] w fun e w' => e = .returned (.bool r) ∧ Below w.heap.size w w' := by
 have hu61 := Try.underlying61
 have HR0_5 := Aside0.mk hr0_5
 have HC0_5 := Aside0.mk hc0_5
 clear hr0_5 hc0_5
 have HR1_5 := Aside0.mk hr1_5
 have HC1_5 := Aside0.mk hc1_5
 clear hr1_5 hc1_5
 have HB := Aside0.mk (Below.refl w.heap.size w)
 have H : (if a0_0 = a1_0 then (if a0_1 = a1_1 then (if a0_2 = a1_2 then (some (a0_3 == a1_3)) else (some false)) else (some false)) else (some false)) = some r := h
 clear h
 by_cases c3 : a0_0 = a1_0
 ·rw [if_pos c3] at H
  have c3b0 : (a0_0 == a1_0) = true := beq_iff_eq.mpr c3
  have c3b1 : (a0_0 != a1_0) = false := bne_eq_false_iff_eq.mpr c3
  clear c3
  by_cases c4 : a0_1 = a1_1
  ·rw [if_pos c4] at H
   have c4b0 : (a0_1 == a1_1) = true := beq_iff_eq.mpr c4
   have c4b1 : (a0_1 != a1_1) = false := bne_eq_false_iff_eq.mpr c4
   clear c4
   by_cases c5 : a0_2 = a1_2
   ·rw [if_pos c5] at H
    have c5b0 : (a0_2 == a1_2) = true := beq_iff_eq.mpr c5
    have c5b1 : (a0_2 != a1_2) = false := bne_eq_false_iff_eq.mpr c5
    clear c5
    obtain rfl := Option.some.inj H
    go_enter Try.func69, Try.ntmps69
    go_wp2_with (first | ((with_reducible refine gate_dst (N := 2) rfl ?_); refine box_q 2 #[.int .i64 a0_0, .int .i64 a0_1, .int .i64 a0_2, .int .i64 a0_3, .int .i64 a0_4, .slice A0_5 l0_5.length c0_5, .int .i64 a0_6, .bool a0_7] 61 ?_; intro gb609 hg w6 hbox hb; have BK609 := Aside0.mk (hbox); have GW609 := Aside0.mk ((by rw [hg]; exact (below_size (bw_q HB)) : w.heap.size ≤ gb609)); have GE609 := Aside0.mk ((by rw [hg]; exact (below_size (bw_q HB)) : w.heap.size ≤ gb609)); replace HB := Aside0.mk (below_step (bw_q HB) hb); clear hb hbox hg) | ((with_reducible refine gate_dst (N := 3) rfl ?_); refine box_q 3 #[.int .i64 a1_0, .int .i64 a1_1, .int .i64 a1_2, .int .i64 a1_3, .int .i64 a1_4, .slice A1_5 l1_5.length c1_5, .int .i64 a1_6, .bool a1_7] 61 ?_; intro gb610 hg w7 hbox hb; have BK610 := Aside0.mk (hbox); have GW610 := Aside0.mk ((by rw [hg]; exact (below_size (bw_q HB)) : w.heap.size ≤ gb610)); have GE610 := Aside0.mk ((by rw [hg]; exact (below_size (bw_q HB)) : w.heap.size ≤ gb610)); replace HB := Aside0.mk (below_step (bw_q HB) hb); have NB609_610 := Aside0.mk ((by rw [hg]; exact Nat.ne_of_lt (blk_lt (g := gb609) (o := .cells #[.int .i64 a0_0, .int .i64 a0_1, .int .i64 a0_2, .int .i64 a0_3, .int .i64 a0_4, .slice A0_5 l0_5.length c0_5, .int .i64 a0_6, .bool a0_7] 61 (0, 0)) (bk_q BK609)) : gb609 ≠ gb610)); have NB610_609 := Aside0.mk ((by rw [hg]; exact Nat.ne_of_gt (blk_lt (g := gb609) (o := .cells #[.int .i64 a0_0, .int .i64 a0_1, .int .i64 a0_2, .int .i64 a0_3, .int .i64 a0_4, .slice A0_5 l0_5.length c0_5, .int .i64 a0_6, .bool a0_7] 61 (0, 0)) (bk_q BK609)) : gb610 ≠ gb609)); replace BK609 := Aside0.mk (blk_below (g := gb609) (bk_q BK609) hb); clear hb hbox hg; have hnb8 := NB609_610.out; have hnc8 := NB610_609.out; have hcz9_0 : w7.cell? ⟨gb609, 0, none⟩ = some (.int .i64 a0_0) := (blk_cell BK609.out 0).trans rfl; have hcz9_1 : w7.cell? ⟨gb609, 1, none⟩ = some (.int .i64 a0_1) := (blk_cell BK609.out 1).trans rfl; have hcz9_2 : w7.cell? ⟨gb609, 2, none⟩ = some (.int .i64 a0_2) := (blk_cell BK609.out 2).trans rfl; have hcz9_3 : w7.cell? ⟨gb609, 3, none⟩ = some (.int .i64 a0_3) := (blk_cell BK609.out 3).trans rfl; have hcz9_4 : w7.cell? ⟨gb609, 4, none⟩ = some (.int .i64 a0_4) := (blk_cell BK609.out 4).trans rfl; have hcz9_5 : w7.cell? ⟨gb609, 5, none⟩ = some (.slice A0_5 l0_5.length c0_5) := (blk_cell BK609.out 5).trans rfl; have hcz9_6 : w7.cell? ⟨gb609, 6, none⟩ = some (.int .i64 a0_6) := (blk_cell BK609.out 6).trans rfl; have hcz9_7 : w7.cell? ⟨gb609, 7, none⟩ = some (.bool a0_7) := (blk_cell BK609.out 7).trans rfl; have hfz9_0 := blk_frozen BK609.out 0; have hfz9_1 := blk_frozen BK609.out 1; have hfz9_2 := blk_frozen BK609.out 2; have hfz9_3 := blk_frozen BK609.out 3; have hfz9_4 := blk_frozen BK609.out 4; have hfz9_5 := blk_frozen BK609.out 5; have hfz9_6 := blk_frozen BK609.out 6; have hfz9_7 := blk_frozen BK609.out 7; have hcz10_0 : w7.cell? ⟨gb610, 0, none⟩ = some (.int .i64 a1_0) := (blk_cell BK610.out 0).trans rfl; have hcz10_1 : w7.cell? ⟨gb610, 1, none⟩ = some (.int .i64 a1_1) := (blk_cell BK610.out 1).trans rfl; have hcz10_2 : w7.cell? ⟨gb610, 2, none⟩ = some (.int .i64 a1_2) := (blk_cell BK610.out 2).trans rfl; have hcz10_3 : w7.cell? ⟨gb610, 3, none⟩ = some (.int .i64 a1_3) := (blk_cell BK610.out 3).trans rfl; have hcz10_4 : w7.cell? ⟨gb610, 4, none⟩ = some (.int .i64 a1_4) := (blk_cell BK610.out 4).trans rfl; have hcz10_5 : w7.cell? ⟨gb610, 5, none⟩ = some (.slice A1_5 l1_5.length c1_5) := (blk_cell BK610.out 5).trans rfl; have hcz10_6 : w7.cell? ⟨gb610, 6, none⟩ = some (.int .i64 a1_6) := (blk_cell BK610.out 6).trans rfl; have hcz10_7 : w7.cell? ⟨gb610, 7, none⟩ = some (.bool a1_7) := (blk_cell BK610.out 7).trans rfl; have hfz10_0 := blk_frozen BK610.out 0; have hfz10_1 := blk_frozen BK610.out 1; have hfz10_2 := blk_frozen BK610.out 2; have hfz10_3 := blk_frozen BK610.out 3; have hfz10_4 := blk_frozen BK610.out 4; have hfz10_5 := blk_frozen BK610.out 5; have hfz10_6 := blk_frozen BK610.out 6; have hfz10_7 := blk_frozen BK610.out 7))
    go_ret
    exact ⟨er_q, bw_q HB⟩
   ·rw [if_neg c5] at H
    have c5b0 : (a0_2 == a1_2) = false := beq_eq_false_iff_ne.mpr c5
    have c5b1 : (a0_2 != a1_2) = true := bne_iff_ne.mpr c5
    obtain rfl := Option.some.inj H
    go_enter Try.func69, Try.ntmps69
    go_wp2_with (first | ((with_reducible refine gate_dst (N := 2) rfl ?_); refine box_q 2 #[.int .i64 a0_0, .int .i64 a0_1, .int .i64 a0_2, .int .i64 a0_3, .int .i64 a0_4, .slice A0_5 l0_5.length c0_5, .int .i64 a0_6, .bool a0_7] 61 ?_; intro gb609 hg w11 hbox hb; have BK609 := Aside0.mk (hbox); have GW609 := Aside0.mk ((by rw [hg]; exact (below_size (bw_q HB)) : w.heap.size ≤ gb609)); have GE609 := Aside0.mk ((by rw [hg]; exact (below_size (bw_q HB)) : w.heap.size ≤ gb609)); replace HB := Aside0.mk (below_step (bw_q HB) hb); clear hb hbox hg) | ((with_reducible refine gate_dst (N := 3) rfl ?_); refine box_q 3 #[.int .i64 a1_0, .int .i64 a1_1, .int .i64 a1_2, .int .i64 a1_3, .int .i64 a1_4, .slice A1_5 l1_5.length c1_5, .int .i64 a1_6, .bool a1_7] 61 ?_; intro gb610 hg w12 hbox hb; have BK610 := Aside0.mk (hbox); have GW610 := Aside0.mk ((by rw [hg]; exact (below_size (bw_q HB)) : w.heap.size ≤ gb610)); have GE610 := Aside0.mk ((by rw [hg]; exact (below_size (bw_q HB)) : w.heap.size ≤ gb610)); replace HB := Aside0.mk (below_step (bw_q HB) hb); have NB609_610 := Aside0.mk ((by rw [hg]; exact Nat.ne_of_lt (blk_lt (g := gb609) (o := .cells #[.int .i64 a0_0, .int .i64 a0_1, .int .i64 a0_2, .int .i64 a0_3, .int .i64 a0_4, .slice A0_5 l0_5.length c0_5, .int .i64 a0_6, .bool a0_7] 61 (0, 0)) (bk_q BK609)) : gb609 ≠ gb610)); have NB610_609 := Aside0.mk ((by rw [hg]; exact Nat.ne_of_gt (blk_lt (g := gb609) (o := .cells #[.int .i64 a0_0, .int .i64 a0_1, .int .i64 a0_2, .int .i64 a0_3, .int .i64 a0_4, .slice A0_5 l0_5.length c0_5, .int .i64 a0_6, .bool a0_7] 61 (0, 0)) (bk_q BK609)) : gb610 ≠ gb609)); replace BK609 := Aside0.mk (blk_below (g := gb609) (bk_q BK609) hb); clear hb hbox hg; have hnb13 := NB609_610.out; have hnc13 := NB610_609.out; have hcz14_0 : w12.cell? ⟨gb609, 0, none⟩ = some (.int .i64 a0_0) := (blk_cell BK609.out 0).trans rfl; have hcz14_1 : w12.cell? ⟨gb609, 1, none⟩ = some (.int .i64 a0_1) := (blk_cell BK609.out 1).trans rfl; have hcz14_2 : w12.cell? ⟨gb609, 2, none⟩ = some (.int .i64 a0_2) := (blk_cell BK609.out 2).trans rfl; have hcz14_3 : w12.cell? ⟨gb609, 3, none⟩ = some (.int .i64 a0_3) := (blk_cell BK609.out 3).trans rfl; have hcz14_4 : w12.cell? ⟨gb609, 4, none⟩ = some (.int .i64 a0_4) := (blk_cell BK609.out 4).trans rfl; have hcz14_5 : w12.cell? ⟨gb609, 5, none⟩ = some (.slice A0_5 l0_5.length c0_5) := (blk_cell BK609.out 5).trans rfl; have hcz14_6 : w12.cell? ⟨gb609, 6, none⟩ = some (.int .i64 a0_6) := (blk_cell BK609.out 6).trans rfl; have hcz14_7 : w12.cell? ⟨gb609, 7, none⟩ = some (.bool a0_7) := (blk_cell BK609.out 7).trans rfl; have hfz14_0 := blk_frozen BK609.out 0; have hfz14_1 := blk_frozen BK609.out 1; have hfz14_2 := blk_frozen BK609.out 2; have hfz14_3 := blk_frozen BK609.out 3; have hfz14_4 := blk_frozen BK609.out 4; have hfz14_5 := blk_frozen BK609.out 5; have hfz14_6 := blk_frozen BK609.out 6; have hfz14_7 := blk_frozen BK609.out 7; have hcz15_0 : w12.cell? ⟨gb610, 0, none⟩ = some (.int .i64 a1_0) := (blk_cell BK610.out 0).trans rfl; have hcz15_1 : w12.cell? ⟨gb610, 1, none⟩ = some (.int .i64 a1_1) := (blk_cell BK610.out 1).trans rfl; have hcz15_2 : w12.cell? ⟨gb610, 2, none⟩ = some (.int .i64 a1_2) := (blk_cell BK610.out 2).trans rfl; have hcz15_3 : w12.cell? ⟨gb610, 3, none⟩ = some (.int .i64 a1_3) := (blk_cell BK610.out 3).trans rfl; have hcz15_4 : w12.cell? ⟨gb610, 4, none⟩ = some (.int .i64 a1_4) := (blk_cell BK610.out 4).trans rfl; have hcz15_5 : w12.cell? ⟨gb610, 5, none⟩ = some (.slice A1_5 l1_5.length c1_5) := (blk_cell BK610.out 5).trans rfl; have hcz15_6 : w12.cell? ⟨gb610, 6, none⟩ = some (.int .i64 a1_6) := (blk_cell BK610.out 6).trans rfl; have hcz15_7 : w12.cell? ⟨gb610, 7, none⟩ = some (.bool a1_7) := (blk_cell BK610.out 7).trans rfl; have hfz15_0 := blk_frozen BK610.out 0; have hfz15_1 := blk_frozen BK610.out 1; have hfz15_2 := blk_frozen BK610.out 2; have hfz15_3 := blk_frozen BK610.out 3; have hfz15_4 := blk_frozen BK610.out 4; have hfz15_5 := blk_frozen BK610.out 5; have hfz15_6 := blk_frozen BK610.out 6; have hfz15_7 := blk_frozen BK610.out 7))
    go_ret
    exact ⟨er_q, bw_q HB⟩
  ·rw [if_neg c4] at H
   have c4b0 : (a0_1 == a1_1) = false := beq_eq_false_iff_ne.mpr c4
   have c4b1 : (a0_1 != a1_1) = true := bne_iff_ne.mpr c4
   obtain rfl := Option.some.inj H
   go_enter Try.func69, Try.ntmps69
   go_wp2_with (first | ((with_reducible refine gate_dst (N := 2) rfl ?_); refine box_q 2 #[.int .i64 a0_0, .int .i64 a0_1, .int .i64 a0_2, .int .i64 a0_3, .int .i64 a0_4, .slice A0_5 l0_5.length c0_5, .int .i64 a0_6, .bool a0_7] 61 ?_; intro gb609 hg w16 hbox hb; have BK609 := Aside0.mk (hbox); have GW609 := Aside0.mk ((by rw [hg]; exact (below_size (bw_q HB)) : w.heap.size ≤ gb609)); have GE609 := Aside0.mk ((by rw [hg]; exact (below_size (bw_q HB)) : w.heap.size ≤ gb609)); replace HB := Aside0.mk (below_step (bw_q HB) hb); clear hb hbox hg) | ((with_reducible refine gate_dst (N := 3) rfl ?_); refine box_q 3 #[.int .i64 a1_0, .int .i64 a1_1, .int .i64 a1_2, .int .i64 a1_3, .int .i64 a1_4, .slice A1_5 l1_5.length c1_5, .int .i64 a1_6, .bool a1_7] 61 ?_; intro gb610 hg w17 hbox hb; have BK610 := Aside0.mk (hbox); have GW610 := Aside0.mk ((by rw [hg]; exact (below_size (bw_q HB)) : w.heap.size ≤ gb610)); have GE610 := Aside0.mk ((by rw [hg]; exact (below_size (bw_q HB)) : w.heap.size ≤ gb610)); replace HB := Aside0.mk (below_step (bw_q HB) hb); have NB609_610 := Aside0.mk ((by rw [hg]; exact Nat.ne_of_lt (blk_lt (g := gb609) (o := .cells #[.int .i64 a0_0, .int .i64 a0_1, .int .i64 a0_2, .int .i64 a0_3, .int .i64 a0_4, .slice A0_5 l0_5.length c0_5, .int .i64 a0_6, .bool a0_7] 61 (0, 0)) (bk_q BK609)) : gb609 ≠ gb610)); have NB610_609 := Aside0.mk ((by rw [hg]; exact Nat.ne_of_gt (blk_lt (g := gb609) (o := .cells #[.int .i64 a0_0, .int .i64 a0_1, .int .i64 a0_2, .int .i64 a0_3, .int .i64 a0_4, .slice A0_5 l0_5.length c0_5, .int .i64 a0_6, .bool a0_7] 61 (0, 0)) (bk_q BK609)) : gb610 ≠ gb609)); replace BK609 := Aside0.mk (blk_below (g := gb609) (bk_q BK609) hb); clear hb hbox hg; have hnb18 := NB609_610.out; have hnc18 := NB610_609.out; have hcz19_0 : w17.cell? ⟨gb609, 0, none⟩ = some (.int .i64 a0_0) := (blk_cell BK609.out 0).trans rfl; have hcz19_1 : w17.cell? ⟨gb609, 1, none⟩ = some (.int .i64 a0_1) := (blk_cell BK609.out 1).trans rfl; have hcz19_2 : w17.cell? ⟨gb609, 2, none⟩ = some (.int .i64 a0_2) := (blk_cell BK609.out 2).trans rfl; have hcz19_3 : w17.cell? ⟨gb609, 3, none⟩ = some (.int .i64 a0_3) := (blk_cell BK609.out 3).trans rfl; have hcz19_4 : w17.cell? ⟨gb609, 4, none⟩ = some (.int .i64 a0_4) := (blk_cell BK609.out 4).trans rfl; have hcz19_5 : w17.cell? ⟨gb609, 5, none⟩ = some (.slice A0_5 l0_5.length c0_5) := (blk_cell BK609.out 5).trans rfl; have hcz19_6 : w17.cell? ⟨gb609, 6, none⟩ = some (.int .i64 a0_6) := (blk_cell BK609.out 6).trans rfl; have hcz19_7 : w17.cell? ⟨gb609, 7, none⟩ = some (.bool a0_7) := (blk_cell BK609.out 7).trans rfl; have hfz19_0 := blk_frozen BK609.out 0; have hfz19_1 := blk_frozen BK609.out 1; have hfz19_2 := blk_frozen BK609.out 2; have hfz19_3 := blk_frozen BK609.out 3; have hfz19_4 := blk_frozen BK609.out 4; have hfz19_5 := blk_frozen BK609.out 5; have hfz19_6 := blk_frozen BK609.out 6; have hfz19_7 := blk_frozen BK609.out 7; have hcz20_0 : w17.cell? ⟨gb610, 0, none⟩ = some (.int .i64 a1_0) := (blk_cell BK610.out 0).trans rfl; have hcz20_1 : w17.cell? ⟨gb610, 1, none⟩ = some (.int .i64 a1_1) := (blk_cell BK610.out 1).trans rfl; have hcz20_2 : w17.cell? ⟨gb610, 2, none⟩ = some (.int .i64 a1_2) := (blk_cell BK610.out 2).trans rfl; have hcz20_3 : w17.cell? ⟨gb610, 3, none⟩ = some (.int .i64 a1_3) := (blk_cell BK610.out 3).trans rfl; have hcz20_4 : w17.cell? ⟨gb610, 4, none⟩ = some (.int .i64 a1_4) := (blk_cell BK610.out 4).trans rfl; have hcz20_5 : w17.cell? ⟨gb610, 5, none⟩ = some (.slice A1_5 l1_5.length c1_5) := (blk_cell BK610.out 5).trans rfl; have hcz20_6 : w17.cell? ⟨gb610, 6, none⟩ = some (.int .i64 a1_6) := (blk_cell BK610.out 6).trans rfl; have hcz20_7 : w17.cell? ⟨gb610, 7, none⟩ = some (.bool a1_7) := (blk_cell BK610.out 7).trans rfl; have hfz20_0 := blk_frozen BK610.out 0; have hfz20_1 := blk_frozen BK610.out 1; have hfz20_2 := blk_frozen BK610.out 2; have hfz20_3 := blk_frozen BK610.out 3; have hfz20_4 := blk_frozen BK610.out 4; have hfz20_5 := blk_frozen BK610.out 5; have hfz20_6 := blk_frozen BK610.out 6; have hfz20_7 := blk_frozen BK610.out 7))
   go_ret
   exact ⟨er_q, bw_q HB⟩
 ·rw [if_neg c3] at H
  have c3b0 : (a0_0 == a1_0) = false := beq_eq_false_iff_ne.mpr c3
  have c3b1 : (a0_0 != a1_0) = true := bne_iff_ne.mpr c3
  obtain rfl := Option.some.inj H
  go_enter Try.func69, Try.ntmps69
  go_wp2_with (first | ((with_reducible refine gate_dst (N := 2) rfl ?_); refine box_q 2 #[.int .i64 a0_0, .int .i64 a0_1, .int .i64 a0_2, .int .i64 a0_3, .int .i64 a0_4, .slice A0_5 l0_5.length c0_5, .int .i64 a0_6, .bool a0_7] 61 ?_; intro gb609 hg w21 hbox hb; have BK609 := Aside0.mk (hbox); have GW609 := Aside0.mk ((by rw [hg]; exact (below_size (bw_q HB)) : w.heap.size ≤ gb609)); have GE609 := Aside0.mk ((by rw [hg]; exact (below_size (bw_q HB)) : w.heap.size ≤ gb609)); replace HB := Aside0.mk (below_step (bw_q HB) hb); clear hb hbox hg) | ((with_reducible refine gate_dst (N := 3) rfl ?_); refine box_q 3 #[.int .i64 a1_0, .int .i64 a1_1, .int .i64 a1_2, .int .i64 a1_3, .int .i64 a1_4, .slice A1_5 l1_5.length c1_5, .int .i64 a1_6, .bool a1_7] 61 ?_; intro gb610 hg w22 hbox hb; have BK610 := Aside0.mk (hbox); have GW610 := Aside0.mk ((by rw [hg]; exact (below_size (bw_q HB)) : w.heap.size ≤ gb610)); have GE610 := Aside0.mk ((by rw [hg]; exact (below_size (bw_q HB)) : w.heap.size ≤ gb610)); replace HB := Aside0.mk (below_step (bw_q HB) hb); have NB609_610 := Aside0.mk ((by rw [hg]; exact Nat.ne_of_lt (blk_lt (g := gb609) (o := .cells #[.int .i64 a0_0, .int .i64 a0_1, .int .i64 a0_2, .int .i64 a0_3, .int .i64 a0_4, .slice A0_5 l0_5.length c0_5, .int .i64 a0_6, .bool a0_7] 61 (0, 0)) (bk_q BK609)) : gb609 ≠ gb610)); have NB610_609 := Aside0.mk ((by rw [hg]; exact Nat.ne_of_gt (blk_lt (g := gb609) (o := .cells #[.int .i64 a0_0, .int .i64 a0_1, .int .i64 a0_2, .int .i64 a0_3, .int .i64 a0_4, .slice A0_5 l0_5.length c0_5, .int .i64 a0_6, .bool a0_7] 61 (0, 0)) (bk_q BK609)) : gb610 ≠ gb609)); replace BK609 := Aside0.mk (blk_below (g := gb609) (bk_q BK609) hb); clear hb hbox hg; have hnb23 := NB609_610.out; have hnc23 := NB610_609.out; have hcz24_0 : w22.cell? ⟨gb609, 0, none⟩ = some (.int .i64 a0_0) := (blk_cell BK609.out 0).trans rfl; have hcz24_1 : w22.cell? ⟨gb609, 1, none⟩ = some (.int .i64 a0_1) := (blk_cell BK609.out 1).trans rfl; have hcz24_2 : w22.cell? ⟨gb609, 2, none⟩ = some (.int .i64 a0_2) := (blk_cell BK609.out 2).trans rfl; have hcz24_3 : w22.cell? ⟨gb609, 3, none⟩ = some (.int .i64 a0_3) := (blk_cell BK609.out 3).trans rfl; have hcz24_4 : w22.cell? ⟨gb609, 4, none⟩ = some (.int .i64 a0_4) := (blk_cell BK609.out 4).trans rfl; have hcz24_5 : w22.cell? ⟨gb609, 5, none⟩ = some (.slice A0_5 l0_5.length c0_5) := (blk_cell BK609.out 5).trans rfl; have hcz24_6 : w22.cell? ⟨gb609, 6, none⟩ = some (.int .i64 a0_6) := (blk_cell BK609.out 6).trans rfl; have hcz24_7 : w22.cell? ⟨gb609, 7, none⟩ = some (.bool a0_7) := (blk_cell BK609.out 7).trans rfl; have hfz24_0 := blk_frozen BK609.out 0; have hfz24_1 := blk_frozen BK609.out 1; have hfz24_2 := blk_frozen BK609.out 2; have hfz24_3 := blk_frozen BK609.out 3; have hfz24_4 := blk_frozen BK609.out 4; have hfz24_5 := blk_frozen BK609.out 5; have hfz24_6 := blk_frozen BK609.out 6; have hfz24_7 := blk_frozen BK609.out 7; have hcz25_0 : w22.cell? ⟨gb610, 0, none⟩ = some (.int .i64 a1_0) := (blk_cell BK610.out 0).trans rfl; have hcz25_1 : w22.cell? ⟨gb610, 1, none⟩ = some (.int .i64 a1_1) := (blk_cell BK610.out 1).trans rfl; have hcz25_2 : w22.cell? ⟨gb610, 2, none⟩ = some (.int .i64 a1_2) := (blk_cell BK610.out 2).trans rfl; have hcz25_3 : w22.cell? ⟨gb610, 3, none⟩ = some (.int .i64 a1_3) := (blk_cell BK610.out 3).trans rfl; have hcz25_4 : w22.cell? ⟨gb610, 4, none⟩ = some (.int .i64 a1_4) := (blk_cell BK610.out 4).trans rfl; have hcz25_5 : w22.cell? ⟨gb610, 5, none⟩ = some (.slice A1_5 l1_5.length c1_5) := (blk_cell BK610.out 5).trans rfl; have hcz25_6 : w22.cell? ⟨gb610, 6, none⟩ = some (.int .i64 a1_6) := (blk_cell BK610.out 6).trans rfl; have hcz25_7 : w22.cell? ⟨gb610, 7, none⟩ = some (.bool a1_7) := (blk_cell BK610.out 7).trans rfl; have hfz25_0 := blk_frozen BK610.out 0; have hfz25_1 := blk_frozen BK610.out 1; have hfz25_2 := blk_frozen BK610.out 2; have hfz25_3 := blk_frozen BK610.out 3; have hfz25_4 := blk_frozen BK610.out 4; have hfz25_5 := blk_frozen BK610.out 5; have hfz25_6 := blk_frozen BK610.out 6; have hfz25_7 := blk_frozen BK610.out 7))
  go_ret
  exact ⟨er_q, bw_q HB⟩

end Go.Proofs.Ythjmdiggglkeaaa.Q

/- A Go function as a Lean function, and its contract: for every input the Go code comes to what the Lean function tells. -/


namespace Go.Proofs.Ythjmdiggglkeaaa.Q
open Go.RowKit Go.Proofs.YthjmdiggglkeaaaW.PrintWords Go.Proofs.YthjmdiggglkeaaaW.PrintLast Go.Proofs.YthjmdiggglkeaaaW.PrintMore
attribute [local go_sem] max2_int min2_int max_two min_two max_three min_three max_four min_four   -- for this text's walks alone
set_option linter.unusedVariables false
set_option linter.unusedSimpArgs false

/-! ### impl_keyAt: function 107 -/
def impl_keyAt.l0 : Nat → List (S61) → Int → Int → Int → Int → Int → Int → Int → List (S127) → Int → Bool → Option (Int)
 | 0, _, _, _, _, _, _, _, _, _, _, _ => none
 | k + 1, x7, x8, x9, x612000, x612001, x612002, x612003, x612004, x612005, x612006, x612007 => if x9 < x8 then (if 0 ≤ x9 then (if x9 < (x7.length : Int) then ((impl_SameKey.f ((rd_T61 x7 x9).f0) ((rd_T61 x7 x9).f1) ((rd_T61 x7 x9).f2) ((rd_T61 x7 x9).f3) ((rd_T61 x7 x9).f4) ((rd_T61 x7 x9).f5) ((rd_T61 x7 x9).f6) ((rd_T61 x7 x9).f7) x612000 x612001 x612002 x612003 x612004 x612005 x612006 x612007).bind fun t614 => (if t614 = true then (some x9) else (impl_keyAt.l0 k x7 x8 (wrap64 (x9 + 1)) x612000 x612001 x612002 x612003 x612004 x612005 x612006 x612007))) else (none)) else (none)) else (some (-1))
def impl_keyAt.f (k : Nat) (l0 : List (S61)) (a1_0 : Int) (a1_1 : Int) (a1_2 : Int) (a1_3 : Int) (a1_4 : Int) (l1_5 : List (S127)) (a1_6 : Int) (a1_7 : Bool) : Option (Int) := impl_keyAt.l0 k l0 (l0.length : Int) 0 a1_0 a1_1 a1_2 a1_3 a1_4 l1_5 a1_6 a1_7
theorem impl_keyAt.mono_l : ∀ k, (∀ y0 y1 y2 y3 y4 y5 y6 y7 y8 y9 y10, LeO (impl_keyAt.l0 k y0 y1 y2 y3 y4 y5 y6 y7 y8 y9 y10) (impl_keyAt.l0 (k + 1) y0 y1 y2 y3 y4 y5 y6 y7 y8 y9 y10))
 | 0 => fun _ _ _ _ _ _ _ _ _ _ _ r h => by simp [impl_keyAt.l0] at h
 | k + 1 => by
  have ih0 := impl_keyAt.mono_l k
  ·intro y0 y1 y2 y3 y4 y5 y6 y7 y8 y9 y10
   unfold impl_keyAt.l0
   repeat' first
   | (with_reducible exact ih0 _ _ _ _ _ _ _ _ _ _ _)
   | (with_reducible exact LeO.refl _)
   | (with_reducible exact LeO.none _)
   | (with_reducible refine LeO.ite ?_ ?_)
   | (with_reducible refine LeO.bind ?_ (fun _ => ?_))
   | exact ih0 _ _ _ _ _ _ _ _ _ _ _
   | exact LeO.none _
   | refine LeO.ite ?_ ?_
   | refine LeO.bind ?_ (fun _ => ?_)
theorem impl_keyAt.mono : ∀ a0 a1 a2 a3 a4 a5 a6 a7 a8 k, LeO (impl_keyAt.f k a0 a1 a2 a3 a4 a5 a6 a7 a8) (impl_keyAt.f (k + 1) a0 a1 a2 a3 a4 a5 a6 a7 a8) := by
 intro a0 a1 a2 a3 a4 a5 a6 a7 a8 k
 have ih0 := impl_keyAt.mono_l k
 unfold impl_keyAt.f
 repeat' first
   | (with_reducible exact ih0 _ _ _ _ _ _ _ _ _ _ _)
   | (with_reducible exact LeO.refl _)
   | (with_reducible exact LeO.none _)
   | (with_reducible refine LeO.ite ?_ ?_)
   | (with_reducible refine LeO.bind ?_ (fun _ => ?_))
   | exact ih0 _ _ _ _ _ _ _ _ _ _ _
   | exact LeO.none _
   | refine LeO.ite ?_ ?_
   | refine LeO.bind ?_ (fun _ => ?_)
set_option maxHeartbeats 8000000 in
set_option maxRecDepth 100000 in
theorem impl_keyAt.calls (k : Nat) (A0 : Option Addr) (c0 : Nat) (l0 : List (S61)) (a1_0 : Int) (a1_1 : Int) (a1_2 : Int) (a1_3 : Int) (a1_4 : Int) (A1_5 : Option Addr) (c1_5 : Nat) (l1_5 : List (S127)) (a1_6 : Int) (a1_7 : Bool) (r : Int) (w : World) (hr0 : Kd.C k61 w A0 l0.length l0) (hc0 : l0.length ≤ c0) (hr1_5 : Kd.C k127 w A1_5 l1_5.length l1_5) (hc1_5 : l1_5.length ≤ c1_5) (h : impl_keyAt.f k l0 a1_0 a1_1 a1_2 a1_3 a1_4 l1_5 a1_6 a1_7 = some r) :
  Calls Try.prog 107 #[.slice A0 l0.length c0, .agg #[.int .i64 a1_0, .int .i64 a1_1, .int .i64 a1_2, .int .i64 a1_3, .int .i64 a1_4, .slice A1_5 l1_5.length c1_5, .int .i64 a1_6, .bool a1_7]] w fun e w' => e = .returned (.int .i64 r) ∧ Below w.heap.size w w' := by
 have hu61 := Try.underlying61
 have HR0 := Aside0.mk hr0
 have HC0 := Aside0.mk hc0
 clear hr0 hc0
 have HR1_5 := Aside0.mk hr1_5
 have HC1_5 := Aside0.mk hc1_5
 clear hr1_5 hc1_5
 have HB := Aside0.mk (Below.refl w.heap.size w)
 have H : (impl_keyAt.l0 k l0 (l0.length : Int) 0 a1_0 a1_1 a1_2 a1_3 a1_4 l1_5 a1_6 a1_7) = some r := h
 clear h
 have H' := Aside0.mk H
 clear H
 go_enter Try.func107, Try.ntmps107
 go_wp2_with (first | ((with_reducible refine gate_dst (N := 3) rfl ?_); refine box_q 3 #[.int .i64 a1_0, .int .i64 a1_1, .int .i64 a1_2, .int .i64 a1_3, .int .i64 a1_4, .slice A1_5 l1_5.length c1_5, .int .i64 a1_6, .bool a1_7] 61 ?_; intro gb611 hg w3 hbox hb; have BK611 := Aside0.mk (hbox); have GW611 := Aside0.mk ((by rw [hg]; exact (below_size (bw_q HB)) : w.heap.size ≤ gb611)); have GE611 := Aside0.mk ((by rw [hg]; exact (below_size (bw_q HB)) : w.heap.size ≤ gb611)); replace HB := Aside0.mk (below_step (bw_q HB) hb); clear hb hbox hg))
 go_loopg [9] k (fun kq v9 w' => ∃ (x9_1 : Int), v9 = .int .i64 x9_1 ∧ Aside0 (impl_keyAt.l0 kq l0 (l0.length : Int) x9_1 a1_0 a1_1 a1_2 a1_3 a1_4 l1_5 a1_6 a1_7 = some r) ∧ Aside0 (kq ≤ k) ∧ Aside0 (w'.heap[gb611]? = some (.cells #[.int .i64 a1_0, .int .i64 a1_1, .int .i64 a1_2, .int .i64 a1_3, .int .i64 a1_4, (.slice A1_5 l1_5.length c1_5), .int .i64 a1_6, .bool a1_7] 61 (0, 0))) ∧ Aside0 (Below w.heap.size w w'))
 case atStart => exact ⟨(0), (by first | rfl | (simp; done) | (simp [*]; done)), H', ⟨Nat.le_refl _⟩, ⟨by refine bz_ ?_; exact BK611.out⟩, ⟨bw_q HB⟩⟩
 case round =>
  clear H'
  try clear c1
  try clear p2
  obtain ⟨x9_1, rfl, HA, HK1, BK611, HB⟩ := hrel
  cases gk with
  | zero => exact absurd HA.out (by simp [impl_keyAt.l0])
  | succ k1 =>
   have H := HA.out
   clear HA
   simp only [impl_keyAt.l0] at H
   by_cases c4 : x9_1 < (l0.length : Int)
   ·rw [if_pos c4] at H
    have c4b0 : decide (x9_1 < (l0.length : Int)) = true := decide_eq_true c4
    clear c4
    by_cases c5 : 0 ≤ x9_1
    ·rw [if_pos c5] at H
     have c5b0 : decide (0 ≤ x9_1) = true := decide_eq_true c5
     clear c5
     by_cases c6 : x9_1 < (l0.length : Int)
     ·rw [if_pos c6] at H
      have c6b0 : decide (x9_1 < (l0.length : Int)) = true := decide_eq_true c6
      clear c6
      replace H := Option.bind_eq_some_iff.mp H
      obtain ⟨t614, A70, H⟩ := H
      replace H : (if t614 = true then (some x9_1) else (impl_keyAt.l0 k1 l0 (l0.length : Int) (wrap64 (x9_1 + 1)) a1_0 a1_1 a1_2 a1_3 a1_4 l1_5 a1_6 a1_7)) = some r := H
      have A7 := Aside0.mk A70
      clear A70
      have HC8 := Aside0.mk H
      clear H
      have p612 : 0 ≤ (x9_1 : Int) := of_decide_eq_true as_q
      have q612 : x9_1 < (l0.length : Int) := of_decide_eq_true as_q
      obtain ⟨ad612, A612_5, c612_5, e612, hx612_0, hx612_1, hx612_2, hx612_3, hx612_4, hx612_5, hx612_6, hx612_7, hl612_5, hi612_5⟩ := at_T61 HR0.out x9_1 p612 q612
      cases e612
      replace hx612_0 := (HB.out.cell (World.block_lt_of_cell? w _ hx612_0)).trans hx612_0
      replace hx612_1 := (HB.out.cell (World.block_lt_of_cell? w _ hx612_1)).trans hx612_1
      replace hx612_2 := (HB.out.cell (World.block_lt_of_cell? w _ hx612_2)).trans hx612_2
      replace hx612_3 := (HB.out.cell (World.block_lt_of_cell? w _ hx612_3)).trans hx612_3
      replace hx612_4 := (HB.out.cell (World.block_lt_of_cell? w _ hx612_4)).trans hx612_4
      replace hx612_5 := (HB.out.cell (World.block_lt_of_cell? w _ hx612_5)).trans hx612_5
      replace hx612_6 := (HB.out.cell (World.block_lt_of_cell? w _ hx612_6)).trans hx612_6
      replace hx612_7 := (HB.out.cell (World.block_lt_of_cell? w _ hx612_7)).trans hx612_7
      have HR612_5 := Aside0.mk hi612_5
      have HC612_5 := Aside0.mk hl612_5
      clear hi612_5 hl612_5
      replace p612 := eq_true p612
      replace q612 := eq_true q612
      go_upto_if 16 with (first | ((with_reducible refine gate_dst (N := 6) rfl ?_); refine box_q 6 #[.int .i64 0, .int .i64 0, .int .i64 0, .int .i64 0, .int .i64 0, .slice none 0 0, .int .i64 0, .bool false] 61 ?_; intro gb613 hg w9 hbox hb; have BK613 := Aside0.mk (hbox); have GW613 := Aside0.mk ((by rw [hg]; exact (below_size (bw_q HB)) : w.heap.size ≤ gb613)); have GE613 := Aside0.mk ((by rw [hg]; exact (below_size (bw_q HB)) : w.heap.size ≤ gb613)); replace HB := Aside0.mk (below_step (bw_q HB) hb); have NB611_613 := Aside0.mk ((by rw [hg]; exact Nat.ne_of_lt (blk_lt (g := gb611) (o := .cells #[.int .i64 a1_0, .int .i64 a1_1, .int .i64 a1_2, .int .i64 a1_3, .int .i64 a1_4, .slice A1_5 l1_5.length c1_5, .int .i64 a1_6, .bool a1_7] 61 (0, 0)) (bk_q BK611)) : gb611 ≠ gb613)); have NB613_611 := Aside0.mk ((by rw [hg]; exact Nat.ne_of_gt (blk_lt (g := gb611) (o := .cells #[.int .i64 a1_0, .int .i64 a1_1, .int .i64 a1_2, .int .i64 a1_3, .int .i64 a1_4, .slice A1_5 l1_5.length c1_5, .int .i64 a1_6, .bool a1_7] 61 (0, 0)) (bk_q BK611)) : gb613 ≠ gb611)); replace BK611 := Aside0.mk (blk_below (g := gb611) (bk_q BK611) hb); clear hb hbox hg; have hnb10 := NB613_611.out; have hnc10 := NB611_613.out; have hcz11_0 : w9.cell? ⟨gb613, 0, none⟩ = some (.int .i64 0) := (blk_cell BK613.out 0).trans rfl; have hcz11_1 : w9.cell? ⟨gb613, 1, none⟩ = some (.int .i64 0) := (blk_cell BK613.out 1).trans rfl; have hcz11_2 : w9.cell? ⟨gb613, 2, none⟩ = some (.int .i64 0) := (blk_cell BK613.out 2).trans rfl; have hcz11_3 : w9.cell? ⟨gb613, 3, none⟩ = some (.int .i64 0) := (blk_cell BK613.out 3).trans rfl; have hcz11_4 : w9.cell? ⟨gb613, 4, none⟩ = some (.int .i64 0) := (blk_cell BK613.out 4).trans rfl; have hcz11_5 : w9.cell? ⟨gb613, 5, none⟩ = some (.slice none 0 0) := (blk_cell BK613.out 5).trans rfl; have hcz11_6 : w9.cell? ⟨gb613, 6, none⟩ = some (.int .i64 0) := (blk_cell BK613.out 6).trans rfl; have hcz11_7 : w9.cell? ⟨gb613, 7, none⟩ = some (.bool false) := (blk_cell BK613.out 7).trans rfl; have hfz11_0 := blk_frozen BK613.out 0; have hfz11_1 := blk_frozen BK613.out 1; have hfz11_2 := blk_frozen BK613.out 2; have hfz11_3 := blk_frozen BK613.out 3; have hfz11_4 := blk_frozen BK613.out 4; have hfz11_5 := blk_frozen BK613.out 5; have hfz11_6 := blk_frozen BK613.out 6; have hfz11_7 := blk_frozen BK613.out 7; have hcz12_0 : w9.cell? ⟨gb611, 0, none⟩ = some (.int .i64 a1_0) := (blk_cell BK611.out 0).trans rfl; have hcz12_1 : w9.cell? ⟨gb611, 1, none⟩ = some (.int .i64 a1_1) := (blk_cell BK611.out 1).trans rfl; have hcz12_2 : w9.cell? ⟨gb611, 2, none⟩ = some (.int .i64 a1_2) := (blk_cell BK611.out 2).trans rfl; have hcz12_3 : w9.cell? ⟨gb611, 3, none⟩ = some (.int .i64 a1_3) := (blk_cell BK611.out 3).trans rfl; have hcz12_4 : w9.cell? ⟨gb611, 4, none⟩ = some (.int .i64 a1_4) := (blk_cell BK611.out 4).trans rfl; have hcz12_5 : w9.cell? ⟨gb611, 5, none⟩ = some (.slice A1_5 l1_5.length c1_5) := (blk_cell BK611.out 5).trans rfl; have hcz12_6 : w9.cell? ⟨gb611, 6, none⟩ = some (.int .i64 a1_6) := (blk_cell BK611.out 6).trans rfl; have hcz12_7 : w9.cell? ⟨gb611, 7, none⟩ = some (.bool a1_7) := (blk_cell BK611.out 7).trans rfl; have hfz12_0 := blk_frozen BK611.out 0; have hfz12_1 := blk_frozen BK611.out 1; have hfz12_2 := blk_frozen BK611.out 2; have hfz12_3 := blk_frozen BK611.out 3; have hfz12_4 := blk_frozen BK611.out 4; have hfz12_5 := blk_frozen BK611.out 5; have hfz12_6 := blk_frozen BK611.out 6; have hfz12_7 := blk_frozen BK611.out 7) | ((with_reducible refine gate_callee (f := 69) rfl ?_); refine goesL_ (some 16) rfl rfl Try.func69 (by kernel_rfl) rfl #[.agg #[.int .i64 ((rd_T61 l0 x9_1).f0), .int .i64 ((rd_T61 l0 x9_1).f1), .int .i64 ((rd_T61 l0 x9_1).f2), .int .i64 ((rd_T61 l0 x9_1).f3), .int .i64 ((rd_T61 l0 x9_1).f4), .slice A612_5 ((rd_T61 l0 x9_1).f5).length c612_5, .int .i64 ((rd_T61 l0 x9_1).f6), .bool ((rd_T61 l0 x9_1).f7)], .agg #[.int .i64 a1_0, .int .i64 a1_1, .int .i64 a1_2, .int .i64 a1_3, .int .i64 a1_4, .slice A1_5 l1_5.length c1_5, .int .i64 a1_6, .bool a1_7]] rfl mp_q ?_; (with_reducible refine (impl_SameKey.calls ((rd_T61 l0 x9_1).f0) ((rd_T61 l0 x9_1).f1) ((rd_T61 l0 x9_1).f2) ((rd_T61 l0 x9_1).f3) ((rd_T61 l0 x9_1).f4) _ _ ((rd_T61 l0 x9_1).f5) ((rd_T61 l0 x9_1).f6) ((rd_T61 l0 x9_1).f7) a1_0 a1_1 a1_2 a1_3 a1_4 _ _ l1_5 a1_6 a1_7 t614 _ ?side1 ?side2 ?side3 ?side4 A7.out).mono ?_); (case side1 => exact Kd.C_below HR612_5.out (bw_q HB)); (case side2 => exact HC612_5.out); (case side3 => exact Kd.C_below HR1_5.out (bw_q HB)); (case side4 => exact HC1_5.out); rintro e w13 ⟨rfl, hb⟩; refine ⟨_, rfl, ?_⟩; replace BK611 := Aside0.mk (blk_below (g := gb611) (o := .cells #[.int .i64 a1_0, .int .i64 a1_1, .int .i64 a1_2, .int .i64 a1_3, .int .i64 a1_4, .slice A1_5 l1_5.length c1_5, .int .i64 a1_6, .bool a1_7] 61 (0, 0)) (by refine bz_ ?_; refine blk_far ?_ NB611_613.out _; refine bz_ ?_; refine blk_far ?_ NB611_613.out _; refine bz_ ?_; refine blk_far ?_ NB611_613.out _; refine bz_ ?_; refine blk_far ?_ NB611_613.out _; refine bz_ ?_; refine blk_far ?_ NB611_613.out _; refine bz_ ?_; refine blk_far ?_ NB611_613.out _; refine bz_ ?_; refine blk_far ?_ NB611_613.out _; refine bz_ ?_; refine blk_far ?_ NB611_613.out _; refine bz_ ?_; exact BK611.out) hb); replace BK613 := Aside0.mk (blk_below (g := gb613) (o := .cells #[.int .i64 ((rd_T61 l0 x9_1).f0), .int .i64 ((rd_T61 l0 x9_1).f1), .int .i64 ((rd_T61 l0 x9_1).f2), .int .i64 ((rd_T61 l0 x9_1).f3), .int .i64 ((rd_T61 l0 x9_1).f4), .slice A612_5 ((rd_T61 l0 x9_1).f5).length c612_5, .int .i64 ((rd_T61 l0 x9_1).f6), .bool ((rd_T61 l0 x9_1).f7)] 61 (0, 0)) (by refine bz_ ?_; refine blk_put (cs := #[.int .i64 ((rd_T61 l0 x9_1).f0), .int .i64 ((rd_T61 l0 x9_1).f1), .int .i64 ((rd_T61 l0 x9_1).f2), .int .i64 ((rd_T61 l0 x9_1).f3), .int .i64 ((rd_T61 l0 x9_1).f4), .slice A612_5 ((rd_T61 l0 x9_1).f5).length c612_5, .int .i64 ((rd_T61 l0 x9_1).f6), .bool false]) ?_ 7 _ rfl; refine bz_ ?_; refine blk_put (cs := #[.int .i64 ((rd_T61 l0 x9_1).f0), .int .i64 ((rd_T61 l0 x9_1).f1), .int .i64 ((rd_T61 l0 x9_1).f2), .int .i64 ((rd_T61 l0 x9_1).f3), .int .i64 ((rd_T61 l0 x9_1).f4), .slice A612_5 ((rd_T61 l0 x9_1).f5).length c612_5, .int .i64 0, .bool false]) ?_ 6 _ rfl; refine bz_ ?_; refine blk_put (cs := #[.int .i64 ((rd_T61 l0 x9_1).f0), .int .i64 ((rd_T61 l0 x9_1).f1), .int .i64 ((rd_T61 l0 x9_1).f2), .int .i64 ((rd_T61 l0 x9_1).f3), .int .i64 ((rd_T61 l0 x9_1).f4), .slice none 0 0, .int .i64 0, .bool false]) ?_ 5 _ rfl; refine bz_ ?_; refine blk_put (cs := #[.int .i64 ((rd_T61 l0 x9_1).f0), .int .i64 ((rd_T61 l0 x9_1).f1), .int .i64 ((rd_T61 l0 x9_1).f2), .int .i64 ((rd_T61 l0 x9_1).f3), .int .i64 0, .slice none 0 0, .int .i64 0, .bool false]) ?_ 4 _ rfl; refine bz_ ?_; refine blk_put (cs := #[.int .i64 ((rd_T61 l0 x9_1).f0), .int .i64 ((rd_T61 l0 x9_1).f1), .int .i64 ((rd_T61 l0 x9_1).f2), .int .i64 0, .int .i64 0, .slice none 0 0, .int .i64 0, .bool false]) ?_ 3 _ rfl; refine bz_ ?_; refine blk_put (cs := #[.int .i64 ((rd_T61 l0 x9_1).f0), .int .i64 ((rd_T61 l0 x9_1).f1), .int .i64 0, .int .i64 0, .int .i64 0, .slice none 0 0, .int .i64 0, .bool false]) ?_ 2 _ rfl; refine bz_ ?_; refine blk_put (cs := #[.int .i64 ((rd_T61 l0 x9_1).f0), .int .i64 0, .int .i64 0, .int .i64 0, .int .i64 0, .slice none 0 0, .int .i64 0, .bool false]) ?_ 1 _ rfl; refine bz_ ?_; refine blk_put (cs := #[.int .i64 0, .int .i64 0, .int .i64 0, .int .i64 0, .int .i64 0, .slice none 0 0, .int .i64 0, .bool false]) ?_ 0 _ rfl; refine bz_ ?_; exact BK613.out) hb); replace HB := Aside0.mk (below_step (bw_q HB) hb); (try clear hb); (try clear hb2); (try clear hk); (try clear hi)))
      (try clear hx612_0); (try clear hx612_1); (try clear hx612_2); (try clear hx612_3); (try clear hx612_4); (try clear hx612_5); (try clear hx612_6); (try clear hx612_7)
      have H := HC8.out
      clear HC8
      by_cases c14 : t614 = true
      ·subst c14
       have H1 : (some x9_1) = some r := by rw [if_pos rfl] at H; exact H
       clear H
       have H := H1
       clear H1
       obtain rfl := Option.some.inj H
       go_wp2
       go_ret
       exact ⟨er_q, bw_q HB⟩
      ·replace c14 := Bool.eq_false_iff.mpr c14
       subst c14
       have H1 : (impl_keyAt.l0 k1 l0 (l0.length : Int) (wrap64 (x9_1 + 1)) a1_0 a1_1 a1_2 a1_3 a1_4 l1_5 a1_6 a1_7) = some r := by rw [if_neg (show ¬ (false = true) by decide)] at H; exact H
       clear H
       have H := H1
       clear H1
       have H' := Aside0.mk H
       clear H
       go_wp2
       go_roundg k1
       case measure => have := HK1.out; omega
       case rel => exact ⟨(wrap64 (x9_1 + 1)), (by first | rfl | (simp; done) | (simp [*]; done)), H', ⟨by have := HK1.out; omega⟩, ⟨by refine bz_ ?_; exact BK611.out⟩, ⟨bw_q HB⟩⟩
     ·rw [if_neg c6] at H
      exact absurd H (by simp)
    ·rw [if_neg c5] at H
     exact absurd H (by simp)
   ·rw [if_neg c4] at H
    have c4b0 : decide (x9_1 < (l0.length : Int)) = false := decide_eq_false c4
    clear c4
    obtain rfl := Option.some.inj H
    go_wp2
    go_ret
    exact ⟨er_q, bw_q HB⟩

end Go.Proofs.Ythjmdiggglkeaaa.Q

/- A Go function as a Lean function, and its contract: for every input the Go code comes to what the Lean function tells. -/

namespace Go.Proofs.Ythjmdiggglkeaaa.Q
open Go.RowKit Go.Proofs.YthjmdiggglkeaaaW.PrintWords Go.Proofs.YthjmdiggglkeaaaW.PrintLast Go.Proofs.YthjmdiggglkeaaaW.PrintMore
attribute [local go_sem] max2_int min2_int max_two min_two max_three min_three max_four min_four   -- for this text's walks alone
set_option linter.unusedVariables false
set_option linter.unusedSimpArgs false

/-! ### impl_copyRecord: function 108 -/
def impl_copyRecord.f (a0_0 : Int) (a0_1 : Int) (a0_2 : Int) (a0_3 : Int) (a0_4 : Int) (l0_5 : List (S127)) (a0_6 : Int) (a0_7 : Bool) : Option (Int × Int × Int × Int × Int × (List (S127)) × Int × Bool) := if ([] : List (S127)).length + l0_5.length < 8796093022208 then (some (a0_0, a0_1, a0_2, a0_3, a0_4, (([] : List (S127)) ++ l0_5), a0_6, a0_7)) else (none)
set_option maxHeartbeats 8000000 in
set_option maxRecDepth 100000 in
theorem impl_copyRecord.calls (a0_0 : Int) (a0_1 : Int) (a0_2 : Int) (a0_3 : Int) (a0_4 : Int) (A0_5 : Option Addr) (c0_5 : Nat) (l0_5 : List (S127)) (a0_6 : Int) (a0_7 : Bool) (r1 : Int) (r2 : Int) (r3 : Int) (r4 : Int) (r5 : Int) (r6 : List (S127)) (r7 : Int) (r8 : Bool) (w : World) (hr0_5 : Kd.C k127 w A0_5 l0_5.length l0_5) (hc0_5 : l0_5.length ≤ c0_5) (h : impl_copyRecord.f a0_0 a0_1 a0_2 a0_3 a0_4 l0_5 a0_6 a0_7 = some (r1, r2, r3, r4, r5, r6, r7, r8)) :
  Calls Try.prog 108 #[.agg #[.int .i64 a0_0, .int .i64 a0_1, .int .i64 a0_2, .int .i64 a0_3, .int .i64 a0_4, .slice A0_5 l0_5.length c0_5, .int .i64 a0_6, .bool a0_7]] w fun e w' => ∃ v5_ : Value, e = .returned (.agg #[.int .i64 r1, .int .i64 r2, .int .i64 r3, .int .i64 r4, .int .i64 r5, v5_, .int .i64 r7, .bool r8]) ∧ Kd.R k127 127 w' w.heap.size (fun _ => True) v5_ r6 ∧ Below w.heap.size w w' := by
 have hu61 := Try.underlying61
 have HR0_5 := Aside0.mk hr0_5
 have HC0_5 := Aside0.mk hc0_5
 clear hr0_5 hc0_5
 have HB := Aside0.mk (Below.refl w.heap.size w)
 have H : (if ([] : List (S127)).length + l0_5.length < 8796093022208 then (some (a0_0, a0_1, a0_2, a0_3, a0_4, (([] : List (S127)) ++ l0_5), a0_6, a0_7)) else (none)) = some (r1, r2, r3, r4, r5, r6, r7, r8) := h
 clear h
 by_cases c2 : ([] : List (S127)).length + l0_5.length < 8796093022208
 ·rw [if_pos c2] at H
  have LMc2 := Aside0.mk c2
  clear c2
  obtain ⟨y576, hy576⟩ : ∃ y_ : List (S127), y_ = (([] : List (S127)) ++ l0_5) := ⟨_, rfl⟩
  replace H : (some (a0_0, a0_1, a0_2, a0_3, a0_4, y576, a0_6, a0_7)) = some (r1, r2, r3, r4, r5, r6, r7, r8) := by first | (rw [hy576]; with_reducible exact H) | (have H2_ := (Option.bind_some _ _).symm.trans H; rw [hy576]; with_reducible exact H2_) | (have H2_ := (Option.bind_some _ _).symm.trans H; with_reducible exact H2_) | with_reducible exact H | (rw [hy576]; exact H) | exact H
  have Ny576 := Aside0.mk hy576
  clear hy576
  simp only [Option.some.injEq, Prod.mk.injEq] at H
  obtain ⟨rfl, rfl, rfl, rfl, rfl, rfl, rfl, rfl⟩ := H
  go_enter Try.func108, Try.ntmps108
  go_wp2_with (first | ((with_reducible refine gate_dst (N := 1) rfl ?_); refine box_q 1 #[.int .i64 a0_0, .int .i64 a0_1, .int .i64 a0_2, .int .i64 a0_3, .int .i64 a0_4, .slice A0_5 l0_5.length c0_5, .int .i64 a0_6, .bool a0_7] 61 ?_; intro gb574 hg w3 hbox hb; have BK574 := Aside0.mk (hbox); have GW574 := Aside0.mk ((by rw [hg]; exact (below_size (bw_q HB)) : w.heap.size ≤ gb574)); have GE574 := Aside0.mk ((by rw [hg]; exact (below_size (bw_q HB)) : w.heap.size ≤ gb574)); replace HB := Aside0.mk (below_step (bw_q HB) hb); clear hb hbox hg) | ((with_reducible refine gate_dst (N := 2) rfl ?_); refine box_q 2 #[.int .i64 0, .int .i64 0, .int .i64 0, .int .i64 0, .int .i64 0, .slice none 0 0, .int .i64 0, .bool false] 61 ?_; intro gb575 hg w4 hbox hb; have BK575 := Aside0.mk (hbox); have GW575 := Aside0.mk ((by rw [hg]; exact (below_size (bw_q HB)) : w.heap.size ≤ gb575)); have GE575 := Aside0.mk ((by rw [hg]; exact (below_size (bw_q HB)) : w.heap.size ≤ gb575)); replace HB := Aside0.mk (below_step (bw_q HB) hb); have NB574_575 := Aside0.mk ((by rw [hg]; exact Nat.ne_of_lt (blk_lt (g := gb574) (o := .cells #[.int .i64 a0_0, .int .i64 a0_1, .int .i64 a0_2, .int .i64 a0_3, .int .i64 a0_4, .slice A0_5 l0_5.length c0_5, .int .i64 a0_6, .bool a0_7] 61 (0, 0)) (bk_q BK574)) : gb574 ≠ gb575)); have NB575_574 := Aside0.mk ((by rw [hg]; exact Nat.ne_of_gt (blk_lt (g := gb574) (o := .cells #[.int .i64 a0_0, .int .i64 a0_1, .int .i64 a0_2, .int .i64 a0_3, .int .i64 a0_4, .slice A0_5 l0_5.length c0_5, .int .i64 a0_6, .bool a0_7] 61 (0, 0)) (bk_q BK574)) : gb575 ≠ gb574)); replace BK574 := Aside0.mk (blk_below (g := gb574) (bk_q BK574) hb); clear hb hbox hg; have hnb5 := NB574_575.out; have hnc5 := NB575_574.out; have hcz6_0 : w4.cell? ⟨gb574, 0, none⟩ = some (.int .i64 a0_0) := (blk_cell BK574.out 0).trans rfl; have hcz6_1 : w4.cell? ⟨gb574, 1, none⟩ = some (.int .i64 a0_1) := (blk_cell BK574.out 1).trans rfl; have hcz6_2 : w4.cell? ⟨gb574, 2, none⟩ = some (.int .i64 a0_2) := (blk_cell BK574.out 2).trans rfl; have hcz6_3 : w4.cell? ⟨gb574, 3, none⟩ = some (.int .i64 a0_3) := (blk_cell BK574.out 3).trans rfl; have hcz6_4 : w4.cell? ⟨gb574, 4, none⟩ = some (.int .i64 a0_4) := (blk_cell BK574.out 4).trans rfl; have hcz6_5 : w4.cell? ⟨gb574, 5, none⟩ = some (.slice A0_5 l0_5.length c0_5) := (blk_cell BK574.out 5).trans rfl; have hcz6_6 : w4.cell? ⟨gb574, 6, none⟩ = some (.int .i64 a0_6) := (blk_cell BK574.out 6).trans rfl; have hcz6_7 : w4.cell? ⟨gb574, 7, none⟩ = some (.bool a0_7) := (blk_cell BK574.out 7).trans rfl; have hfz6_0 := blk_frozen BK574.out 0; have hfz6_1 := blk_frozen BK574.out 1; have hfz6_2 := blk_frozen BK574.out 2; have hfz6_3 := blk_frozen BK574.out 3; have hfz6_4 := blk_frozen BK574.out 4; have hfz6_5 := blk_frozen BK574.out 5; have hfz6_6 := blk_frozen BK574.out 6; have hfz6_7 := blk_frozen BK574.out 7) | ((with_reducible refine gate_builtin (b := .append) (xs := #[(.const (.slice none 0 0)), .tmp 4]) rfl ?_); at_builtin; refine Kd.R_append_rows k127 (w0 := w) w.heap.size rfl (.const (.slice none 0 0)) (.tmp 4) 59 127 (.agg #[(.int .i64 0), (.int .i64 0)]) 16 rfl Try.underlying59 info127 rfl (by decide) (by omega) (.slice none 0 0) ([] : List (S127)) l0_5 _ _ _ (fun _ => True) (fun _ => False) rfl rfl ?aO ?aR (fun _ _ h => h) (fun _ h => h.elim) ?aF ?aB ?aS ?aL ?_; (case aR => exact cs_q (Kd.C_below HR0_5.out HB.out)); (case aB => exact (bw_q HB)); (case aF => exact (fun _ _ => trivial)); (case aO => exact ((Kd.R_nil _ _ _ _ (fun _ => True)))); (case aS => exact (below_size (bw_q HB))); (case aL => have := LMc2.out; omega); intro v577 w7 ho hb hg hat; rw [← Ny576.out] at ho; replace BK574 := Aside0.mk (blk_grown (g := gb574) (o := .cells #[.int .i64 a0_0, .int .i64 a0_1, .int .i64 a0_2, .int .i64 a0_3, .int .i64 a0_4, .slice A0_5 l0_5.length c0_5, .int .i64 a0_6, .bool a0_7] 61 (0, 0)) (bk_q BK574) hg (by simp [Value.ownBlock])); replace BK575 := Aside0.mk (blk_grown (g := gb575) (o := .cells #[.int .i64 0, .int .i64 0, .int .i64 0, .int .i64 0, .int .i64 0, .slice none 0 0, .int .i64 0, .bool false] 61 (0, 0)) (bk_q BK575) hg (by simp [Value.ownBlock])); replace HB := Aside0.mk (hb); have HO578 := Aside0.mk (ho); clear ho hb hg hat; obtain ⟨Ao8, co8, eo8⟩ := Kd.R_slice HO578.out; subst eo8; have hcz9_0 : w7.cell? ⟨gb574, 0, none⟩ = some (.int .i64 a0_0) := (blk_cell BK574.out 0).trans rfl; have hcz9_1 : w7.cell? ⟨gb574, 1, none⟩ = some (.int .i64 a0_1) := (blk_cell BK574.out 1).trans rfl; have hcz9_2 : w7.cell? ⟨gb574, 2, none⟩ = some (.int .i64 a0_2) := (blk_cell BK574.out 2).trans rfl; have hcz9_3 : w7.cell? ⟨gb574, 3, none⟩ = some (.int .i64 a0_3) := (blk_cell BK574.out 3).trans rfl; have hcz9_4 : w7.cell? ⟨gb574, 4, none⟩ = some (.int .i64 a0_4) := (blk_cell BK574.out 4).trans rfl; have hcz9_5 : w7.cell? ⟨gb574, 5, none⟩ = some (.slice A0_5 l0_5.length c0_5) := (blk_cell BK574.out 5).trans rfl; have hcz9_6 : w7.cell? ⟨gb574, 6, none⟩ = some (.int .i64 a0_6) := (blk_cell BK574.out 6).trans rfl; have hcz9_7 : w7.cell? ⟨gb574, 7, none⟩ = some (.bool a0_7) := (blk_cell BK574.out 7).trans rfl; have hfz9_0 := blk_frozen BK574.out 0; have hfz9_1 := blk_frozen BK574.out 1; have hfz9_2 := blk_frozen BK574.out 2; have hfz9_3 := blk_frozen BK574.out 3; have hfz9_4 := blk_frozen BK574.out 4; have hfz9_5 := blk_frozen BK574.out 5; have hfz9_6 := blk_frozen BK574.out 6; have hfz9_7 := blk_frozen BK574.out 7; have hcz10_0 : w7.cell? ⟨gb575, 0, none⟩ = some (.int .i64 0) := (blk_cell BK575.out 0).trans rfl; have hcz10_1 : w7.cell? ⟨gb575, 1, none⟩ = some (.int .i64 0) := (blk_cell BK575.out 1).trans rfl; have hcz10_2 : w7.cell? ⟨gb575, 2, none⟩ = some (.int .i64 0) := (blk_cell BK575.out 2).trans rfl; have hcz10_3 : w7.cell? ⟨gb575, 3, none⟩ = some (.int .i64 0) := (blk_cell BK575.out 3).trans rfl; have hcz10_4 : w7.cell? ⟨gb575, 4, none⟩ = some (.int .i64 0) := (blk_cell BK575.out 4).trans rfl; have hcz10_5 : w7.cell? ⟨gb575, 5, none⟩ = some (.slice none 0 0) := (blk_cell BK575.out 5).trans rfl; have hcz10_6 : w7.cell? ⟨gb575, 6, none⟩ = some (.int .i64 0) := (blk_cell BK575.out 6).trans rfl; have hcz10_7 : w7.cell? ⟨gb575, 7, none⟩ = some (.bool false) := (blk_cell BK575.out 7).trans rfl; have hfz10_0 := blk_frozen BK575.out 0; have hfz10_1 := blk_frozen BK575.out 1; have hfz10_2 := blk_frozen BK575.out 2; have hfz10_3 := blk_frozen BK575.out 3; have hfz10_4 := blk_frozen BK575.out 4; have hfz10_5 := blk_frozen BK575.out 5; have hfz10_6 := blk_frozen BK575.out 6; have hfz10_7 := blk_frozen BK575.out 7))
  refine bodyPost_ret (results_cell_row rfl _ _ gb575 61 #[.int .i64 a0_0, .int .i64 a0_1, .int .i64 a0_2, .int .i64 a0_3, .int .i64 a0_4, .slice Ao8 y576.length co8, .int .i64 a0_6, .bool a0_7] (0, 0) _ rfl (by refine bz_ ?_; refine blk_put (cs := #[.int .i64 a0_0, .int .i64 a0_1, .int .i64 a0_2, .int .i64 a0_3, .int .i64 a0_4, .slice Ao8 y576.length co8, .int .i64 a0_6, .bool false]) ?_ 7 _ rfl; refine bz_ ?_; refine blk_put (cs := #[.int .i64 a0_0, .int .i64 a0_1, .int .i64 a0_2, .int .i64 a0_3, .int .i64 a0_4, .slice Ao8 y576.length co8, .int .i64 0, .bool false]) ?_ 6 _ rfl; refine bz_ ?_; refine blk_put (cs := #[.int .i64 a0_0, .int .i64 a0_1, .int .i64 a0_2, .int .i64 a0_3, .int .i64 a0_4, .slice none 0 0, .int .i64 0, .bool false]) ?_ 5 _ rfl; refine bz_ ?_; refine blk_put (cs := #[.int .i64 a0_0, .int .i64 a0_1, .int .i64 a0_2, .int .i64 a0_3, .int .i64 0, .slice none 0 0, .int .i64 0, .bool false]) ?_ 4 _ rfl; refine bz_ ?_; refine blk_put (cs := #[.int .i64 a0_0, .int .i64 a0_1, .int .i64 a0_2, .int .i64 0, .int .i64 0, .slice none 0 0, .int .i64 0, .bool false]) ?_ 3 _ rfl; refine bz_ ?_; refine blk_put (cs := #[.int .i64 a0_0, .int .i64 a0_1, .int .i64 0, .int .i64 0, .int .i64 0, .slice none 0 0, .int .i64 0, .bool false]) ?_ 2 _ rfl; refine bz_ ?_; refine blk_put (cs := #[.int .i64 a0_0, .int .i64 0, .int .i64 0, .int .i64 0, .int .i64 0, .slice none 0 0, .int .i64 0, .bool false]) ?_ 1 _ rfl; refine bz_ ?_; refine blk_put (cs := #[.int .i64 0, .int .i64 0, .int .i64 0, .int .i64 0, .int .i64 0, .slice none 0 0, .int .i64 0, .bool false]) ?_ 0 _ rfl; refine bz_ ?_; refine blk_far ?_ NB575_574.out _; refine bz_ ?_; exact BK575.out) Try.underlying61 rfl (by kernel_rfl)) rfl ?_
  exact ⟨_, er_q, by (with_reducible repeat (first | apply Kd.R_alloc | apply Kd.R_drewN | apply Kd.R_drew)); exact Kd.R_mono (Kd.R_far (p := ⟨gb575, 7, none⟩) (Kd.R_far (p := ⟨gb575, 6, none⟩) (Kd.R_far (p := ⟨gb575, 5, none⟩) (Kd.R_far (p := ⟨gb575, 4, none⟩) (Kd.R_far (p := ⟨gb575, 3, none⟩) (Kd.R_far (p := ⟨gb575, 2, none⟩) (Kd.R_far (p := ⟨gb575, 1, none⟩) (Kd.R_far (p := ⟨gb575, 0, none⟩) (Kd.R_far (p := ⟨gb574, 5, none⟩) (Kd.R_types (Kd.R_types HO578.out BK574.out (by decide)) BK575.out (by decide)) (fun _ hk => hk.1.2) (.slice Ao8 y576.length co8)) (fun _ hk => hk.2) (.int .i64 a0_0)) (fun _ hk => hk.2) (.int .i64 a0_1)) (fun _ hk => hk.2) (.int .i64 a0_2)) (fun _ hk => hk.2) (.int .i64 a0_3)) (fun _ hk => hk.2) (.int .i64 a0_4)) (fun _ hk => hk.2) (.slice Ao8 y576.length co8)) (fun _ hk => hk.2) (.int .i64 a0_6)) (fun _ hk => hk.2) (.bool a0_7)) (fun _ hk => trivial), bw_q HB⟩
 ·rw [if_neg c2] at H
  exact absurd H (by simp)

end Go.Proofs.Ythjmdiggglkeaaa.Q

/- A Go function as a Lean function, and its contract: for every input the Go code comes to what the Lean function tells. -/


namespace Go.Proofs.Ythjmdiggglkeaaa.Q
open Go.RowKit Go.Proofs.YthjmdiggglkeaaaW.PrintWords Go.Proofs.YthjmdiggglkeaaaW.PrintLast Go.Proofs.YthjmdiggglkeaaaW.PrintMore
attribute [local go_sem] max2_int min2_int max_two min_two max_three min_three max_four min_four   -- for this text's walks alone
set_option linter.unusedVariables false
set_option linter.unusedSimpArgs false

/-! ### impl_copyRecords: function 135 -/
def impl_copyRecords.l0 : Nat → List (S61) → List (S61) → Int → Int → Option ((List (S61)))
 | 0, _, _, _, _ => none
 | k + 1, x3, x6, x7, x8 => if x8 < x7 then (if 0 ≤ x8 then (if x8 < (x6.length : Int) then ((impl_copyRecord.f ((rd_T61 x6 x8).f0) ((rd_T61 x6 x8).f1) ((rd_T61 x6 x8).f2) ((rd_T61 x6 x8).f3) ((rd_T61 x6 x8).f4) ((rd_T61 x6 x8).f5) ((rd_T61 x6 x8).f6) ((rd_T61 x6 x8).f7)).bind fun bt581 => (if x3.length < 1759218604441 then (impl_copyRecords.l0 k (x3 ++ [(⟨bt581.1, bt581.2.1, bt581.2.2.1, bt581.2.2.2.1, bt581.2.2.2.2.1, bt581.2.2.2.2.2.1, bt581.2.2.2.2.2.2.1, bt581.2.2.2.2.2.2.2⟩ : S61)]) x6 x7 (wrap64 (x8 + 1))) else (none))) else (none)) else (none)) else (some x3)
def impl_copyRecords.f (k : Nat) (l0 : List (S61)) : Option ((List (S61))) := impl_copyRecords.l0 k ([] : List (S61)) l0 (l0.length : Int) 0
theorem impl_copyRecords.mono_l : ∀ k, (∀ y0 y1 y2 y3, LeO (impl_copyRecords.l0 k y0 y1 y2 y3) (impl_copyRecords.l0 (k + 1) y0 y1 y2 y3))
 | 0 => fun _ _ _ _ r h => by simp [impl_copyRecords.l0] at h
 | k + 1 => by
  have ih0 := impl_copyRecords.mono_l k
  ·intro y0 y1 y2 y3
   unfold impl_copyRecords.l0
   repeat' first
   | (with_reducible exact ih0 _ _ _ _)
   | (with_reducible exact LeO.refl _)
   | (with_reducible exact LeO.none _)
   | (with_reducible refine LeO.ite ?_ ?_)
   | (with_reducible refine LeO.bind ?_ (fun _ => ?_))
   | exact ih0 _ _ _ _
   | exact LeO.none _
   | refine LeO.ite ?_ ?_
   | refine LeO.bind ?_ (fun _ => ?_)
theorem impl_copyRecords.mono : ∀ a0 k, LeO (impl_copyRecords.f k a0) (impl_copyRecords.f (k + 1) a0) := by
 intro a0 k
 have ih0 := impl_copyRecords.mono_l k
 unfold impl_copyRecords.f
 repeat' first
   | (with_reducible exact ih0 _ _ _ _)
   | (with_reducible exact LeO.refl _)
   | (with_reducible exact LeO.none _)
   | (with_reducible refine LeO.ite ?_ ?_)
   | (with_reducible refine LeO.bind ?_ (fun _ => ?_))
   | exact ih0 _ _ _ _
   | exact LeO.none _
   | refine LeO.ite ?_ ?_
   | refine LeO.bind ?_ (fun _ => ?_)
set_option maxHeartbeats 8000000 in
set_option maxRecDepth 100000 in
theorem impl_copyRecords.calls (k : Nat) (A0 : Option Addr) (c0 : Nat) (l0 : List (S61)) (r : List (S61)) (w : World) (hr0 : Kd.C k61 w A0 l0.length l0) (hc0 : l0.length ≤ c0) (h : impl_copyRecords.f k l0 = some r) :
  Calls Try.prog 135 #[.slice A0 l0.length c0] w fun e w' => ∃ v0_ : Value, e = .returned (v0_) ∧ Kd.S k61 61 w' w.heap.size (fun _ => True) v0_ r ∧ Below w.heap.size w w' := by
 have hu61 := Try.underlying61
 have HR0 := Aside0.mk hr0
 have HC0 := Aside0.mk hc0
 clear hr0 hc0
 have HB := Aside0.mk (Below.refl w.heap.size w)
 have H : (impl_copyRecords.l0 k ([] : List (S61)) l0 (l0.length : Int) 0) = some r := h
 clear h
 have H' := Aside0.mk H
 clear H
 go_enter Try.func135, Try.ntmps135
 go_wp2
 go_loopg [3, 8] k (fun kq v3 v8 w' => ∃ (x3_1 : List (S61)) (x8_1 : Int), v8 = .int .i64 x8_1 ∧ Aside0 (impl_copyRecords.l0 kq x3_1 l0 (l0.length : Int) x8_1 = some r) ∧ Aside0 (kq ≤ k) ∧ Aside0 (Kd.S k61 61 w' w.heap.size (fun _ => True) v3 x3_1) ∧ Aside0 (Below w.heap.size w w'))
 case atStart => exact ⟨(([] : List (S61))), (0), (by first | rfl | (simp; done) | (simp [*]; done)), H', ⟨Nat.le_refl _⟩, ⟨by first | exact Kd.S_nil _ _ _ _ _ | exact Kd.N_nil _ _ _ _ _ | exact Kd.V_nil _ _ _ _ _ | exact Kd.Q_nil _ _ _ _ _ | exact Kd.R_nil _ _ _ _ _⟩, ⟨bw_q HB⟩⟩
 case round =>
  clear H'
  try clear c1
  obtain ⟨x3_1, x8_1, rfl, HA, HK1, HO_3, HB⟩ := hrel
  cases gk with
  | zero => exact absurd HA.out (by simp [impl_copyRecords.l0])
  | succ k1 =>
   have H := HA.out
   clear HA
   simp only [impl_copyRecords.l0] at H
   by_cases c2 : x8_1 < (l0.length : Int)
   ·rw [if_pos c2] at H
    have c2b0 : decide (x8_1 < (l0.length : Int)) = true := decide_eq_true c2
    clear c2
    by_cases c3 : 0 ≤ x8_1
    ·rw [if_pos c3] at H
     have c3b0 : decide (0 ≤ x8_1) = true := decide_eq_true c3
     clear c3
     by_cases c4 : x8_1 < (l0.length : Int)
     ·rw [if_pos c4] at H
      have c4b0 : decide (x8_1 < (l0.length : Int)) = true := decide_eq_true c4
      clear c4
      replace H := Option.bind_eq_some_iff.mp H
      obtain ⟨⟨t581, t582, t583, t584, t585, t586, t589, t590⟩, A50, H⟩ := H
      replace H : (if x3_1.length < 1759218604441 then (impl_copyRecords.l0 k1 (x3_1 ++ [(⟨t581, t582, t583, t584, t585, t586, t589, t590⟩ : S61)]) l0 (l0.length : Int) (wrap64 (x8_1 + 1))) else (none)) = some r := H
      have A5 := Aside0.mk A50
      clear A50
      by_cases c6 : x3_1.length < 1759218604441
      ·rw [if_pos c6] at H
       have LMc6 := Aside0.mk c6
       clear c6
       obtain ⟨y591, hy591⟩ : ∃ y_ : List (S61), y_ = (x3_1 ++ [(⟨t581, t582, t583, t584, t585, t586, t589, t590⟩ : S61)]) := ⟨_, rfl⟩
       replace H : (impl_copyRecords.l0 k1 y591 l0 (l0.length : Int) (wrap64 (x8_1 + 1))) = some r := by first | (rw [hy591]; with_reducible exact H) | (have H2_ := (Option.bind_some _ _).symm.trans H; rw [hy591]; with_reducible exact H2_) | (have H2_ := (Option.bind_some _ _).symm.trans H; with_reducible exact H2_) | with_reducible exact H | (rw [hy591]; exact H) | exact H
       have Ny591 := Aside0.mk hy591
       clear hy591
       have H' := Aside0.mk H
       clear H
       have p579 : 0 ≤ (x8_1 : Int) := of_decide_eq_true as_q
       have q579 : x8_1 < (l0.length : Int) := of_decide_eq_true as_q
       obtain ⟨ad579, A579_5, c579_5, e579, hx579_0, hx579_1, hx579_2, hx579_3, hx579_4, hx579_5, hx579_6, hx579_7, hl579_5, hi579_5⟩ := at_T61 HR0.out x8_1 p579 q579
       cases e579
       replace hx579_0 := (HB.out.cell (World.block_lt_of_cell? w _ hx579_0)).trans hx579_0
       replace hx579_1 := (HB.out.cell (World.block_lt_of_cell? w _ hx579_1)).trans hx579_1
       replace hx579_2 := (HB.out.cell (World.block_lt_of_cell? w _ hx579_2)).trans hx579_2
       replace hx579_3 := (HB.out.cell (World.block_lt_of_cell? w _ hx579_3)).trans hx579_3
       replace hx579_4 := (HB.out.cell (World.block_lt_of_cell? w _ hx579_4)).trans hx579_4
       replace hx579_5 := (HB.out.cell (World.block_lt_of_cell? w _ hx579_5)).trans hx579_5
       replace hx579_6 := (HB.out.cell (World.block_lt_of_cell? w _ hx579_6)).trans hx579_6
       replace hx579_7 := (HB.out.cell (World.block_lt_of_cell? w _ hx579_7)).trans hx579_7
       have HR579_5 := Aside0.mk hi579_5
       have HC579_5 := Aside0.mk hl579_5
       clear hi579_5 hl579_5
       replace p579 := eq_true p579
       replace q579 := eq_true q579
       go_wp2_with (first | ((with_reducible refine gate_dst (N := 5) rfl ?_); refine box_q 5 #[.int .i64 0, .int .i64 0, .int .i64 0, .int .i64 0, .int .i64 0, .slice none 0 0, .int .i64 0, .bool false] 61 ?_; intro gb580 hg w7 hbox hb; replace HO_3 := Aside0.mk (Kd.S_below (Kd.S_elderB (kS_q HO_3) gb580 (Nat.le_of_eq hg.symm)) hb); have BK580 := Aside0.mk (hbox); have GW580 := Aside0.mk ((by rw [hg]; exact (below_size (bw_q HB)) : w.heap.size ≤ gb580)); have GE580 := Aside0.mk ((by rw [hg]; exact (below_size (bw_q HB)) : w.heap.size ≤ gb580)); replace HB := Aside0.mk (below_step (bw_q HB) hb); clear hb hbox hg; have hcz8_0 : w7.cell? ⟨gb580, 0, none⟩ = some (.int .i64 0) := (blk_cell BK580.out 0).trans rfl; have hcz8_1 : w7.cell? ⟨gb580, 1, none⟩ = some (.int .i64 0) := (blk_cell BK580.out 1).trans rfl; have hcz8_2 : w7.cell? ⟨gb580, 2, none⟩ = some (.int .i64 0) := (blk_cell BK580.out 2).trans rfl; have hcz8_3 : w7.cell? ⟨gb580, 3, none⟩ = some (.int .i64 0) := (blk_cell BK580.out 3).trans rfl; have hcz8_4 : w7.cell? ⟨gb580, 4, none⟩ = some (.int .i64 0) := (blk_cell BK580.out 4).trans rfl; have hcz8_5 : w7.cell? ⟨gb580, 5, none⟩ = some (.slice none 0 0) := (blk_cell BK580.out 5).trans rfl; have hcz8_6 : w7.cell? ⟨gb580, 6, none⟩ = some (.int .i64 0) := (blk_cell BK580.out 6).trans rfl; have hcz8_7 : w7.cell? ⟨gb580, 7, none⟩ = some (.bool false) := (blk_cell BK580.out 7).trans rfl; have hfz8_0 := blk_frozen BK580.out 0; have hfz8_1 := blk_frozen BK580.out 1; have hfz8_2 := blk_frozen BK580.out 2; have hfz8_3 := blk_frozen BK580.out 3; have hfz8_4 := blk_frozen BK580.out 4; have hfz8_5 := blk_frozen BK580.out 5; have hfz8_6 := blk_frozen BK580.out 6; have hfz8_7 := blk_frozen BK580.out 7) | ((with_reducible refine gate_callee (f := 108) rfl ?_); refine goesL_ (some 14) rfl rfl Try.func108 (by kernel_rfl) rfl #[.agg #[.int .i64 ((rd_T61 l0 x8_1).f0), .int .i64 ((rd_T61 l0 x8_1).f1), .int .i64 ((rd_T61 l0 x8_1).f2), .int .i64 ((rd_T61 l0 x8_1).f3), .int .i64 ((rd_T61 l0 x8_1).f4), .slice A579_5 ((rd_T61 l0 x8_1).f5).length c579_5, .int .i64 ((rd_T61 l0 x8_1).f6), .bool ((rd_T61 l0 x8_1).f7)]] rfl mp_q ?_; (with_reducible refine (impl_copyRecord.calls ((rd_T61 l0 x8_1).f0) ((rd_T61 l0 x8_1).f1) ((rd_T61 l0 x8_1).f2) ((rd_T61 l0 x8_1).f3) ((rd_T61 l0 x8_1).f4) _ _ ((rd_T61 l0 x8_1).f5) ((rd_T61 l0 x8_1).f6) ((rd_T61 l0 x8_1).f7) t581 t582 t583 t584 t585 t586 t589 t590 _ ?side1 ?side2 A5.out).mono ?_); (case side1 => exact Kd.C_below HR579_5.out (bw_q HB)); (case side2 => exact HC579_5.out); rintro e w9 ⟨v587, rfl, ho0, hb⟩; refine ⟨_, rfl, ?_⟩; have hs_v587 : (v587 : Value).oneCell' = true := (by first | (have h_ := Kd.R_slice ho0; obtain ⟨A_, c_, e_⟩ := h_; simp [e_, Value.oneCell']) | (have h_ := Kd.S_slice ho0; obtain ⟨A_, c_, e_⟩ := h_; simp [e_, Value.oneCell']) | (have h_ := Kd.N_slice ho0; obtain ⟨A_, c_, e_⟩ := h_; simp [e_, Value.oneCell']) | (have h_ := Kd.V_slice ho0; obtain ⟨A_, c_, e_⟩ := h_; simp [e_, Value.oneCell'])); have hst_v587 := fun (w_ : World) (a_ : Addr) m_ => run_store Try.prog w_ a_ v587 m_ hs_v587; replace HO_3 := Aside0.mk (Kd.S_elder' (by (with_reducible repeat (first | apply Kd.S_alloc | apply Kd.S_drewN | apply Kd.S_drew)); exact (Kd.S_mono (Kd.S_far (p := ⟨gb580, 7, none⟩) (Kd.S_far (p := ⟨gb580, 6, none⟩) (Kd.S_far (p := ⟨gb580, 5, none⟩) (Kd.S_far (p := ⟨gb580, 4, none⟩) (Kd.S_far (p := ⟨gb580, 3, none⟩) (Kd.S_far (p := ⟨gb580, 2, none⟩) (Kd.S_far (p := ⟨gb580, 1, none⟩) (Kd.S_far (p := ⟨gb580, 0, none⟩) (Kd.S_mono HO_3.out (fun k_ hk => (⟨hk, hk.2⟩ : _ ∧ k_ ≠ gb580))) (fun _ hk => hk.2) (.int .i64 ((rd_T61 l0 x8_1).f0))) (fun _ hk => hk.2) (.int .i64 ((rd_T61 l0 x8_1).f1))) (fun _ hk => hk.2) (.int .i64 ((rd_T61 l0 x8_1).f2))) (fun _ hk => hk.2) (.int .i64 ((rd_T61 l0 x8_1).f3))) (fun _ hk => hk.2) (.int .i64 ((rd_T61 l0 x8_1).f4))) (fun _ hk => hk.2) (.slice A579_5 ((rd_T61 l0 x8_1).f5).length c579_5)) (fun _ hk => hk.2) (.int .i64 ((rd_T61 l0 x8_1).f6))) (fun _ hk => hk.2) (.bool ((rd_T61 l0 x8_1).f7))) (fun _ h_ => h_.1))) (Kd.R_base ho0) hb); have HO588 := Aside0.mk (Kd.R_lower ho0 (below_size (bw_q HB))); replace BK580 := Aside0.mk (blk_below (g := gb580) (o := .cells #[.int .i64 ((rd_T61 l0 x8_1).f0), .int .i64 ((rd_T61 l0 x8_1).f1), .int .i64 ((rd_T61 l0 x8_1).f2), .int .i64 ((rd_T61 l0 x8_1).f3), .int .i64 ((rd_T61 l0 x8_1).f4), .slice A579_5 ((rd_T61 l0 x8_1).f5).length c579_5, .int .i64 ((rd_T61 l0 x8_1).f6), .bool ((rd_T61 l0 x8_1).f7)] 61 (0, 0)) (by refine bz_ ?_; refine blk_put (cs := #[.int .i64 ((rd_T61 l0 x8_1).f0), .int .i64 ((rd_T61 l0 x8_1).f1), .int .i64 ((rd_T61 l0 x8_1).f2), .int .i64 ((rd_T61 l0 x8_1).f3), .int .i64 ((rd_T61 l0 x8_1).f4), .slice A579_5 ((rd_T61 l0 x8_1).f5).length c579_5, .int .i64 ((rd_T61 l0 x8_1).f6), .bool false]) ?_ 7 _ rfl; refine bz_ ?_; refine blk_put (cs := #[.int .i64 ((rd_T61 l0 x8_1).f0), .int .i64 ((rd_T61 l0 x8_1).f1), .int .i64 ((rd_T61 l0 x8_1).f2), .int .i64 ((rd_T61 l0 x8_1).f3), .int .i64 ((rd_T61 l0 x8_1).f4), .slice A579_5 ((rd_T61 l0 x8_1).f5).length c579_5, .int .i64 0, .bool false]) ?_ 6 _ rfl; refine bz_ ?_; refine blk_put (cs := #[.int .i64 ((rd_T61 l0 x8_1).f0), .int .i64 ((rd_T61 l0 x8_1).f1), .int .i64 ((rd_T61 l0 x8_1).f2), .int .i64 ((rd_T61 l0 x8_1).f3), .int .i64 ((rd_T61 l0 x8_1).f4), .slice none 0 0, .int .i64 0, .bool false]) ?_ 5 _ rfl; refine bz_ ?_; refine blk_put (cs := #[.int .i64 ((rd_T61 l0 x8_1).f0), .int .i64 ((rd_T61 l0 x8_1).f1), .int .i64 ((rd_T61 l0 x8_1).f2), .int .i64 ((rd_T61 l0 x8_1).f3), .int .i64 0, .slice none 0 0, .int .i64 0, .bool false]) ?_ 4 _ rfl; refine bz_ ?_; refine blk_put (cs := #[.int .i64 ((rd_T61 l0 x8_1).f0), .int .i64 ((rd_T61 l0 x8_1).f1), .int .i64 ((rd_T61 l0 x8_1).f2), .int .i64 0, .int .i64 0, .slice none 0 0, .int .i64 0, .bool false]) ?_ 3 _ rfl; refine bz_ ?_; refine blk_put (cs := #[.int .i64 ((rd_T61 l0 x8_1).f0), .int .i64 ((rd_T61 l0 x8_1).f1), .int .i64 0, .int .i64 0, .int .i64 0, .slice none 0 0, .int .i64 0, .bool false]) ?_ 2 _ rfl; refine bz_ ?_; refine blk_put (cs := #[.int .i64 ((rd_T61 l0 x8_1).f0), .int .i64 0, .int .i64 0, .int .i64 0, .int .i64 0, .slice none 0 0, .int .i64 0, .bool false]) ?_ 1 _ rfl; refine bz_ ?_; refine blk_put (cs := #[.int .i64 0, .int .i64 0, .int .i64 0, .int .i64 0, .int .i64 0, .slice none 0 0, .int .i64 0, .bool false]) ?_ 0 _ rfl; refine bz_ ?_; exact BK580.out) hb); replace HB := Aside0.mk (below_step (bw_q HB) hb); (try clear hb); (try clear hb2); (try clear hk); (try clear hi); (try clear ho0); obtain ⟨Ao11, co11, eo11⟩ := Kd.R_slice HO588.out; subst eo11) | ((with_reducible refine gate_builtin (b := .append) (xs := #[.tmp 12, .tmp 15]) rfl ?_); at_builtin; refine Kd.S_append k61 (w0 := w) w.heap.size rfl (.tmp 12) (.tmp 15) 41 61 (.agg #[(.int .i64 0), (.int .i64 0), (.int .i64 0), (.int .i64 0), (.int .i64 0), (.slice none 0 0), (.int .i64 0), (.bool false)]) 80 rfl Try.underlying41 info61 rfl (by decide) (by omega) u3 x3_1 (⟨t581, t582, t583, t584, t585, t586, t589, t590⟩ : S61) [.int .i64 t581, .int .i64 t582, .int .i64 t583, .int .i64 t584, .int .i64 t585, .slice Ao11 t586.length co11, .int .i64 t589, .bool t590] (fun k_ => k_ ≠ gb580) (fun k_ => some k_ = (.slice Ao11 t586.length co11 : Value).ownBlock) rfl rfl ?aP (fun k_ hk_ => ((Kd.R_mono (ok' := fun k_ => ((fun k_ => k_ ≠ gb580)) k_ ∧ some k_ ≠ (u3 : Value).ownBlock) (Kd.R_types (Kd.R_apart' (HO588.out) (Kd.S_typed HO_3.out) (by decide)) BK580.out (by decide)) (fun k_ hk => ⟨hk.2, hk.1.2⟩))).1 k_ hk_.symm) ?aF ?aO ?aB ?aS ?aL ?_; (case aP => exact k61_mkM _ _ _ (⟨t581, t582, t583, t584, t585, t586, t589, t590⟩ : S61) (Kd.R_mono (Kd.R_tight rfl (Kd.R_mono (ok' := fun k_ => ((fun k_ => k_ ≠ gb580)) k_ ∧ some k_ ≠ (u3 : Value).ownBlock) (Kd.R_types (Kd.R_apart' (HO588.out) (Kd.S_typed HO_3.out) (by decide)) BK580.out (by decide)) (fun k_ hk => ⟨hk.2, hk.1.2⟩))) (fun _ h_ => h_))); (case aB => exact (bw_q HB)); (case aF => exact (fun k_ hk => Kd.freshB (g := gb580) (o := .cells #[.int .i64 ((rd_T61 l0 x8_1).f0), .int .i64 ((rd_T61 l0 x8_1).f1), .int .i64 ((rd_T61 l0 x8_1).f2), .int .i64 ((rd_T61 l0 x8_1).f3), .int .i64 ((rd_T61 l0 x8_1).f4), .slice A579_5 ((rd_T61 l0 x8_1).f5).length c579_5, .int .i64 ((rd_T61 l0 x8_1).f6), .bool ((rd_T61 l0 x8_1).f7)] 61 (0, 0)) (bk_q BK580) k_ hk)); (case aO => exact (by (with_reducible repeat (first | apply Kd.S_alloc | apply Kd.S_drewN | apply Kd.S_drew)); exact Kd.S_mono HO_3.out (fun k_ hk => ⟨hk.1.2, fun e_ => hk.2 e_⟩))); (case aS => exact (below_size (bw_q HB))); (case aL => have := LMc6.out; omega); intro v592 w10 ho hb hg hat; rw [← Ny591.out] at ho; replace BK580 := Aside0.mk (blk_grown (g := gb580) (o := .cells #[.int .i64 ((rd_T61 l0 x8_1).f0), .int .i64 ((rd_T61 l0 x8_1).f1), .int .i64 ((rd_T61 l0 x8_1).f2), .int .i64 ((rd_T61 l0 x8_1).f3), .int .i64 ((rd_T61 l0 x8_1).f4), .slice A579_5 ((rd_T61 l0 x8_1).f5).length c579_5, .int .i64 ((rd_T61 l0 x8_1).f6), .bool ((rd_T61 l0 x8_1).f7)] 61 (0, 0)) (bk_q BK580) hg (Kd.S_away HO_3.out (fun _ hk => hk.1.2))); replace HB := Aside0.mk (hb); have HO593 := Aside0.mk (ho); clear HO_3 HO588; clear ho hb hg hat))
       go_roundg k1
       case measure => have := HK1.out; omega
       case rel => exact ⟨(y591), (wrap64 (x8_1 + 1)), (by first | rfl | (simp; done) | (simp [*]; done)), H', ⟨by have := HK1.out; omega⟩, ⟨by (with_reducible repeat (first | apply Kd.S_alloc | apply Kd.S_drewN | apply Kd.S_drew)); exact Kd.S_mono HO593.out (fun _ hk => trivial)⟩, ⟨bw_q HB⟩⟩
      ·rw [if_neg c6] at H
       exact absurd H (by simp)
     ·rw [if_neg c4] at H
      exact absurd H (by simp)
    ·rw [if_neg c3] at H
     exact absurd H (by simp)
   ·rw [if_neg c2] at H
    have c2b0 : decide (x8_1 < (l0.length : Int)) = false := decide_eq_false c2
    clear c2
    obtain rfl := Option.some.inj H
    go_wp2
    go_ret
    exact ⟨_, er_q, by (with_reducible repeat (first | apply Kd.S_alloc | apply Kd.S_drewN | apply Kd.S_drew)); exact HO_3.out, bw_q HB⟩

end Go.Proofs.Ythjmdiggglkeaaa.Q
