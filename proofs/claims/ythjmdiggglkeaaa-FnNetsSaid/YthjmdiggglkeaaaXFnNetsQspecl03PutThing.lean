import Derived.Test.YthjmdiggglkeaaaXFnNetsQimplless
/- A Go function as a Lean function, and its contract: for every input the Go code comes to what the Lean function tells. -/

namespace Go.Proofs.Ythjmdiggglkeaaa.Q
open Go.RowKit Go.Proofs.YthjmdiggglkeaaaW.PrintWords Go.Proofs.YthjmdiggglkeaaaW.PrintLast Go.Proofs.YthjmdiggglkeaaaW.PrintMore
attribute [local go_sem] max2_int min2_int max_two min_two max_three min_three max_four min_four   -- for this text's walks alone
set_option linter.unusedVariables false
set_option linter.unusedSimpArgs false

/-! ### spec_l03Thing: function 78 -/
def spec_l03Thing.f (a0_0 : Int) (a0_1 : Int) (a0_2 : Int) (a0_3 : Bool) (a1_0 : Int) (a1_1 : Int) (a1_2 : Int) (a1_3 : Bool) : Option (Bool) := if a0_1 < a1_1 then (some true) else (if a0_1 = a1_1 then (some (decide (a0_0 < a1_0))) else (some false))
set_option maxHeartbeats 8000000 in
set_option maxRecDepth 100000 in
theorem spec_l03Thing.calls (a0_0 : Int) (a0_1 : Int) (a0_2 : Int) (a0_3 : Bool) (a1_0 : Int) (a1_1 : Int) (a1_2 : Int) (a1_3 : Bool) (r : Bool) (w : World) (h : spec_l03Thing.f a0_0 a0_1 a0_2 a0_3 a1_0 a1_1 a1_2 a1_3 = some r) :
  Calls Try.prog 78 #[.agg #[.int .i64 a0_0, .int .i64 a0_1, .int .i64 a0_2, .bool a0_3], .agg #[.int .i64 a1_0, .int .i64 a1_1, .int .i64 a1_2, .bool a1_3]] w fun e w' => e = .returned (.bool r) ∧ Below w.heap.size w w' := by
 have hu102 := Try.underlying102
 have HB := Aside0.mk (Below.refl w.heap.size w)
 have H : (if a0_1 < a1_1 then (some true) else (if a0_1 = a1_1 then (some (decide (a0_0 < a1_0))) else (some false))) = some r := h
 clear h
 by_cases c3 : a0_1 < a1_1
 ·rw [if_pos c3] at H
  have c3b0 : decide (a0_1 < a1_1) = true := decide_eq_true c3
  clear c3
  obtain rfl := Option.some.inj H
  go_enter Try.func78, Try.ntmps78
  go_wp2_with (first | ((with_reducible refine gate_dst (N := 2) rfl ?_); refine box_q 2 #[.int .i64 a0_0, .int .i64 a0_1, .int .i64 a0_2, .bool a0_3] 102 ?_; intro gb112 hg w4 hbox hb; have BK112 := Aside0.mk (hbox); have GW112 := Aside0.mk ((by rw [hg]; exact (below_size (bw_q HB)) : w.heap.size ≤ gb112)); have GE112 := Aside0.mk ((by rw [hg]; exact (below_size (bw_q HB)) : w.heap.size ≤ gb112)); replace HB := Aside0.mk (below_step (bw_q HB) hb); clear hb hbox hg) | ((with_reducible refine gate_dst (N := 3) rfl ?_); refine box_q 3 #[.int .i64 a1_0, .int .i64 a1_1, .int .i64 a1_2, .bool a1_3] 102 ?_; intro gb113 hg w5 hbox hb; have BK113 := Aside0.mk (hbox); have GW113 := Aside0.mk ((by rw [hg]; exact (below_size (bw_q HB)) : w.heap.size ≤ gb113)); have GE113 := Aside0.mk ((by rw [hg]; exact (below_size (bw_q HB)) : w.heap.size ≤ gb113)); replace HB := Aside0.mk (below_step (bw_q HB) hb); have NB112_113 := Aside0.mk ((by rw [hg]; exact Nat.ne_of_lt (blk_lt (g := gb112) (o := .cells #[.int .i64 a0_0, .int .i64 a0_1, .int .i64 a0_2, .bool a0_3] 102 (0, 0)) (bk_q BK112)) : gb112 ≠ gb113)); have NB113_112 := Aside0.mk ((by rw [hg]; exact Nat.ne_of_gt (blk_lt (g := gb112) (o := .cells #[.int .i64 a0_0, .int .i64 a0_1, .int .i64 a0_2, .bool a0_3] 102 (0, 0)) (bk_q BK112)) : gb113 ≠ gb112)); replace BK112 := Aside0.mk (blk_below (g := gb112) (bk_q BK112) hb); clear hb hbox hg; have hnb6 := NB112_113.out; have hnc6 := NB113_112.out; have hcz7_0 : w5.cell? ⟨gb112, 0, none⟩ = some (.int .i64 a0_0) := (blk_cell BK112.out 0).trans rfl; have hcz7_1 : w5.cell? ⟨gb112, 1, none⟩ = some (.int .i64 a0_1) := (blk_cell BK112.out 1).trans rfl; have hcz7_2 : w5.cell? ⟨gb112, 2, none⟩ = some (.int .i64 a0_2) := (blk_cell BK112.out 2).trans rfl; have hcz7_3 : w5.cell? ⟨gb112, 3, none⟩ = some (.bool a0_3) := (blk_cell BK112.out 3).trans rfl; have hfz7_0 := blk_frozen BK112.out 0; have hfz7_1 := blk_frozen BK112.out 1; have hfz7_2 := blk_frozen BK112.out 2; have hfz7_3 := blk_frozen BK112.out 3; have hcz8_0 : w5.cell? ⟨gb113, 0, none⟩ = some (.int .i64 a1_0) := (blk_cell BK113.out 0).trans rfl; have hcz8_1 : w5.cell? ⟨gb113, 1, none⟩ = some (.int .i64 a1_1) := (blk_cell BK113.out 1).trans rfl; have hcz8_2 : w5.cell? ⟨gb113, 2, none⟩ = some (.int .i64 a1_2) := (blk_cell BK113.out 2).trans rfl; have hcz8_3 : w5.cell? ⟨gb113, 3, none⟩ = some (.bool a1_3) := (blk_cell BK113.out 3).trans rfl; have hfz8_0 := blk_frozen BK113.out 0; have hfz8_1 := blk_frozen BK113.out 1; have hfz8_2 := blk_frozen BK113.out 2; have hfz8_3 := blk_frozen BK113.out 3))
  go_ret
  exact ⟨er_q, bw_q HB⟩
 ·rw [if_neg c3] at H
  have c3b0 : decide (a0_1 < a1_1) = false := decide_eq_false c3
  clear c3
  by_cases c9 : a0_1 = a1_1
  ·rw [if_pos c9] at H
   have c9b0 : (a0_1 == a1_1) = true := beq_iff_eq.mpr c9
   have c9b1 : (a0_1 != a1_1) = false := bne_eq_false_iff_eq.mpr c9
   clear c9
   obtain rfl := Option.some.inj H
   go_enter Try.func78, Try.ntmps78
   go_wp2_with (first | ((with_reducible refine gate_dst (N := 2) rfl ?_); refine box_q 2 #[.int .i64 a0_0, .int .i64 a0_1, .int .i64 a0_2, .bool a0_3] 102 ?_; intro gb112 hg w10 hbox hb; have BK112 := Aside0.mk (hbox); have GW112 := Aside0.mk ((by rw [hg]; exact (below_size (bw_q HB)) : w.heap.size ≤ gb112)); have GE112 := Aside0.mk ((by rw [hg]; exact (below_size (bw_q HB)) : w.heap.size ≤ gb112)); replace HB := Aside0.mk (below_step (bw_q HB) hb); clear hb hbox hg) | ((with_reducible refine gate_dst (N := 3) rfl ?_); refine box_q 3 #[.int .i64 a1_0, .int .i64 a1_1, .int .i64 a1_2, .bool a1_3] 102 ?_; intro gb113 hg w11 hbox hb; have BK113 := Aside0.mk (hbox); have GW113 := Aside0.mk ((by rw [hg]; exact (below_size (bw_q HB)) : w.heap.size ≤ gb113)); have GE113 := Aside0.mk ((by rw [hg]; exact (below_size (bw_q HB)) : w.heap.size ≤ gb113)); replace HB := Aside0.mk (below_step (bw_q HB) hb); have NB112_113 := Aside0.mk ((by rw [hg]; exact Nat.ne_of_lt (blk_lt (g := gb112) (o := .cells #[.int .i64 a0_0, .int .i64 a0_1, .int .i64 a0_2, .bool a0_3] 102 (0, 0)) (bk_q BK112)) : gb112 ≠ gb113)); have NB113_112 := Aside0.mk ((by rw [hg]; exact Nat.ne_of_gt (blk_lt (g := gb112) (o := .cells #[.int .i64 a0_0, .int .i64 a0_1, .int .i64 a0_2, .bool a0_3] 102 (0, 0)) (bk_q BK112)) : gb113 ≠ gb112)); replace BK112 := Aside0.mk (blk_below (g := gb112) (bk_q BK112) hb); clear hb hbox hg; have hnb12 := NB112_113.out; have hnc12 := NB113_112.out; have hcz13_0 : w11.cell? ⟨gb112, 0, none⟩ = some (.int .i64 a0_0) := (blk_cell BK112.out 0).trans rfl; have hcz13_1 : w11.cell? ⟨gb112, 1, none⟩ = some (.int .i64 a0_1) := (blk_cell BK112.out 1).trans rfl; have hcz13_2 : w11.cell? ⟨gb112, 2, none⟩ = some (.int .i64 a0_2) := (blk_cell BK112.out 2).trans rfl; have hcz13_3 : w11.cell? ⟨gb112, 3, none⟩ = some (.bool a0_3) := (blk_cell BK112.out 3).trans rfl; have hfz13_0 := blk_frozen BK112.out 0; have hfz13_1 := blk_frozen BK112.out 1; have hfz13_2 := blk_frozen BK112.out 2; have hfz13_3 := blk_frozen BK112.out 3; have hcz14_0 : w11.cell? ⟨gb113, 0, none⟩ = some (.int .i64 a1_0) := (blk_cell BK113.out 0).trans rfl; have hcz14_1 : w11.cell? ⟨gb113, 1, none⟩ = some (.int .i64 a1_1) := (blk_cell BK113.out 1).trans rfl; have hcz14_2 : w11.cell? ⟨gb113, 2, none⟩ = some (.int .i64 a1_2) := (blk_cell BK113.out 2).trans rfl; have hcz14_3 : w11.cell? ⟨gb113, 3, none⟩ = some (.bool a1_3) := (blk_cell BK113.out 3).trans rfl; have hfz14_0 := blk_frozen BK113.out 0; have hfz14_1 := blk_frozen BK113.out 1; have hfz14_2 := blk_frozen BK113.out 2; have hfz14_3 := blk_frozen BK113.out 3))
   go_ret
   exact ⟨er_q, bw_q HB⟩
  ·rw [if_neg c9] at H
   have c9b0 : (a0_1 == a1_1) = false := beq_eq_false_iff_ne.mpr c9
   have c9b1 : (a0_1 != a1_1) = true := bne_iff_ne.mpr c9
   obtain rfl := Option.some.inj H
   go_enter Try.func78, Try.ntmps78
   go_wp2_with (first | ((with_reducible refine gate_dst (N := 2) rfl ?_); refine box_q 2 #[.int .i64 a0_0, .int .i64 a0_1, .int .i64 a0_2, .bool a0_3] 102 ?_; intro gb112 hg w15 hbox hb; have BK112 := Aside0.mk (hbox); have GW112 := Aside0.mk ((by rw [hg]; exact (below_size (bw_q HB)) : w.heap.size ≤ gb112)); have GE112 := Aside0.mk ((by rw [hg]; exact (below_size (bw_q HB)) : w.heap.size ≤ gb112)); replace HB := Aside0.mk (below_step (bw_q HB) hb); clear hb hbox hg) | ((with_reducible refine gate_dst (N := 3) rfl ?_); refine box_q 3 #[.int .i64 a1_0, .int .i64 a1_1, .int .i64 a1_2, .bool a1_3] 102 ?_; intro gb113 hg w16 hbox hb; have BK113 := Aside0.mk (hbox); have GW113 := Aside0.mk ((by rw [hg]; exact (below_size (bw_q HB)) : w.heap.size ≤ gb113)); have GE113 := Aside0.mk ((by rw [hg]; exact (below_size (bw_q HB)) : w.heap.size ≤ gb113)); replace HB := Aside0.mk (below_step (bw_q HB) hb); have NB112_113 := Aside0.mk ((by rw [hg]; exact Nat.ne_of_lt (blk_lt (g := gb112) (o := .cells #[.int .i64 a0_0, .int .i64 a0_1, .int .i64 a0_2, .bool a0_3] 102 (0, 0)) (bk_q BK112)) : gb112 ≠ gb113)); have NB113_112 := Aside0.mk ((by rw [hg]; exact Nat.ne_of_gt (blk_lt (g := gb112) (o := .cells #[.int .i64 a0_0, .int .i64 a0_1, .int .i64 a0_2, .bool a0_3] 102 (0, 0)) (bk_q BK112)) : gb113 ≠ gb112)); replace BK112 := Aside0.mk (blk_below (g := gb112) (bk_q BK112) hb); clear hb hbox hg; have hnb17 := NB112_113.out; have hnc17 := NB113_112.out; have hcz18_0 : w16.cell? ⟨gb112, 0, none⟩ = some (.int .i64 a0_0) := (blk_cell BK112.out 0).trans rfl; have hcz18_1 : w16.cell? ⟨gb112, 1, none⟩ = some (.int .i64 a0_1) := (blk_cell BK112.out 1).trans rfl; have hcz18_2 : w16.cell? ⟨gb112, 2, none⟩ = some (.int .i64 a0_2) := (blk_cell BK112.out 2).trans rfl; have hcz18_3 : w16.cell? ⟨gb112, 3, none⟩ = some (.bool a0_3) := (blk_cell BK112.out 3).trans rfl; have hfz18_0 := blk_frozen BK112.out 0; have hfz18_1 := blk_frozen BK112.out 1; have hfz18_2 := blk_frozen BK112.out 2; have hfz18_3 := blk_frozen BK112.out 3; have hcz19_0 : w16.cell? ⟨gb113, 0, none⟩ = some (.int .i64 a1_0) := (blk_cell BK113.out 0).trans rfl; have hcz19_1 : w16.cell? ⟨gb113, 1, none⟩ = some (.int .i64 a1_1) := (blk_cell BK113.out 1).trans rfl; have hcz19_2 : w16.cell? ⟨gb113, 2, none⟩ = some (.int .i64 a1_2) := (blk_cell BK113.out 2).trans rfl; have hcz19_3 : w16.cell? ⟨gb113, 3, none⟩ = some (.bool a1_3) := (blk_cell BK113.out 3).trans rfl; have hfz19_0 := blk_frozen BK113.out 0; have hfz19_1 := blk_frozen BK113.out 1; have hfz19_2 := blk_frozen BK113.out 2; have hfz19_3 := blk_frozen BK113.out 3))
   go_ret
   exact ⟨er_q, bw_q HB⟩

end Go.Proofs.Ythjmdiggglkeaaa.Q

/- A Go function as a Lean function, and its contract: for every input the Go code comes to what the Lean function tells. -/


namespace Go.Proofs.Ythjmdiggglkeaaa.Q
open Go.RowKit Go.Proofs.YthjmdiggglkeaaaW.PrintWords Go.Proofs.YthjmdiggglkeaaaW.PrintLast Go.Proofs.YthjmdiggglkeaaaW.PrintMore
attribute [local go_sem] max2_int min2_int max_two min_two max_three min_three max_four min_four   -- for this text's walks alone
set_option linter.unusedVariables false
set_option linter.unusedSimpArgs false

/-! ### spec_l03PutThing: function 146 -/
mutual
def spec_l03PutThing.l0 : Nat → List (S102) → List (S102) → Int → Int → Int → Int → Bool → Option ((List (S102)))
 | 0, _, _, _, _, _, _, _ => none
 | k + 1, x0, x5, x6, x1599000, x1599001, x1599002, x1599003 => if x6 < (x0.length : Int) then (if 0 ≤ x6 then ((spec_l03Thing.f ((rd_T102 x0 x6).f0) ((rd_T102 x0 x6).f1) ((rd_T102 x0 x6).f2) ((rd_T102 x0 x6).f3) x1599000 x1599001 x1599002 x1599003).bind fun t1603 => (if t1603 = true then (if x5.length < 4398046511104 then (spec_l03PutThing.l0 k x0 (x5 ++ [(⟨(rd_T102 x0 x6).f0, (rd_T102 x0 x6).f1, (rd_T102 x0 x6).f2, (rd_T102 x0 x6).f3⟩ : S102)]) (wrap64 (x6 + 1)) x1599000 x1599001 x1599002 x1599003) else (none)) else (spec_l03PutThing.l0 k x0 x5 (wrap64 (x6 + 1)) x1599000 x1599001 x1599002 x1599003))) else (none)) else (if x5.length < 4398046511104 then (spec_l03PutThing.l1 k x0 (x5 ++ [(⟨x1599000, x1599001, x1599002, x1599003⟩ : S102)]) 0 x1599000 x1599001 x1599002 x1599003) else (none))
def spec_l03PutThing.l1 : Nat → List (S102) → List (S102) → Int → Int → Int → Int → Bool → Option ((List (S102)))
 | 0, _, _, _, _, _, _, _ => none
 | k + 1, x0, x5, x7, x1599000, x1599001, x1599002, x1599003 => if x7 < (x0.length : Int) then (if 0 ≤ x7 then ((spec_l03Thing.f x1599000 x1599001 x1599002 x1599003 ((rd_T102 x0 x7).f0) ((rd_T102 x0 x7).f1) ((rd_T102 x0 x7).f2) ((rd_T102 x0 x7).f3)).bind fun t1612 => (if t1612 = true then (if x5.length < 4398046511104 then (spec_l03PutThing.l1 k x0 (x5 ++ [(⟨(rd_T102 x0 x7).f0, (rd_T102 x0 x7).f1, (rd_T102 x0 x7).f2, (rd_T102 x0 x7).f3⟩ : S102)]) (wrap64 (x7 + 1)) x1599000 x1599001 x1599002 x1599003) else (none)) else (spec_l03PutThing.l1 k x0 x5 (wrap64 (x7 + 1)) x1599000 x1599001 x1599002 x1599003))) else (none)) else (some x5)
end
def spec_l03PutThing.f (k : Nat) (l0 : List (S102)) (a1_0 : Int) (a1_1 : Int) (a1_2 : Int) (a1_3 : Bool) : Option ((List (S102))) := spec_l03PutThing.l0 k l0 (([] : List (S102))) 0 a1_0 a1_1 a1_2 a1_3
theorem spec_l03PutThing.mono_l : ∀ k, (∀ y0 y1 y2 y3 y4 y5 y6, LeO (spec_l03PutThing.l0 k y0 y1 y2 y3 y4 y5 y6) (spec_l03PutThing.l0 (k + 1) y0 y1 y2 y3 y4 y5 y6)) ∧ (∀ y0 y1 y2 y3 y4 y5 y6, LeO (spec_l03PutThing.l1 k y0 y1 y2 y3 y4 y5 y6) (spec_l03PutThing.l1 (k + 1) y0 y1 y2 y3 y4 y5 y6))
 | 0 => ⟨fun _ _ _ _ _ _ _ r h => by simp [spec_l03PutThing.l0] at h, fun _ _ _ _ _ _ _ r h => by simp [spec_l03PutThing.l1] at h⟩
 | k + 1 => by
  obtain ⟨ih0, ih1⟩ := spec_l03PutThing.mono_l k
  refine ⟨?_, ?_⟩
  ·intro y0 y1 y2 y3 y4 y5 y6
   unfold spec_l03PutThing.l0
   repeat' first
   | (with_reducible exact ih0 _ _ _ _ _ _ _)
   | (with_reducible exact ih1 _ _ _ _ _ _ _)
   | (with_reducible exact LeO.refl _)
   | (with_reducible exact LeO.none _)
   | (with_reducible refine LeO.ite ?_ ?_)
   | (with_reducible refine LeO.bind ?_ (fun _ => ?_))
   | exact ih0 _ _ _ _ _ _ _
   | exact ih1 _ _ _ _ _ _ _
   | exact LeO.none _
   | refine LeO.ite ?_ ?_
   | refine LeO.bind ?_ (fun _ => ?_)
  ·intro y0 y1 y2 y3 y4 y5 y6
   unfold spec_l03PutThing.l1
   repeat' first
   | (with_reducible exact ih0 _ _ _ _ _ _ _)
   | (with_reducible exact ih1 _ _ _ _ _ _ _)
   | (with_reducible exact LeO.refl _)
   | (with_reducible exact LeO.none _)
   | (with_reducible refine LeO.ite ?_ ?_)
   | (with_reducible refine LeO.bind ?_ (fun _ => ?_))
   | exact ih0 _ _ _ _ _ _ _
   | exact ih1 _ _ _ _ _ _ _
   | exact LeO.none _
   | refine LeO.ite ?_ ?_
   | refine LeO.bind ?_ (fun _ => ?_)
theorem spec_l03PutThing.mono : ∀ a0 a1 a2 a3 a4 k, LeO (spec_l03PutThing.f k a0 a1 a2 a3 a4) (spec_l03PutThing.f (k + 1) a0 a1 a2 a3 a4) := by
 intro a0 a1 a2 a3 a4 k
 obtain ⟨ih0, ih1⟩ := spec_l03PutThing.mono_l k
 unfold spec_l03PutThing.f
 repeat' first
   | (with_reducible exact ih0 _ _ _ _ _ _ _)
   | (with_reducible exact ih1 _ _ _ _ _ _ _)
   | (with_reducible exact LeO.refl _)
   | (with_reducible exact LeO.none _)
   | (with_reducible refine LeO.ite ?_ ?_)
   | (with_reducible refine LeO.bind ?_ (fun _ => ?_))
   | exact ih0 _ _ _ _ _ _ _
   | exact ih1 _ _ _ _ _ _ _
   | exact LeO.none _
   | refine LeO.ite ?_ ?_
   | refine LeO.bind ?_ (fun _ => ?_)
set_option maxHeartbeats 8000000 in
set_option maxRecDepth 100000 in
theorem spec_l03PutThing.calls (k : Nat) (A0 : Option Addr) (c0 : Nat) (l0 : List (S102)) (a1_0 : Int) (a1_1 : Int) (a1_2 : Int) (a1_3 : Bool) (r : List (S102)) (w : World) (hr0 : Kd.C k102 w A0 l0.length l0) (hc0 : l0.length ≤ c0) (h : spec_l03PutThing.f k l0 a1_0 a1_1 a1_2 a1_3 = some r) :
  Calls Try.prog 146 #[.slice A0 l0.length c0, .agg #[.int .i64 a1_0, .int .i64 a1_1, .int .i64 a1_2, .bool a1_3]] w fun e w' => ∃ v0_ : Value, e = .returned (v0_) ∧ Kd.R k102 102 w' w.heap.size (fun _ => True) v0_ r ∧ Below w.heap.size w w' := by
 have hu102 := Try.underlying102
 have HR0 := Aside0.mk hr0
 have HC0 := Aside0.mk hc0
 clear hr0 hc0
 have HB := Aside0.mk (Below.refl w.heap.size w)
 have H : (spec_l03PutThing.l0 k l0 (([] : List (S102))) 0 a1_0 a1_1 a1_2 a1_3) = some r := h
 clear h
 obtain ⟨y1599, hy1599⟩ : ∃ y_ : List (S102), y_ = (([] : List (S102))) := ⟨_, rfl⟩
 replace H : (spec_l03PutThing.l0 k l0 y1599 0 a1_0 a1_1 a1_2 a1_3) = some r := by first | (rw [hy1599]; with_reducible exact H) | (have H2_ := (Option.bind_some _ _).symm.trans H; rw [hy1599]; with_reducible exact H2_) | (have H2_ := (Option.bind_some _ _).symm.trans H; with_reducible exact H2_) | with_reducible exact H | (rw [hy1599]; exact H) | exact H
 have Ny1599 := Aside0.mk hy1599
 clear hy1599
 have H' := Aside0.mk H
 clear H
 go_enter Try.func146, Try.ntmps146
 go_wp2_with (first | ((with_reducible refine gate_dst (N := 3) rfl ?_); refine box_q 3 #[.int .i64 a1_0, .int .i64 a1_1, .int .i64 a1_2, .bool a1_3] 102 ?_; intro gb1598 hg w3 hbox hb; have BK1598 := Aside0.mk (hbox); have GW1598 := Aside0.mk ((by rw [hg]; exact (below_size (bw_q HB)) : w.heap.size ≤ gb1598)); have GE1598 := Aside0.mk ((by rw [hg]; exact (below_size (bw_q HB)) : w.heap.size ≤ gb1598)); replace HB := Aside0.mk (below_step (bw_q HB) hb); clear hb hbox hg) | ((with_reducible refine gate_dst (N := 8) rfl ?_); refine Kd.R_lit k102 _ 102 ?hg (N := 8) ?hd (xs := ([] : List (S102))) (inner := []) (ok := fun _ => True) (okp := fun _ => True) ?hr ?hp (fun _ hk => hk) trivial (Below.refl _ _) (Nat.le_refl _) (by simp) ?_; (case hd => rfl); (case hg => rfl); (case hr => first | (go_simp; done) | (go_simp; rfl)); (case hp => exact (Reps.none _ _)); intro v1600 w4 ho5 hb hg_ hnew_; clear hg_ hnew_; (first | rw [← Ny1599.out] at ho5 | (simp only [Int.reduceToNat] at ho5; rw [← Ny1599.out] at ho5)); have HO1601 := Aside0.mk (Kd.R_lower (Kd.R_newB ho5 (g := gb1598) (o := .cells #[.int .i64 a1_0, .int .i64 a1_1, .int .i64 a1_2, .bool a1_3] 102 (0, 0)) (bk_q BK1598)) (below_size (bw_q HB))); replace BK1598 := Aside0.mk (blk_below (g := gb1598) (bk_q BK1598) hb); replace HB := Aside0.mk (below_step (bw_q HB) hb); clear hb ho5))
 go_loopg [5, 6] k (fun kq v5 v6 w' => ∃ (x5_1 : List (S102)) (x6_1 : Int), v6 = .int .i64 x6_1 ∧ Aside0 (spec_l03PutThing.l0 kq l0 x5_1 x6_1 a1_0 a1_1 a1_2 a1_3 = some r) ∧ Aside0 (kq ≤ k) ∧ Aside0 (Kd.R k102 102 w' w.heap.size (fun k_ => k_ ≠ gb1598) v5 x5_1) ∧ Aside0 (w'.heap[gb1598]? = some (.cells #[.int .i64 a1_0, .int .i64 a1_1, .int .i64 a1_2, .bool a1_3] 102 (0, 0))) ∧ Aside0 (Below w.heap.size w w'))
 case atStart => exact ⟨(y1599), (0), (by first | rfl | (simp; done) | (simp [*]; done)), H', ⟨Nat.le_refl _⟩, ⟨by (with_reducible repeat (first | apply Kd.R_alloc | apply Kd.R_drewN | apply Kd.R_drew)); exact Kd.R_mono HO1601.out (fun _ hk => hk.2)⟩, ⟨by refine bz_ ?_; exact BK1598.out⟩, ⟨bw_q HB⟩⟩
 case round =>
  clear H'
  try clear c1
  try clear p2
  obtain ⟨x5_1, x6_1, rfl, HA, HK1, HO_5, BK1598, HB⟩ := hrel
  cases gk with
  | zero => exact absurd HA.out (by simp [spec_l03PutThing.l0])
  | succ k1 =>
   have H := HA.out
   clear HA
   simp only [spec_l03PutThing.l0] at H
   by_cases c6 : x6_1 < (l0.length : Int)
   ·rw [if_pos c6] at H
    have c6b0 : decide (x6_1 < (l0.length : Int)) = true := decide_eq_true c6
    clear c6
    by_cases c7 : 0 ≤ x6_1
    ·rw [if_pos c7] at H
     have c7b0 : decide (0 ≤ x6_1) = true := decide_eq_true c7
     clear c7
     replace H := Option.bind_eq_some_iff.mp H
     obtain ⟨t1603, A80, H⟩ := H
     replace H : (if t1603 = true then (if x5_1.length < 4398046511104 then (spec_l03PutThing.l0 k1 l0 (x5_1 ++ [(⟨(rd_T102 l0 x6_1).f0, (rd_T102 l0 x6_1).f1, (rd_T102 l0 x6_1).f2, (rd_T102 l0 x6_1).f3⟩ : S102)]) (wrap64 (x6_1 + 1)) a1_0 a1_1 a1_2 a1_3) else (none)) else (spec_l03PutThing.l0 k1 l0 x5_1 (wrap64 (x6_1 + 1)) a1_0 a1_1 a1_2 a1_3)) = some r := H
     have A8 := Aside0.mk A80
     clear A80
     have HZ41 := Aside0.mk H
     clear H
     try go_wp2
     replace HO_5 := Aside0.mk (Kd.R_drew HO_5.out)
     replace BK1598 := Aside0.mk (blk_drew BK1598.out)
     replace HB := Aside0.mk (below_drew1 HB.out)
     have p1602 : 0 ≤ (x6_1 : Int) := of_decide_eq_true as_q
     have q1602 : x6_1 < (l0.length : Int) := of_decide_eq_true as_q
     obtain ⟨ad1602, e1602, hx1602_0, hx1602_1, hx1602_2, hx1602_3⟩ := at_T102 HR0.out x6_1 p1602 q1602
     have hw1602_3 := hx1602_3
     have hw1602_2 := hx1602_2
     have hw1602_1 := hx1602_1
     have hw1602_0 := hx1602_0
     cases e1602
     replace hx1602_0 := (HB.out.cell (World.block_lt_of_cell? w _ hx1602_0)).trans hx1602_0
     replace hx1602_1 := (HB.out.cell (World.block_lt_of_cell? w _ hx1602_1)).trans hx1602_1
     replace hx1602_2 := (HB.out.cell (World.block_lt_of_cell? w _ hx1602_2)).trans hx1602_2
     replace hx1602_3 := (HB.out.cell (World.block_lt_of_cell? w _ hx1602_3)).trans hx1602_3
     replace p1602 := eq_true p1602
     replace q1602 := eq_true q1602
     refine start_ (n := 6) (S := fun w' => w'.cell? ⟨gb1598, 0, none⟩ = some (.int .i64 a1_0) ∧ w'.cell? ⟨gb1598, 1, none⟩ = some (.int .i64 a1_1) ∧ w'.cell? ⟨gb1598, 2, none⟩ = some (.int .i64 a1_2) ∧ w'.cell? ⟨gb1598, 3, none⟩ = some (.bool a1_3) ∧ w'.cell? (ad1602.add ((x6_1).toNat * 4)) = some (.int .i64 ((rd_T102 l0 x6_1).f0)) ∧ w'.cell? ⟨(ad1602.add ((x6_1).toNat * 4)).block, (ad1602.add ((x6_1).toNat * 4)).off + 1, none⟩ = some (.int .i64 ((rd_T102 l0 x6_1).f1)) ∧ w'.cell? ⟨(ad1602.add ((x6_1).toNat * 4)).block, (ad1602.add ((x6_1).toNat * 4)).off + 2, none⟩ = some (.int .i64 ((rd_T102 l0 x6_1).f2)) ∧ w'.cell? ⟨(ad1602.add ((x6_1).toNat * 4)).block, (ad1602.add ((x6_1).toNat * 4)).off + 3, none⟩ = some (.bool ((rd_T102 l0 x6_1).f3))) (ds := []) (bL 6 0) (by kernel_rfl) rfl rfl ⟨(blk_cell BK1598.out 0).trans rfl, (blk_cell BK1598.out 1).trans rfl, (blk_cell BK1598.out 2).trans rfl, (blk_cell BK1598.out 3).trans rfl, ((HB.out.cell (World.block_lt_of_cell? w _ hw1602_0)).trans hw1602_0), ((HB.out.cell (World.block_lt_of_cell? w _ hw1602_1)).trans hw1602_1), ((HB.out.cell (World.block_lt_of_cell? w _ hw1602_2)).trans hw1602_2), ((HB.out.cell (World.block_lt_of_cell? w _ hw1602_3)).trans hw1602_3)⟩ (fun hHeld => ?_)
     generalize wr.drew = w11 at HO_5 BK1598 HB hx1602_0 hx1602_1 hx1602_2 hx1602_3 hHeld ⊢
     refine pr_ 0 15 (bL 6 1) rfl rfl ?_
     refine pr_ 1 16 (bL 6 3) rfl rfl ?_
     refine pr_ 2 17 (bL 6 7) rfl rfl ?_
     refine take_ (i := 3) (N := some 18) (v := ?_) (a' := ?_) (bL 6 15) rfl rfl (by kernel_rfl) (fun _ _ _ h => h) (Or.inl ⟨by rfl, ?_⟩) hHeld ?_ ?_; rotate_left; (rintro w' ⟨s0, s1, s2, s3, s4, s5, s6, s7⟩; go_simp; with_reducible rfl); rotate_left; (exact put_q)
     refine take_ (i := 4) (N := some 19) (v := ?_) (a' := ?_) (bL 6 31) rfl rfl (by kernel_rfl) (fun _ _ _ h => h) (Or.inl ⟨by rfl, ?_⟩) hHeld ?_ ?_; rotate_left; (rintro w' ⟨s0, s1, s2, s3, s4, s5, s6, s7⟩; go_simp; with_reducible rfl); rotate_left; (exact put_q)
     refine one_ (i := 5) (N := some 20) (bL 6 63) rfl rfl (by kernel_rfl) (by decide) (fun K hK => ?_)
     refine goes_ Try.func78 (by kernel_rfl) rfl #[.agg #[.int .i64 ((rd_T102 l0 x6_1).f0), .int .i64 ((rd_T102 l0 x6_1).f1), .int .i64 ((rd_T102 l0 x6_1).f2), .bool ((rd_T102 l0 x6_1).f3)], .agg #[.int .i64 a1_0, .int .i64 a1_1, .int .i64 a1_2, .bool a1_3]] (by rfl) rfl rfl mp_q ?_
     with_reducible refine (spec_l03Thing.calls ((rd_T102 l0 x6_1).f0) ((rd_T102 l0 x6_1).f1) ((rd_T102 l0 x6_1).f2) ((rd_T102 l0 x6_1).f3) a1_0 a1_1 a1_2 a1_3 t1603 _ A8.out).mono ?_
     rintro e w12 ⟨rfl, hb⟩
     refine ⟨_, rfl, ?_⟩
     replace HO_5 := Aside0.mk (Kd.R_below (kR_q HO_5) hb)
     replace BK1598 := Aside0.mk (blk_below (g := gb1598) (bk_q BK1598) hb)
     replace HB := Aside0.mk (below_step (bw_q HB) hb)
     (try clear hb)
     (try clear hb2)
     (try clear hk)
     (try clear hi)
     refine hK.out _ _ ⟨(blk_cell BK1598.out 0).trans rfl, (blk_cell BK1598.out 1).trans rfl, (blk_cell BK1598.out 2).trans rfl, (blk_cell BK1598.out 3).trans rfl, ((HB.out.cell (World.block_lt_of_cell? w _ hw1602_0)).trans hw1602_0), ((HB.out.cell (World.block_lt_of_cell? w _ hw1602_1)).trans hw1602_1), ((HB.out.cell (World.block_lt_of_cell? w _ hw1602_2)).trans hw1602_2), ((HB.out.cell (World.block_lt_of_cell? w _ hw1602_3)).trans hw1602_3)⟩ (fun hHeld => ?_)
     clear hK K
     refine norm_ (a' := ?_) ?_ ?_; rotate_left; (show Act.put _ (some 20) _ = _; simp only [Act.put, List.setIfInBounds_toArray, List.set_cons_zero, List.set_cons_succ, i64_w, i32_w]; rfl)
     have H := HZ41.out
     clear HZ41
     by_cases c9 : t1603 = true
     ·subst c9
      have H1 : (if x5_1.length < 4398046511104 then (spec_l03PutThing.l0 k1 l0 (x5_1 ++ [(⟨(rd_T102 l0 x6_1).f0, (rd_T102 l0 x6_1).f1, (rd_T102 l0 x6_1).f2, (rd_T102 l0 x6_1).f3⟩ : S102)]) (wrap64 (x6_1 + 1)) a1_0 a1_1 a1_2 a1_3) else (none)) = some r := by rw [if_pos rfl] at H; exact H
      clear H
      have H := H1
      clear H1
      by_cases c10 : x5_1.length < 4398046511104
      ·rw [if_pos c10] at H
       have LMc10 := Aside0.mk c10
       clear c10
       obtain ⟨y1605, hy1605⟩ : ∃ y_ : List (S102), y_ = (x5_1 ++ [(⟨(rd_T102 l0 x6_1).f0, (rd_T102 l0 x6_1).f1, (rd_T102 l0 x6_1).f2, (rd_T102 l0 x6_1).f3⟩ : S102)]) := ⟨_, rfl⟩
       replace H : (spec_l03PutThing.l0 k1 l0 y1605 (wrap64 (x6_1 + 1)) a1_0 a1_1 a1_2 a1_3) = some r := by first | (rw [hy1605]; with_reducible exact H) | (have H2_ := (Option.bind_some _ _).symm.trans H; rw [hy1605]; with_reducible exact H2_) | (have H2_ := (Option.bind_some _ _).symm.trans H; with_reducible exact H2_) | with_reducible exact H | (rw [hy1605]; exact H) | exact H
       have Ny1605 := Aside0.mk hy1605
       clear hy1605
       have H' := Aside0.mk H
       clear H
       refine done_ (by kernel_rfl) ?_
       have p1604 : 0 ≤ (x6_1 : Int) := of_decide_eq_true as_q
       have q1604 : x6_1 < (l0.length : Int) := of_decide_eq_true as_q
       obtain ⟨ad1604, e1604, hx1604_0, hx1604_1, hx1604_2, hx1604_3⟩ := at_T102 HR0.out x6_1 p1604 q1604
       obtain rfl : ad1602 = ad1604 := (by injection e1604)
       replace hx1604_0 := (HB.out.cell (World.block_lt_of_cell? w _ hx1604_0)).trans hx1604_0
       replace hx1604_1 := (HB.out.cell (World.block_lt_of_cell? w _ hx1604_1)).trans hx1604_1
       replace hx1604_2 := (HB.out.cell (World.block_lt_of_cell? w _ hx1604_2)).trans hx1604_2
       replace hx1604_3 := (HB.out.cell (World.block_lt_of_cell? w _ hx1604_3)).trans hx1604_3
       replace p1604 := eq_true p1604
       replace q1604 := eq_true q1604
       try go_wp2_with (first | ((with_reducible refine gate_builtin (b := .append) (xs := #[.tmp 21, .tmp 26]) rfl ?_); at_builtin; refine Kd.R_append k102 (w0 := w) w.heap.size rfl (.tmp 21) (.tmp 26) 29 102 (.agg #[(.int .i64 0), (.int .i64 0), (.int .i64 0), (.bool false)]) 32 rfl Try.underlying29 info102 rfl (by decide) (by omega) u5 x5_1 (⟨(rd_T102 l0 x6_1).f0, (rd_T102 l0 x6_1).f1, (rd_T102 l0 x6_1).f2, (rd_T102 l0 x6_1).f3⟩ : S102) [.int .i64 ((rd_T102 l0 x6_1).f0), .int .i64 ((rd_T102 l0 x6_1).f1), .int .i64 ((rd_T102 l0 x6_1).f2), .bool ((rd_T102 l0 x6_1).f3)] (fun k_ => k_ ≠ gb1598) (fun _ => False) rfl rfl ?aP (fun _ hk => hk.elim) ?aF ?aO ?aB ?aS ?aL ?_; (case aP => exact k102_mkM _ _ _ (⟨(rd_T102 l0 x6_1).f0, (rd_T102 l0 x6_1).f1, (rd_T102 l0 x6_1).f2, (rd_T102 l0 x6_1).f3⟩ : S102)); (case aB => exact (bw_q HB)); (case aF => exact (fun k_ hk => Kd.freshB (g := gb1598) (o := .cells #[.int .i64 a1_0, .int .i64 a1_1, .int .i64 a1_2, .bool a1_3] 102 (0, 0)) (bk_q BK1598) k_ hk)); (case aO => exact (kR_q HO_5)); (case aS => exact (below_size (bw_q HB))); (case aL => have := LMc10.out; omega); intro v1606 w13 ho hb hg hat; rw [← Ny1605.out] at ho; replace BK1598 := Aside0.mk (blk_grown (g := gb1598) (o := .cells #[.int .i64 a1_0, .int .i64 a1_1, .int .i64 a1_2, .bool a1_3] 102 (0, 0)) (bk_q BK1598) hg (Kd.R_away HO_5.out (fun _ hk => hk))); replace HB := Aside0.mk (hb); have HO1607 := Aside0.mk (ho); clear HO_5; clear ho hb hg hat))
       go_roundg k1
       case measure => have := HK1.out; omega
       case rel => exact ⟨(y1605), (wrap64 (x6_1 + 1)), (by first | rfl | (simp; done) | (simp [*]; done)), H', ⟨by have := HK1.out; omega⟩, ⟨by (with_reducible repeat (first | apply Kd.R_alloc | apply Kd.R_drewN | apply Kd.R_drew)); exact HO1607.out⟩, ⟨by refine bz_ ?_; exact BK1598.out⟩, ⟨bw_q HB⟩⟩
      ·rw [if_neg c10] at H
       exact absurd H (by simp)
     ·replace c9 := Bool.eq_false_iff.mpr c9
      subst c9
      have H1 : (spec_l03PutThing.l0 k1 l0 x5_1 (wrap64 (x6_1 + 1)) a1_0 a1_1 a1_2 a1_3) = some r := by rw [if_neg (show ¬ (false = true) by decide)] at H; exact H
      clear H
      have H := H1
      clear H1
      have H' := Aside0.mk H
      clear H
      refine done_ (by kernel_rfl) ?_
      try go_wp2
      go_roundg k1
      case measure => have := HK1.out; omega
      case rel => exact ⟨(x5_1), (wrap64 (x6_1 + 1)), (by first | rfl | (simp; done) | (simp [*]; done)), H', ⟨by have := HK1.out; omega⟩, ⟨by (with_reducible repeat (first | apply Kd.R_alloc | apply Kd.R_drewN | apply Kd.R_drew)); exact HO_5.out⟩, ⟨by refine bz_ ?_; exact BK1598.out⟩, ⟨bw_q HB⟩⟩
    ·rw [if_neg c7] at H
     exact absurd H (by simp)
   ·rw [if_neg c6] at H
    have c6b0 : decide (x6_1 < (l0.length : Int)) = false := decide_eq_false c6
    clear c6
    by_cases c16 : x5_1.length < 4398046511104
    ·rw [if_pos c16] at H
     have LMc16 := Aside0.mk c16
     clear c16
     obtain ⟨y1608, hy1608⟩ : ∃ y_ : List (S102), y_ = (x5_1 ++ [(⟨a1_0, a1_1, a1_2, a1_3⟩ : S102)]) := ⟨_, rfl⟩
     replace H : (spec_l03PutThing.l1 k1 l0 y1608 0 a1_0 a1_1 a1_2 a1_3) = some r := by first | (rw [hy1608]; with_reducible exact H) | (have H2_ := (Option.bind_some _ _).symm.trans H; rw [hy1608]; with_reducible exact H2_) | (have H2_ := (Option.bind_some _ _).symm.trans H; with_reducible exact H2_) | with_reducible exact H | (rw [hy1608]; exact H) | exact H
     have Ny1608 := Aside0.mk hy1608
     clear hy1608
     have H' := Aside0.mk H
     clear H
     obtain ⟨hcz17_0, hcz17_1, hcz17_2, hcz17_3⟩ := cz4_ BK1598
     obtain ⟨hfz17_0, hfz17_1, hfz17_2, hfz17_3⟩ := fz4_ BK1598
     go_wp2_with (first | ((with_reducible refine gate_builtin (b := .append) (xs := #[.tmp 28, .tmp 30]) rfl ?_); at_builtin; refine Kd.R_append k102 (w0 := w) w.heap.size rfl (.tmp 28) (.tmp 30) 29 102 (.agg #[(.int .i64 0), (.int .i64 0), (.int .i64 0), (.bool false)]) 32 rfl Try.underlying29 info102 rfl (by decide) (by omega) u5 x5_1 (⟨a1_0, a1_1, a1_2, a1_3⟩ : S102) [.int .i64 a1_0, .int .i64 a1_1, .int .i64 a1_2, .bool a1_3] (fun k_ => k_ ≠ gb1598) (fun _ => False) rfl rfl ?aP (fun _ hk => hk.elim) ?aF ?aO ?aB ?aS ?aL ?_; (case aP => exact k102_mkM _ _ _ (⟨a1_0, a1_1, a1_2, a1_3⟩ : S102)); (case aB => exact (bw_q HB)); (case aF => exact (fun k_ hk => Kd.freshB (g := gb1598) (o := .cells #[.int .i64 a1_0, .int .i64 a1_1, .int .i64 a1_2, .bool a1_3] 102 (0, 0)) (bk_q BK1598) k_ hk)); (case aO => exact (kR_q HO_5)); (case aS => exact (below_size (bw_q HB))); (case aL => have := LMc16.out; omega); intro v1609 w18 ho hb hg hat; rw [← Ny1608.out] at ho; replace BK1598 := Aside0.mk (blk_grown (g := gb1598) (o := .cells #[.int .i64 a1_0, .int .i64 a1_1, .int .i64 a1_2, .bool a1_3] 102 (0, 0)) (bk_q BK1598) hg (Kd.R_away HO_5.out (fun _ hk => hk))); replace HB := Aside0.mk (hb); have HO1610 := Aside0.mk (ho); clear HO_5; clear ho hb hg hat))
     go_loopg [5, 7] k1 (fun kq v5 v7 w' => ∃ (x5_2 : List (S102)) (x7_2 : Int), v7 = .int .i64 x7_2 ∧ Aside0 (spec_l03PutThing.l1 kq l0 x5_2 x7_2 a1_0 a1_1 a1_2 a1_3 = some r) ∧ Aside0 (kq ≤ k1) ∧ Aside0 (Kd.R k102 102 w' w.heap.size (fun k_ => k_ ≠ gb1598) v5 x5_2) ∧ Aside0 (w'.heap[gb1598]? = some (.cells #[.int .i64 a1_0, .int .i64 a1_1, .int .i64 a1_2, .bool a1_3] 102 (0, 0))) ∧ Aside0 (Below w.heap.size w w'))
     case atStart => exact ⟨(y1608), (0), (by first | rfl | (simp; done) | (simp [*]; done)), H', ⟨Nat.le_refl _⟩, ⟨by (with_reducible repeat (first | apply Kd.R_alloc | apply Kd.R_drewN | apply Kd.R_drew)); exact HO1610.out⟩, ⟨by refine bz_ ?_; exact BK1598.out⟩, ⟨bw_q HB⟩⟩
     case round =>
      clear H'
      try clear c1
      try clear p1
      try clear q1
      try clear hx1
      try clear p2
      try clear c6
      try clear c6b0
      try clear p6
      try clear c7
      try clear c7b0
      try clear c9
      try clear c10
      try clear c14
      try clear c16
      try clear p16
      try clear q16
      try clear hx16
      try clear hcz17_0
      try clear hcz17_1
      try clear hcz17_2
      try clear hcz17_3
      try clear hfz17_0
      try clear hfz17_1
      try clear hfz17_2
      try clear hfz17_3
      try clear hx1602_0
      try clear hx1602_1
      try clear hx1602_2
      try clear hx1602_3
      try clear hx1604_0
      try clear hx1604_1
      try clear hx1604_2
      try clear hx1604_3
      try clear p1602
      try clear p1604
      try clear p2
      try clear q1602
      try clear q1604
      obtain ⟨x5_2, x7_2, rfl, HA, HK2, HO_5, BK1598, HB⟩ := hrel
      cases gk with
      | zero => exact absurd HA.out (by simp [spec_l03PutThing.l1])
      | succ k2 =>
       have H := HA.out
       clear HA
       simp only [spec_l03PutThing.l1] at H
       by_cases c19 : x7_2 < (l0.length : Int)
       ·rw [if_pos c19] at H
        have c19b0 : decide (x7_2 < (l0.length : Int)) = true := decide_eq_true c19
        clear c19
        by_cases c20 : 0 ≤ x7_2
        ·rw [if_pos c20] at H
         have c20b0 : decide (0 ≤ x7_2) = true := decide_eq_true c20
         clear c20
         replace H := Option.bind_eq_some_iff.mp H
         obtain ⟨t1612, A210, H⟩ := H
         replace H : (if t1612 = true then (if x5_2.length < 4398046511104 then (spec_l03PutThing.l1 k2 l0 (x5_2 ++ [(⟨(rd_T102 l0 x7_2).f0, (rd_T102 l0 x7_2).f1, (rd_T102 l0 x7_2).f2, (rd_T102 l0 x7_2).f3⟩ : S102)]) (wrap64 (x7_2 + 1)) a1_0 a1_1 a1_2 a1_3) else (none)) else (spec_l03PutThing.l1 k2 l0 x5_2 (wrap64 (x7_2 + 1)) a1_0 a1_1 a1_2 a1_3)) = some r := H
         have A21 := Aside0.mk A210
         clear A210
         have HZ42 := Aside0.mk H
         clear H
         try go_wp2
         replace HO_5 := Aside0.mk (Kd.R_drew HO_5.out)
         replace BK1598 := Aside0.mk (blk_drew BK1598.out)
         replace HB := Aside0.mk (below_drew1 HB.out)
         have p1611 : 0 ≤ (x7_2 : Int) := of_decide_eq_true as_q
         have q1611 : x7_2 < (l0.length : Int) := of_decide_eq_true as_q
         obtain ⟨ad1611, e1611, hx1611_0, hx1611_1, hx1611_2, hx1611_3⟩ := at_T102 HR0.out x7_2 p1611 q1611
         have hw1611_3 := hx1611_3
         have hw1611_2 := hx1611_2
         have hw1611_1 := hx1611_1
         have hw1611_0 := hx1611_0
         cases e1611
         replace hx1611_0 := (HB.out.cell (World.block_lt_of_cell? w _ hx1611_0)).trans hx1611_0
         replace hx1611_1 := (HB.out.cell (World.block_lt_of_cell? w _ hx1611_1)).trans hx1611_1
         replace hx1611_2 := (HB.out.cell (World.block_lt_of_cell? w _ hx1611_2)).trans hx1611_2
         replace hx1611_3 := (HB.out.cell (World.block_lt_of_cell? w _ hx1611_3)).trans hx1611_3
         replace p1611 := eq_true p1611
         replace q1611 := eq_true q1611
         refine start_ (n := 6) (S := fun w' => w'.cell? ⟨gb1598, 0, none⟩ = some (.int .i64 a1_0) ∧ w'.cell? ⟨gb1598, 1, none⟩ = some (.int .i64 a1_1) ∧ w'.cell? ⟨gb1598, 2, none⟩ = some (.int .i64 a1_2) ∧ w'.cell? ⟨gb1598, 3, none⟩ = some (.bool a1_3) ∧ w'.cell? (ad1611.add ((x7_2).toNat * 4)) = some (.int .i64 ((rd_T102 l0 x7_2).f0)) ∧ w'.cell? ⟨(ad1611.add ((x7_2).toNat * 4)).block, (ad1611.add ((x7_2).toNat * 4)).off + 1, none⟩ = some (.int .i64 ((rd_T102 l0 x7_2).f1)) ∧ w'.cell? ⟨(ad1611.add ((x7_2).toNat * 4)).block, (ad1611.add ((x7_2).toNat * 4)).off + 2, none⟩ = some (.int .i64 ((rd_T102 l0 x7_2).f2)) ∧ w'.cell? ⟨(ad1611.add ((x7_2).toNat * 4)).block, (ad1611.add ((x7_2).toNat * 4)).off + 3, none⟩ = some (.bool ((rd_T102 l0 x7_2).f3))) (ds := []) (bL 6 0) (by kernel_rfl) rfl rfl ⟨(blk_cell BK1598.out 0).trans rfl, (blk_cell BK1598.out 1).trans rfl, (blk_cell BK1598.out 2).trans rfl, (blk_cell BK1598.out 3).trans rfl, ((HB.out.cell (World.block_lt_of_cell? w _ hw1611_0)).trans hw1611_0), ((HB.out.cell (World.block_lt_of_cell? w _ hw1611_1)).trans hw1611_1), ((HB.out.cell (World.block_lt_of_cell? w _ hw1611_2)).trans hw1611_2), ((HB.out.cell (World.block_lt_of_cell? w _ hw1611_3)).trans hw1611_3)⟩ (fun hHeld => ?_)
         generalize wr.drew = w24 at HO_5 BK1598 HB hx1611_0 hx1611_1 hx1611_2 hx1611_3 hHeld ⊢
         refine pr_ 1 39 (bL 6 2) rfl rfl ?_
         refine pr_ 2 40 (bL 6 6) rfl rfl ?_
         refine pr_ 3 41 (bL 6 14) rfl rfl ?_
         refine take_ (i := 0) (N := some 38) (v := ?_) (a' := ?_) (bL 6 15) rfl rfl (by kernel_rfl) (fun _ _ _ h => h) (Or.inl ⟨by rfl, ?_⟩) hHeld ?_ ?_; rotate_left; (rintro w' ⟨s0, s1, s2, s3, s4, s5, s6, s7⟩; go_simp; with_reducible rfl); rotate_left; (exact put_q)
         refine take_ (i := 4) (N := some 42) (v := ?_) (a' := ?_) (bL 6 31) rfl rfl (by kernel_rfl) (fun _ _ _ h => h) (Or.inl ⟨by rfl, ?_⟩) hHeld ?_ ?_; rotate_left; (rintro w' ⟨s0, s1, s2, s3, s4, s5, s6, s7⟩; go_simp; with_reducible rfl); rotate_left; (exact put_q)
         refine one_ (i := 5) (N := some 43) (bL 6 63) rfl rfl (by kernel_rfl) (by decide) (fun K hK => ?_)
         refine goes_ Try.func78 (by kernel_rfl) rfl #[.agg #[.int .i64 a1_0, .int .i64 a1_1, .int .i64 a1_2, .bool a1_3], .agg #[.int .i64 ((rd_T102 l0 x7_2).f0), .int .i64 ((rd_T102 l0 x7_2).f1), .int .i64 ((rd_T102 l0 x7_2).f2), .bool ((rd_T102 l0 x7_2).f3)]] (by rfl) rfl rfl mp_q ?_
         with_reducible refine (spec_l03Thing.calls a1_0 a1_1 a1_2 a1_3 ((rd_T102 l0 x7_2).f0) ((rd_T102 l0 x7_2).f1) ((rd_T102 l0 x7_2).f2) ((rd_T102 l0 x7_2).f3) t1612 _ A21.out).mono ?_
         rintro e w25 ⟨rfl, hb⟩
         refine ⟨_, rfl, ?_⟩
         replace HO_5 := Aside0.mk (Kd.R_below (kR_q HO_5) hb)
         replace BK1598 := Aside0.mk (blk_below (g := gb1598) (bk_q BK1598) hb)
         replace HB := Aside0.mk (below_step (bw_q HB) hb)
         (try clear hb)
         (try clear hb2)
         (try clear hk)
         (try clear hi)
         refine hK.out _ _ ⟨(blk_cell BK1598.out 0).trans rfl, (blk_cell BK1598.out 1).trans rfl, (blk_cell BK1598.out 2).trans rfl, (blk_cell BK1598.out 3).trans rfl, ((HB.out.cell (World.block_lt_of_cell? w _ hw1611_0)).trans hw1611_0), ((HB.out.cell (World.block_lt_of_cell? w _ hw1611_1)).trans hw1611_1), ((HB.out.cell (World.block_lt_of_cell? w _ hw1611_2)).trans hw1611_2), ((HB.out.cell (World.block_lt_of_cell? w _ hw1611_3)).trans hw1611_3)⟩ (fun hHeld => ?_)
         clear hK K
         refine norm_ (a' := ?_) ?_ ?_; rotate_left; (show Act.put _ (some 43) _ = _; simp only [Act.put, List.setIfInBounds_toArray, List.set_cons_zero, List.set_cons_succ, i64_w, i32_w]; rfl)
         have H := HZ42.out
         clear HZ42
         by_cases c22 : t1612 = true
         ·subst c22
          have H1 : (if x5_2.length < 4398046511104 then (spec_l03PutThing.l1 k2 l0 (x5_2 ++ [(⟨(rd_T102 l0 x7_2).f0, (rd_T102 l0 x7_2).f1, (rd_T102 l0 x7_2).f2, (rd_T102 l0 x7_2).f3⟩ : S102)]) (wrap64 (x7_2 + 1)) a1_0 a1_1 a1_2 a1_3) else (none)) = some r := by rw [if_pos rfl] at H; exact H
          clear H
          have H := H1
          clear H1
          by_cases c23 : x5_2.length < 4398046511104
          ·rw [if_pos c23] at H
           have LMc23 := Aside0.mk c23
           clear c23
           obtain ⟨y1614, hy1614⟩ : ∃ y_ : List (S102), y_ = (x5_2 ++ [(⟨(rd_T102 l0 x7_2).f0, (rd_T102 l0 x7_2).f1, (rd_T102 l0 x7_2).f2, (rd_T102 l0 x7_2).f3⟩ : S102)]) := ⟨_, rfl⟩
           replace H : (spec_l03PutThing.l1 k2 l0 y1614 (wrap64 (x7_2 + 1)) a1_0 a1_1 a1_2 a1_3) = some r := by first | (rw [hy1614]; with_reducible exact H) | (have H2_ := (Option.bind_some _ _).symm.trans H; rw [hy1614]; with_reducible exact H2_) | (have H2_ := (Option.bind_some _ _).symm.trans H; with_reducible exact H2_) | with_reducible exact H | (rw [hy1614]; exact H) | exact H
           have Ny1614 := Aside0.mk hy1614
           clear hy1614
           have H' := Aside0.mk H
           clear H
           refine done_ (by kernel_rfl) ?_
           have p1613 : 0 ≤ (x7_2 : Int) := of_decide_eq_true as_q
           have q1613 : x7_2 < (l0.length : Int) := of_decide_eq_true as_q
           obtain ⟨ad1613, e1613, hx1613_0, hx1613_1, hx1613_2, hx1613_3⟩ := at_T102 HR0.out x7_2 p1613 q1613
           obtain rfl : ad1611 = ad1613 := (by injection e1613)
           replace hx1613_0 := (HB.out.cell (World.block_lt_of_cell? w _ hx1613_0)).trans hx1613_0
           replace hx1613_1 := (HB.out.cell (World.block_lt_of_cell? w _ hx1613_1)).trans hx1613_1
           replace hx1613_2 := (HB.out.cell (World.block_lt_of_cell? w _ hx1613_2)).trans hx1613_2
           replace hx1613_3 := (HB.out.cell (World.block_lt_of_cell? w _ hx1613_3)).trans hx1613_3
           replace p1613 := eq_true p1613
           replace q1613 := eq_true q1613
           try go_wp2_with (first | ((with_reducible refine gate_builtin (b := .append) (xs := #[.tmp 44, .tmp 49]) rfl ?_); at_builtin; refine Kd.R_append k102 (w0 := w) w.heap.size rfl (.tmp 44) (.tmp 49) 29 102 (.agg #[(.int .i64 0), (.int .i64 0), (.int .i64 0), (.bool false)]) 32 rfl Try.underlying29 info102 rfl (by decide) (by omega) u5 x5_2 (⟨(rd_T102 l0 x7_2).f0, (rd_T102 l0 x7_2).f1, (rd_T102 l0 x7_2).f2, (rd_T102 l0 x7_2).f3⟩ : S102) [.int .i64 ((rd_T102 l0 x7_2).f0), .int .i64 ((rd_T102 l0 x7_2).f1), .int .i64 ((rd_T102 l0 x7_2).f2), .bool ((rd_T102 l0 x7_2).f3)] (fun k_ => k_ ≠ gb1598) (fun _ => False) rfl rfl ?aP (fun _ hk => hk.elim) ?aF ?aO ?aB ?aS ?aL ?_; (case aP => exact k102_mkM _ _ _ (⟨(rd_T102 l0 x7_2).f0, (rd_T102 l0 x7_2).f1, (rd_T102 l0 x7_2).f2, (rd_T102 l0 x7_2).f3⟩ : S102)); (case aB => exact (bw_q HB)); (case aF => exact (fun k_ hk => Kd.freshB (g := gb1598) (o := .cells #[.int .i64 a1_0, .int .i64 a1_1, .int .i64 a1_2, .bool a1_3] 102 (0, 0)) (bk_q BK1598) k_ hk)); (case aO => exact (kR_q HO_5)); (case aS => exact (below_size (bw_q HB))); (case aL => have := LMc23.out; omega); intro v1615 w26 ho hb hg hat; rw [← Ny1614.out] at ho; replace BK1598 := Aside0.mk (blk_grown (g := gb1598) (o := .cells #[.int .i64 a1_0, .int .i64 a1_1, .int .i64 a1_2, .bool a1_3] 102 (0, 0)) (bk_q BK1598) hg (Kd.R_away HO_5.out (fun _ hk => hk))); replace HB := Aside0.mk (hb); have HO1616 := Aside0.mk (ho); clear HO_5; clear ho hb hg hat))
           go_roundg k2
           case measure => have := HK1.out; have := HK2.out; omega
           case rel => exact ⟨(y1614), (wrap64 (x7_2 + 1)), (by first | rfl | (simp; done) | (simp [*]; done)), H', ⟨by have := HK1.out; have := HK2.out; omega⟩, ⟨by (with_reducible repeat (first | apply Kd.R_alloc | apply Kd.R_drewN | apply Kd.R_drew)); exact HO1616.out⟩, ⟨by refine bz_ ?_; exact BK1598.out⟩, ⟨bw_q HB⟩⟩
          ·rw [if_neg c23] at H
           exact absurd H (by simp)
         ·replace c22 := Bool.eq_false_iff.mpr c22
          subst c22
          have H1 : (spec_l03PutThing.l1 k2 l0 x5_2 (wrap64 (x7_2 + 1)) a1_0 a1_1 a1_2 a1_3) = some r := by rw [if_neg (show ¬ (false = true) by decide)] at H; exact H
          clear H
          have H := H1
          clear H1
          have H' := Aside0.mk H
          clear H
          refine done_ (by kernel_rfl) ?_
          try go_wp2
          go_roundg k2
          case measure => have := HK1.out; have := HK2.out; omega
          case rel => exact ⟨(x5_2), (wrap64 (x7_2 + 1)), (by first | rfl | (simp; done) | (simp [*]; done)), H', ⟨by have := HK1.out; have := HK2.out; omega⟩, ⟨by (with_reducible repeat (first | apply Kd.R_alloc | apply Kd.R_drewN | apply Kd.R_drew)); exact HO_5.out⟩, ⟨by refine bz_ ?_; exact BK1598.out⟩, ⟨bw_q HB⟩⟩
        ·rw [if_neg c20] at H
         exact absurd H (by simp)
       ·rw [if_neg c19] at H
        have c19b0 : decide (x7_2 < (l0.length : Int)) = false := decide_eq_false c19
        clear c19
        obtain rfl := Option.some.inj H
        go_wp2
        go_ret
        exact ⟨_, er_q, by (with_reducible repeat (first | apply Kd.R_alloc | apply Kd.R_drewN | apply Kd.R_drew)); exact Kd.R_mono HO_5.out (fun _ hk => trivial), bw_q HB⟩
    ·rw [if_neg c16] at H
     exact absurd H (by simp)

end Go.Proofs.Ythjmdiggglkeaaa.Q
