import Derived.Test.YthjmdiggglkeaaaXMergeQS
import Derived.Test.YthjmdiggglkeaaaXMergeQimplSameKey
/- A Go function as a Lean function, and its contract: for every input the Go code comes to what the Lean function tells. -/


namespace Go.Proofs.Ythjmdiggglkeaaa.Q
open Go.RowKit Go.Proofs.YthjmdiggglkeaaaW.PrintWords Go.Proofs.YthjmdiggglkeaaaW.PrintLast Go.Proofs.YthjmdiggglkeaaaW.PrintMore
attribute [local go_sem] max2_int min2_int max_two min_two max_three min_three max_four min_four   -- for this text's walks alone
set_option linter.unusedVariables false
set_option linter.unusedSimpArgs false

/-! ### impl_keyAt: function 107 -/
def impl_keyAt.l0 : Nat → List (S61) → Int → Int → Int → Int → Int → Int → Int → List (S127) → Int → Bool → Option (Int)
 | 0, _, _, _, _, _, _, _, _, _, _, _ => none
 | k + 1, x7, x8, x9, x612000, x612001, x612002, x612003, x612004, x612005, x612006, x612007 => if x9 < x8 then (if 0 ≤ x9 then (if x9 < (x7.length : Int) then ((impl_SameKey.f ((rd_T61 x7 x9).f0) ((rd_T61 x7 x9).f1) ((rd_T61 x7 x9).f2) ((rd_T61 x7 x9).f3) ((rd_T61 x7 x9).f4) ((rd_T61 x7 x9).f5) ((rd_T61 x7 x9).f6) ((rd_T61 x7 x9).f7) x612000 x612001 x612002 x612003 x612004 x612005 x612006 x612007).bind fun t614 => (if t614 = true then (some x9) else (impl_keyAt.l0 k x7 x8 (wrap64 (x9 + 1)) x612000 x612001 x612002 x612003 x612004 x612005 x612006 x612007))) else (none)) else (none)) else (some (-1))
def impl_keyAt.f (k : Nat) (l0 : List (S61)) (a1_0 : Int) (a1_1 : Int) (a1_2 : Int) (a1_3 : Int) (a1_4 : Int) (l1_5 : List (S127)) (a1_6 : Int) (a1_7 : Bool) : Option (Int) := impl_keyAt.l0 k l0 (l0.length : Int) 0 a1_0 a1_1 a1_2 a1_3 a1_4 l1_5 a1_6 a1_7
theorem impl_keyAt.mono_l : ∀ k, (∀ y0 y1 y2 y3 y4 y5 y6 y7 y8 y9 y10, LeO (impl_keyAt.l0 k y0 y1 y2 y3 y4 y5 y6 y7 y8 y9 y10) (impl_keyAt.l0 (k + 1) y0 y1 y2 y3 y4 y5 y6 y7 y8 y9 y10))
 | 0 => fun _ _ _ _ _ _ _ _ _ _ _ r h => by simp [impl_keyAt.l0] at h
 | k + 1 => by
  have ih0 := impl_keyAt.mono_l k
  ·intro y0 y1 y2 y3 y4 y5 y6 y7 y8 y9 y10
   unfold impl_keyAt.l0
   repeat' first
   | (with_reducible exact ih0 _ _ _ _ _ _ _ _ _ _ _)
   | (with_reducible exact LeO.refl _)
   | (with_reducible exact LeO.none _)
   | (with_reducible refine LeO.ite ?_ ?_)
   | (with_reducible refine LeO.bind ?_ (fun _ => ?_))
   | exact ih0 _ _ _ _ _ _ _ _ _ _ _
   | exact LeO.none _
   | refine LeO.ite ?_ ?_
   | refine LeO.bind ?_ (fun _ => ?_)
theorem impl_keyAt.mono : ∀ a0 a1 a2 a3 a4 a5 a6 a7 a8 k, LeO (impl_keyAt.f k a0 a1 a2 a3 a4 a5 a6 a7 a8) (impl_keyAt.f (k + 1) a0 a1 a2 a3 a4 a5 a6 a7 a8) := by
 intro a0 a1 a2 a3 a4 a5 a6 a7 a8 k
 have ih0 := impl_keyAt.mono_l k
 unfold impl_keyAt.f
 repeat' first
   | (with_reducible exact ih0 _ _ _ _ _ _ _ _ _ _ _)
   | (with_reducible exact LeO.refl _)
   | (with_reducible exact LeO.none _)
   | (with_reducible refine LeO.ite ?_ ?_)
   | (with_reducible refine LeO.bind ?_ (fun _ => ?_))
   | exact ih0 _ _ _ _ _ _ _ _ _ _ _
   | exact LeO.none _
   | refine LeO.ite ?_ ?_
   | refine LeO.bind ?_ (fun _ => ?_)
set_option maxHeartbeats 8000000 in
set_option maxRecDepth 100000 in
theorem impl_keyAt.calls (k : Nat) (A0 : Option Addr) (c0 : Nat) (l0 : List (S61)) (a1_0 : Int) (a1_1 : Int) (a1_2 : Int) (a1_3 : Int) (a1_4 : Int) (A1_5 : Option Addr) (c1_5 : Nat) (l1_5 : List (S127)) (a1_6 : Int) (a1_7 : Bool) (r : Int) (w : World) (hr0 : Kd.C k61 w A0 l0.length l0) (hc0 : l0.length ≤ c0) (hr1_5 : Kd.C k127 w A1_5 l1_5.length l1_5) (hc1_5 : l1_5.length ≤ c1_5) (h : impl_keyAt.f k l0 a1_0 a1_1 a1_2 a1_3 a1_4 l1_5 a1_6 a1_7 = some r) :
  Calls Try.prog 107 #[.slice A0 l0.length c0, .agg #[.int .i64 a1_0, .int .i64 a1_1, .int .i64 a1_2, .int .i64 a1_3, .int .i64 a1_4, .slice A1_5 l1_5.length c1_5, .int .i64 a1_6, .bool a1_7]] w fun e w' => e = .returned (.int .i64 r) ∧ Below w.heap.size w w' := by
 have hu61 := Try.underlying61
 have HR0 := Aside0.mk hr0
 have HC0 := Aside0.mk hc0
 clear hr0 hc0
 have HR1_5 := Aside0.mk hr1_5
 have HC1_5 := Aside0.mk hc1_5
 clear hr1_5 hc1_5
 have HB := Aside0.mk (Below.refl w.heap.size w)
 have H : (impl_keyAt.l0 k l0 (l0.length : Int) 0 a1_0 a1_1 a1_2 a1_3 a1_4 l1_5 a1_6 a1_7) = some r := h
 clear h
 have H' := Aside0.mk H
 clear H
 go_enter Try.func107, Try.ntmps107
 go_wp2_with (first | ((with_reducible refine gate_dst (N := 3) rfl ?_); refine box_event ?hg (N := 3) ?hd (cs := #[.int .i64 a1_0, .int .i64 a1_1, .int .i64 a1_2, .int .i64 a1_3, .int .i64 a1_4, .slice A1_5 l1_5.length c1_5, .int .i64 a1_6, .bool a1_7]) (t := 61) ?hr ?_; (case hd => rfl); (case hg => rfl); (case hr => first | (go_simp; done) | (go_simp; rfl)); intro gb611 hg w3 hbox hb; have n0_ := Aside0.mk (below_step (bw_q HB) hb); have n1_ := Aside0.mk (hbox); have n2_ := Aside0.mk ((by rw [hg]; exact (below_size (bw_q HB)) : w.heap.size ≤ gb611)); have n3_ := Aside0.mk ((by rw [hg]; exact (below_size (bw_q HB)) : w.heap.size ≤ gb611)); clear HB; have HB := n0_; have BK611 := n1_; have GW611 := n2_; have GE611 := n3_; clear n0_ n1_ n2_ n3_; clear hb hbox hg))
 go_loopg [9] k (fun kq v9 w' => ∃ (x9_1 : Int), v9 = .int .i64 x9_1 ∧ Aside0 (impl_keyAt.l0 kq l0 (l0.length : Int) x9_1 a1_0 a1_1 a1_2 a1_3 a1_4 l1_5 a1_6 a1_7 = some r) ∧ Aside0 (kq ≤ k) ∧ Aside0 (w'.heap[gb611]? = some (.cells #[.int .i64 a1_0, .int .i64 a1_1, .int .i64 a1_2, .int .i64 a1_3, .int .i64 a1_4, (.slice A1_5 l1_5.length c1_5), .int .i64 a1_6, .bool a1_7] 61 (0, 0))) ∧ Aside0 (Below w.heap.size w w'))
 case atStart => exact ⟨(0), (by first | rfl | (simp; done) | (simp [*]; done)), H', ⟨Nat.le_refl _⟩, ⟨by (with_reducible repeat (first | refine blk_drewN ?_ _ | refine blk_drew ?_ | refine blk_alloc ?_ _)); exact BK611.out⟩, ⟨bw_q HB⟩⟩
 case round =>
  clear H'
  try clear c1
  try clear p2
  obtain ⟨x9_1, rfl, HA, HK1, BK611, HB⟩ := hrel
  cases gk with
  | zero => exact absurd HA.out (by simp [impl_keyAt.l0])
  | succ k1 =>
   have H := HA.out
   clear HA
   simp only [impl_keyAt.l0] at H
   by_cases c4 : x9_1 < (l0.length : Int)
   ·rw [if_pos c4] at H
    have c4b0 : decide (x9_1 < (l0.length : Int)) = true := decide_eq_true c4
    clear c4
    by_cases c5 : 0 ≤ x9_1
    ·rw [if_pos c5] at H
     have c5b0 : decide (0 ≤ x9_1) = true := decide_eq_true c5
     clear c5
     by_cases c6 : x9_1 < (l0.length : Int)
     ·rw [if_pos c6] at H
      have c6b0 : decide (x9_1 < (l0.length : Int)) = true := decide_eq_true c6
      clear c6
      replace H := Option.bind_eq_some_iff.mp H
      obtain ⟨t614, A70, H⟩ := H
      replace H : (if t614 = true then (some x9_1) else (impl_keyAt.l0 k1 l0 (l0.length : Int) (wrap64 (x9_1 + 1)) a1_0 a1_1 a1_2 a1_3 a1_4 l1_5 a1_6 a1_7)) = some r := H
      have A7 := Aside0.mk A70
      clear A70
      have HC8 := Aside0.mk H
      clear H
      have p612 : 0 ≤ (x9_1 : Int) := of_decide_eq_true (by first | (with_reducible assumption) | assumption)
      have q612 : x9_1 < (l0.length : Int) := of_decide_eq_true (by first | (with_reducible assumption) | assumption)
      obtain ⟨ad612, A612_5, c612_5, e612, hx612_0, hx612_1, hx612_2, hx612_3, hx612_4, hx612_5, hx612_6, hx612_7, hl612_5, hi612_5⟩ := at_T61 HR0.out x9_1 p612 q612
      cases e612
      replace hx612_0 := (HB.out.cell (World.block_lt_of_cell? w _ hx612_0)).trans hx612_0
      replace hx612_1 := (HB.out.cell (World.block_lt_of_cell? w _ hx612_1)).trans hx612_1
      replace hx612_2 := (HB.out.cell (World.block_lt_of_cell? w _ hx612_2)).trans hx612_2
      replace hx612_3 := (HB.out.cell (World.block_lt_of_cell? w _ hx612_3)).trans hx612_3
      replace hx612_4 := (HB.out.cell (World.block_lt_of_cell? w _ hx612_4)).trans hx612_4
      replace hx612_5 := (HB.out.cell (World.block_lt_of_cell? w _ hx612_5)).trans hx612_5
      replace hx612_6 := (HB.out.cell (World.block_lt_of_cell? w _ hx612_6)).trans hx612_6
      replace hx612_7 := (HB.out.cell (World.block_lt_of_cell? w _ hx612_7)).trans hx612_7
      have HR612_5 := Aside0.mk hi612_5
      have HC612_5 := Aside0.mk hl612_5
      clear hi612_5 hl612_5
      replace p612 := eq_true p612
      replace q612 := eq_true q612
      go_upto_if 16 with (first | ((with_reducible refine gate_dst (N := 6) rfl ?_); refine box_event ?hg (N := 6) ?hd (cs := #[.int .i64 0, .int .i64 0, .int .i64 0, .int .i64 0, .int .i64 0, .slice none 0 0, .int .i64 0, .bool false]) (t := 61) ?hr ?_; (case hd => rfl); (case hg => rfl); (case hr => first | (go_simp; done) | (go_simp; rfl)); intro gb613 hg w9 hbox hb; have n0_ := Aside0.mk (blk_below (g := gb611) (bk_q BK611) hb); have n1_ := Aside0.mk (below_step (bw_q HB) hb); have n2_ := Aside0.mk (hbox); have n3_ := Aside0.mk ((by rw [hg]; exact (below_size (bw_q HB)) : w.heap.size ≤ gb613)); have n4_ := Aside0.mk ((by rw [hg]; exact (below_size (bw_q HB)) : w.heap.size ≤ gb613)); have n5_ := Aside0.mk ((by rw [hg]; exact Nat.ne_of_lt (blk_lt (g := gb611) (o := .cells #[.int .i64 a1_0, .int .i64 a1_1, .int .i64 a1_2, .int .i64 a1_3, .int .i64 a1_4, .slice A1_5 l1_5.length c1_5, .int .i64 a1_6, .bool a1_7] 61 (0, 0)) (bk_q BK611)) : gb611 ≠ gb613)); have n6_ := Aside0.mk ((by rw [hg]; exact Nat.ne_of_gt (blk_lt (g := gb611) (o := .cells #[.int .i64 a1_0, .int .i64 a1_1, .int .i64 a1_2, .int .i64 a1_3, .int .i64 a1_4, .slice A1_5 l1_5.length c1_5, .int .i64 a1_6, .bool a1_7] 61 (0, 0)) (bk_q BK611)) : gb613 ≠ gb611)); clear BK611; clear HB; have BK611 := n0_; have HB := n1_; have BK613 := n2_; have GW613 := n3_; have GE613 := n4_; have NB611_613 := n5_; have NB613_611 := n6_; clear n0_ n1_ n2_ n3_ n4_ n5_ n6_; clear hb hbox hg; have hnb10 := NB613_611.out; have hnc10 := NB611_613.out; have hcz11_0 : w9.cell? ⟨gb613, 0, none⟩ = some (.int .i64 0) := (blk_cell BK613.out 0).trans rfl; have hcz11_1 : w9.cell? ⟨gb613, 1, none⟩ = some (.int .i64 0) := (blk_cell BK613.out 1).trans rfl; have hcz11_2 : w9.cell? ⟨gb613, 2, none⟩ = some (.int .i64 0) := (blk_cell BK613.out 2).trans rfl; have hcz11_3 : w9.cell? ⟨gb613, 3, none⟩ = some (.int .i64 0) := (blk_cell BK613.out 3).trans rfl; have hcz11_4 : w9.cell? ⟨gb613, 4, none⟩ = some (.int .i64 0) := (blk_cell BK613.out 4).trans rfl; have hcz11_5 : w9.cell? ⟨gb613, 5, none⟩ = some (.slice none 0 0) := (blk_cell BK613.out 5).trans rfl; have hcz11_6 : w9.cell? ⟨gb613, 6, none⟩ = some (.int .i64 0) := (blk_cell BK613.out 6).trans rfl; have hcz11_7 : w9.cell? ⟨gb613, 7, none⟩ = some (.bool false) := (blk_cell BK613.out 7).trans rfl; have hfz11_0 := blk_frozen BK613.out 0; have hfz11_1 := blk_frozen BK613.out 1; have hfz11_2 := blk_frozen BK613.out 2; have hfz11_3 := blk_frozen BK613.out 3; have hfz11_4 := blk_frozen BK613.out 4; have hfz11_5 := blk_frozen BK613.out 5; have hfz11_6 := blk_frozen BK613.out 6; have hfz11_7 := blk_frozen BK613.out 7; have hcz12_0 : w9.cell? ⟨gb611, 0, none⟩ = some (.int .i64 a1_0) := (blk_cell BK611.out 0).trans rfl; have hcz12_1 : w9.cell? ⟨gb611, 1, none⟩ = some (.int .i64 a1_1) := (blk_cell BK611.out 1).trans rfl; have hcz12_2 : w9.cell? ⟨gb611, 2, none⟩ = some (.int .i64 a1_2) := (blk_cell BK611.out 2).trans rfl; have hcz12_3 : w9.cell? ⟨gb611, 3, none⟩ = some (.int .i64 a1_3) := (blk_cell BK611.out 3).trans rfl; have hcz12_4 : w9.cell? ⟨gb611, 4, none⟩ = some (.int .i64 a1_4) := (blk_cell BK611.out 4).trans rfl; have hcz12_5 : w9.cell? ⟨gb611, 5, none⟩ = some (.slice A1_5 l1_5.length c1_5) := (blk_cell BK611.out 5).trans rfl; have hcz12_6 : w9.cell? ⟨gb611, 6, none⟩ = some (.int .i64 a1_6) := (blk_cell BK611.out 6).trans rfl; have hcz12_7 : w9.cell? ⟨gb611, 7, none⟩ = some (.bool a1_7) := (blk_cell BK611.out 7).trans rfl; have hfz12_0 := blk_frozen BK611.out 0; have hfz12_1 := blk_frozen BK611.out 1; have hfz12_2 := blk_frozen BK611.out 2; have hfz12_3 := blk_frozen BK611.out 3; have hfz12_4 := blk_frozen BK611.out 4; have hfz12_5 := blk_frozen BK611.out 5; have hfz12_6 := blk_frozen BK611.out 6; have hfz12_7 := blk_frozen BK611.out 7) | ((with_reducible refine gate_callee (f := 69) rfl ?_); refine goesL_ (some 16) rfl rfl Try.func69 (by kernel_rfl) rfl #[.agg #[.int .i64 ((rd_T61 l0 x9_1).f0), .int .i64 ((rd_T61 l0 x9_1).f1), .int .i64 ((rd_T61 l0 x9_1).f2), .int .i64 ((rd_T61 l0 x9_1).f3), .int .i64 ((rd_T61 l0 x9_1).f4), .slice A612_5 ((rd_T61 l0 x9_1).f5).length c612_5, .int .i64 ((rd_T61 l0 x9_1).f6), .bool ((rd_T61 l0 x9_1).f7)], .agg #[.int .i64 a1_0, .int .i64 a1_1, .int .i64 a1_2, .int .i64 a1_3, .int .i64 a1_4, .slice A1_5 l1_5.length c1_5, .int .i64 a1_6, .bool a1_7]] rfl mp_q ?_; (with_reducible refine (impl_SameKey.calls ((rd_T61 l0 x9_1).f0) ((rd_T61 l0 x9_1).f1) ((rd_T61 l0 x9_1).f2) ((rd_T61 l0 x9_1).f3) ((rd_T61 l0 x9_1).f4) _ _ ((rd_T61 l0 x9_1).f5) ((rd_T61 l0 x9_1).f6) ((rd_T61 l0 x9_1).f7) a1_0 a1_1 a1_2 a1_3 a1_4 _ _ l1_5 a1_6 a1_7 t614 _ ?side1 ?side2 ?side3 ?side4 A7.out).mono ?_); (case side1 => exact Kd.C_below HR612_5.out (bw_q HB)); (case side2 => exact HC612_5.out); (case side3 => exact Kd.C_below HR1_5.out (bw_q HB)); (case side4 => exact HC1_5.out); rintro e w13 ⟨rfl, hb⟩; refine ⟨_, rfl, ?_⟩; have n0_ := Aside0.mk (blk_below (g := gb611) (o := .cells #[.int .i64 a1_0, .int .i64 a1_1, .int .i64 a1_2, .int .i64 a1_3, .int .i64 a1_4, .slice A1_5 l1_5.length c1_5, .int .i64 a1_6, .bool a1_7] 61 (0, 0)) (by (with_reducible repeat (first | refine blk_drewN ?_ _ | refine blk_drew ?_ | refine blk_alloc ?_ _)); refine blk_far ?_ NB611_613.out _; (with_reducible repeat (first | refine blk_drewN ?_ _ | refine blk_drew ?_ | refine blk_alloc ?_ _)); refine blk_far ?_ NB611_613.out _; (with_reducible repeat (first | refine blk_drewN ?_ _ | refine blk_drew ?_ | refine blk_alloc ?_ _)); refine blk_far ?_ NB611_613.out _; (with_reducible repeat (first | refine blk_drewN ?_ _ | refine blk_drew ?_ | refine blk_alloc ?_ _)); refine blk_far ?_ NB611_613.out _; (with_reducible repeat (first | refine blk_drewN ?_ _ | refine blk_drew ?_ | refine blk_alloc ?_ _)); refine blk_far ?_ NB611_613.out _; (with_reducible repeat (first | refine blk_drewN ?_ _ | refine blk_drew ?_ | refine blk_alloc ?_ _)); refine blk_far ?_ NB611_613.out _; (with_reducible repeat (first | refine blk_drewN ?_ _ | refine blk_drew ?_ | refine blk_alloc ?_ _)); refine blk_far ?_ NB611_613.out _; (with_reducible repeat (first | refine blk_drewN ?_ _ | refine blk_drew ?_ | refine blk_alloc ?_ _)); refine blk_far ?_ NB611_613.out _; (with_reducible repeat (first | refine blk_drewN ?_ _ | refine blk_drew ?_ | refine blk_alloc ?_ _)); exact BK611.out) hb); have n1_ := Aside0.mk (blk_below (g := gb613) (o := .cells #[.int .i64 ((rd_T61 l0 x9_1).f0), .int .i64 ((rd_T61 l0 x9_1).f1), .int .i64 ((rd_T61 l0 x9_1).f2), .int .i64 ((rd_T61 l0 x9_1).f3), .int .i64 ((rd_T61 l0 x9_1).f4), .slice A612_5 ((rd_T61 l0 x9_1).f5).length c612_5, .int .i64 ((rd_T61 l0 x9_1).f6), .bool ((rd_T61 l0 x9_1).f7)] 61 (0, 0)) (by (with_reducible repeat (first | refine blk_drewN ?_ _ | refine blk_drew ?_ | refine blk_alloc ?_ _)); refine blk_put (cs := #[.int .i64 ((rd_T61 l0 x9_1).f0), .int .i64 ((rd_T61 l0 x9_1).f1), .int .i64 ((rd_T61 l0 x9_1).f2), .int .i64 ((rd_T61 l0 x9_1).f3), .int .i64 ((rd_T61 l0 x9_1).f4), .slice A612_5 ((rd_T61 l0 x9_1).f5).length c612_5, .int .i64 ((rd_T61 l0 x9_1).f6), .bool false]) ?_ 7 _ rfl; (with_reducible repeat (first | refine blk_drewN ?_ _ | refine blk_drew ?_ | refine blk_alloc ?_ _)); refine blk_put (cs := #[.int .i64 ((rd_T61 l0 x9_1).f0), .int .i64 ((rd_T61 l0 x9_1).f1), .int .i64 ((rd_T61 l0 x9_1).f2), .int .i64 ((rd_T61 l0 x9_1).f3), .int .i64 ((rd_T61 l0 x9_1).f4), .slice A612_5 ((rd_T61 l0 x9_1).f5).length c612_5, .int .i64 0, .bool false]) ?_ 6 _ rfl; (with_reducible repeat (first | refine blk_drewN ?_ _ | refine blk_drew ?_ | refine blk_alloc ?_ _)); refine blk_put (cs := #[.int .i64 ((rd_T61 l0 x9_1).f0), .int .i64 ((rd_T61 l0 x9_1).f1), .int .i64 ((rd_T61 l0 x9_1).f2), .int .i64 ((rd_T61 l0 x9_1).f3), .int .i64 ((rd_T61 l0 x9_1).f4), .slice none 0 0, .int .i64 0, .bool false]) ?_ 5 _ rfl; (with_reducible repeat (first | refine blk_drewN ?_ _ | refine blk_drew ?_ | refine blk_alloc ?_ _)); refine blk_put (cs := #[.int .i64 ((rd_T61 l0 x9_1).f0), .int .i64 ((rd_T61 l0 x9_1).f1), .int .i64 ((rd_T61 l0 x9_1).f2), .int .i64 ((rd_T61 l0 x9_1).f3), .int .i64 0, .slice none 0 0, .int .i64 0, .bool false]) ?_ 4 _ rfl; (with_reducible repeat (first | refine blk_drewN ?_ _ | refine blk_drew ?_ | refine blk_alloc ?_ _)); refine blk_put (cs := #[.int .i64 ((rd_T61 l0 x9_1).f0), .int .i64 ((rd_T61 l0 x9_1).f1), .int .i64 ((rd_T61 l0 x9_1).f2), .int .i64 0, .int .i64 0, .slice none 0 0, .int .i64 0, .bool false]) ?_ 3 _ rfl; (with_reducible repeat (first | refine blk_drewN ?_ _ | refine blk_drew ?_ | refine blk_alloc ?_ _)); refine blk_put (cs := #[.int .i64 ((rd_T61 l0 x9_1).f0), .int .i64 ((rd_T61 l0 x9_1).f1), .int .i64 0, .int .i64 0, .int .i64 0, .slice none 0 0, .int .i64 0, .bool false]) ?_ 2 _ rfl; (with_reducible repeat (first | refine blk_drewN ?_ _ | refine blk_drew ?_ | refine blk_alloc ?_ _)); refine blk_put (cs := #[.int .i64 ((rd_T61 l0 x9_1).f0), .int .i64 0, .int .i64 0, .int .i64 0, .int .i64 0, .slice none 0 0, .int .i64 0, .bool false]) ?_ 1 _ rfl; (with_reducible repeat (first | refine blk_drewN ?_ _ | refine blk_drew ?_ | refine blk_alloc ?_ _)); refine blk_put (cs := #[.int .i64 0, .int .i64 0, .int .i64 0, .int .i64 0, .int .i64 0, .slice none 0 0, .int .i64 0, .bool false]) ?_ 0 _ rfl; (with_reducible repeat (first | refine blk_drewN ?_ _ | refine blk_drew ?_ | refine blk_alloc ?_ _)); exact BK613.out) hb); have n2_ := Aside0.mk (below_step (bw_q HB) hb); clear BK611; clear BK613; clear HB; have BK611 := n0_; have BK613 := n1_; have HB := n2_; clear n0_ n1_ n2_; (try clear hb); (try clear hb2); (try clear hk); (try clear hi)))
      (try clear hx612_0); (try clear hx612_1); (try clear hx612_2); (try clear hx612_3); (try clear hx612_4); (try clear hx612_5); (try clear hx612_6); (try clear hx612_7)
      have H := HC8.out
      clear HC8
      by_cases c14 : t614 = true
      ·subst c14
       have H1 : (some x9_1) = some r := by rw [if_pos rfl] at H; exact H
       clear H
       have H := H1
       clear H1
       obtain rfl := Option.some.inj H
       go_wp2
       go_ret
       exact ⟨er_q, bw_q HB⟩
      ·replace c14 := Bool.eq_false_iff.mpr c14
       subst c14
       have H1 : (impl_keyAt.l0 k1 l0 (l0.length : Int) (wrap64 (x9_1 + 1)) a1_0 a1_1 a1_2 a1_3 a1_4 l1_5 a1_6 a1_7) = some r := by rw [if_neg (show ¬ (false = true) by decide)] at H; exact H
       clear H
       have H := H1
       clear H1
       have H' := Aside0.mk H
       clear H
       go_wp2
       go_roundg k1
       case measure => have := HK1.out; omega
       case rel => exact ⟨(wrap64 (x9_1 + 1)), (by first | rfl | (simp; done) | (simp [*]; done)), H', ⟨by have := HK1.out; omega⟩, ⟨by (with_reducible repeat (first | refine blk_drewN ?_ _ | refine blk_drew ?_ | refine blk_alloc ?_ _)); exact BK611.out⟩, ⟨bw_q HB⟩⟩
     ·rw [if_neg c6] at H
      exact absurd H (by simp)
    ·rw [if_neg c5] at H
     exact absurd H (by simp)
   ·rw [if_neg c4] at H
    have c4b0 : decide (x9_1 < (l0.length : Int)) = false := decide_eq_false c4
    clear c4
    obtain rfl := Option.some.inj H
    go_wp2
    go_ret
    exact ⟨er_q, bw_q HB⟩

end Go.Proofs.Ythjmdiggglkeaaa.Q
