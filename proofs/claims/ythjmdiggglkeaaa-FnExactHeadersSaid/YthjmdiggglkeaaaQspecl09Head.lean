/- A Go function as a Lean function, and its contract: for every input the Go code comes to what the Lean function tells. -/
import Derived.Test.YthjmdiggglkeaaaQk
namespace Go.Proofs.Ythjmdiggglkeaaa.Q
open Go.RowKit Go.Proofs.YthjmdiggglkeaaaW.PrintWords Go.Proofs.YthjmdiggglkeaaaW.PrintLast Go.Proofs.YthjmdiggglkeaaaW.PrintMore
attribute [local go_sem] max2_int min2_int max_two min_two max_three min_three max_four min_four   -- for this text's walks alone
set_option linter.unusedVariables false
set_option linter.unusedSimpArgs false

/-! ### spec_l09Head: function 112 -/
def spec_l09Head.f (a0_0 : Int) (a0_1 : Int) (a0_2 : Int) (a0_3 : Int) (a0_4 : Int) (l0_5 : List (S127)) (a0_6 : Int) (a0_7 : Bool) : Option (Int × Int × Int × Int × Int × (List (S127)) × Int × Bool) := (some (([] : List (S127)) : List (S127))).bind fun y1134 => (if a0_1 = 3 then (some (a0_0, a0_1, a0_2, a0_3, a0_4, y1134, 1, false)) else (some (a0_0, a0_1, a0_2, a0_3, a0_4, y1134, 0, false)))
set_option maxHeartbeats 8000000 in
set_option maxRecDepth 100000 in
theorem spec_l09Head.calls (a0_0 : Int) (a0_1 : Int) (a0_2 : Int) (a0_3 : Int) (a0_4 : Int) (A0_5 : Option Addr) (c0_5 : Nat) (l0_5 : List (S127)) (a0_6 : Int) (a0_7 : Bool) (r1 : Int) (r2 : Int) (r3 : Int) (r4 : Int) (r5 : Int) (r6 : List (S127)) (r7 : Int) (r8 : Bool) (w : World) (hr0_5 : Kd.C k127 w A0_5 l0_5.length l0_5) (hc0_5 : l0_5.length ≤ c0_5) (h : spec_l09Head.f a0_0 a0_1 a0_2 a0_3 a0_4 l0_5 a0_6 a0_7 = some (r1, r2, r3, r4, r5, r6, r7, r8)) :
    Calls Try.prog 112 #[.agg #[.int .i64 a0_0, .int .i64 a0_1, .int .i64 a0_2, .int .i64 a0_3, .int .i64 a0_4, .slice A0_5 l0_5.length c0_5, .int .i64 a0_6, .bool a0_7]] w fun e w' => ∃ v5_ : Value, e = .returned (.agg #[.int .i64 r1, .int .i64 r2, .int .i64 r3, .int .i64 r4, .int .i64 r5, v5_, .int .i64 r7, .bool r8]) ∧ Kd.R k127 127 w' w.heap.size (fun _ => True) v5_ r6 ∧ Below w.heap.size w w' := by
  have hu61 := Try.underlying61
  have HR0_5 := Aside0.mk hr0_5
  have HC0_5 := Aside0.mk hc0_5
  clear hr0_5 hc0_5
  have HB := Aside0.mk (Below.refl w.heap.size w)
  have H : ((some (([] : List (S127)) : List (S127))).bind fun y1134 => (if a0_1 = 3 then (some (a0_0, a0_1, a0_2, a0_3, a0_4, y1134, 1, false)) else (some (a0_0, a0_1, a0_2, a0_3, a0_4, y1134, 0, false)))) = some (r1, r2, r3, r4, r5, r6, r7, r8) := h
  clear h
  obtain ⟨y1134, hy1134⟩ : ∃ y_ : List (S127), y_ = (([] : List (S127))) := ⟨_, rfl⟩
  replace H : (if a0_1 = 3 then (some (a0_0, a0_1, a0_2, a0_3, a0_4, y1134, 1, false)) else (some (a0_0, a0_1, a0_2, a0_3, a0_4, y1134, 0, false))) = some (r1, r2, r3, r4, r5, r6, r7, r8) := by first | (rw [hy1134]; with_reducible exact H) | (have H2_ := (Option.bind_some _ _).symm.trans H; rw [hy1134]; with_reducible exact H2_) | (have H2_ := (Option.bind_some _ _).symm.trans H; with_reducible exact H2_) | with_reducible exact H | (rw [hy1134]; exact H) | exact H
  have Ny1134 := Aside0.mk hy1134
  clear hy1134
  have HC2 := Aside0.mk H
  clear H
  go_enter Try.func112, Try.ntmps112
  go_upto_if 8 with (first | ((with_reducible refine gate_dst (N := 1) rfl ?_); refine box_event ?hg (N := 1) ?hd (cs := #[.int .i64 a0_0, .int .i64 a0_1, .int .i64 a0_2, .int .i64 a0_3, .int .i64 a0_4, .slice A0_5 l0_5.length c0_5, .int .i64 a0_6, .bool a0_7]) (t := 61) ?hr ?_; (case hd => rfl); (case hg => rfl); (case hr => first | (go_simp; done) | (go_simp; rfl)); intro gb1132 hg w3 hbox hb; have n0_ := Aside0.mk (below_step (by repeat (first | (with_reducible first | exact HB.out | apply below_alloc | apply pw_below_drewN | apply below_drew1) | exact HB.out)) hb); have n1_ := Aside0.mk (hbox); have n2_ := Aside0.mk ((by rw [hg]; exact (below_size (by repeat (first | (with_reducible first | exact HB.out | apply below_alloc | apply pw_below_drewN | apply below_drew1) | exact HB.out))) : w.heap.size ≤ gb1132)); have n3_ := Aside0.mk ((by rw [hg]; exact (below_size (by repeat (first | (with_reducible first | exact HB.out | apply below_alloc | apply pw_below_drewN | apply below_drew1) | exact HB.out))) : w.heap.size ≤ gb1132)); clear HB; have HB := n0_; have BK1132 := n1_; have GW1132 := n2_; have GE1132 := n3_; clear n0_ n1_ n2_ n3_; clear hb hbox hg) | ((with_reducible refine gate_dst (N := 2) rfl ?_); refine box_event ?hg (N := 2) ?hd (cs := #[.int .i64 0, .int .i64 0, .int .i64 0, .int .i64 0, .int .i64 0, .slice none 0 0, .int .i64 0, .bool false]) (t := 61) ?hr ?_; (case hd => rfl); (case hg => rfl); (case hr => first | (go_simp; done) | (go_simp; rfl)); intro gb1133 hg w4 hbox hb; have n0_ := Aside0.mk (blk_below (g := gb1132) (o := .cells #[.int .i64 a0_0, .int .i64 a0_1, .int .i64 a0_2, .int .i64 a0_3, .int .i64 a0_4, .slice A0_5 l0_5.length c0_5, .int .i64 a0_6, .bool a0_7] 61 (0, 0)) (by (with_reducible repeat (first | refine blk_drewN ?_ _ | refine blk_drew ?_ | refine blk_alloc ?_ _)); exact BK1132.out) hb); have n1_ := Aside0.mk (below_step (by repeat (first | (with_reducible first | exact HB.out | apply below_alloc | apply pw_below_drewN | apply below_drew1 | refine below_set ?_ GE1132.out) | exact HB.out)) hb); have n2_ := Aside0.mk (hbox); have n3_ := Aside0.mk ((by rw [hg]; exact (below_size (by repeat (first | (with_reducible first | exact HB.out | apply below_alloc | apply pw_below_drewN | apply below_drew1 | refine below_set ?_ GE1132.out) | exact HB.out))) : w.heap.size ≤ gb1133)); have n4_ := Aside0.mk ((by rw [hg]; exact (below_size (by repeat (first | (with_reducible first | exact HB.out | apply below_alloc | apply pw_below_drewN | apply below_drew1 | refine below_set ?_ GE1132.out) | exact HB.out))) : w.heap.size ≤ gb1133)); have n5_ := Aside0.mk ((by rw [hg]; exact Nat.ne_of_lt (blk_lt (g := gb1132) (o := .cells #[.int .i64 a0_0, .int .i64 a0_1, .int .i64 a0_2, .int .i64 a0_3, .int .i64 a0_4, .slice A0_5 l0_5.length c0_5, .int .i64 a0_6, .bool a0_7] 61 (0, 0)) (by (with_reducible repeat (first | refine blk_drewN ?_ _ | refine blk_drew ?_ | refine blk_alloc ?_ _)); exact BK1132.out)) : gb1132 ≠ gb1133)); have n6_ := Aside0.mk ((by rw [hg]; exact Nat.ne_of_gt (blk_lt (g := gb1132) (o := .cells #[.int .i64 a0_0, .int .i64 a0_1, .int .i64 a0_2, .int .i64 a0_3, .int .i64 a0_4, .slice A0_5 l0_5.length c0_5, .int .i64 a0_6, .bool a0_7] 61 (0, 0)) (by (with_reducible repeat (first | refine blk_drewN ?_ _ | refine blk_drew ?_ | refine blk_alloc ?_ _)); exact BK1132.out)) : gb1133 ≠ gb1132)); clear BK1132; clear HB; have BK1132 := n0_; have HB := n1_; have BK1133 := n2_; have GW1133 := n3_; have GE1133 := n4_; have NB1132_1133 := n5_; have NB1133_1132 := n6_; clear n0_ n1_ n2_ n3_ n4_ n5_ n6_; clear hb hbox hg) | ((with_reducible refine gate_dst (N := 3) rfl ?_); refine Kd.R_lit k127 _ 127 ?hg (N := 3) ?hd (xs := ([] : List (S127))) (inner := []) (ok := fun _ => True) (okp := fun _ => True) ?hr ?hp (fun _ hk => hk) trivial (Below.refl _ _) (Nat.le_refl _) (by simp) ?_; (case hd => rfl); (case hg => rfl); (case hr => first | (go_simp; done) | (go_simp; rfl)); (case hp => exact (Reps.none _ _)); intro v1135 w5 ho6 hb hg_ hnew_; clear hg_ hnew_; (first | rw [← Ny1134.out] at ho6 | (simp only [Int.reduceToNat] at ho6; rw [← Ny1134.out] at ho6)); have n0_ := Aside0.mk (Kd.R_lower ho6 (below_size (by repeat (first | (with_reducible first | exact HB.out | apply below_alloc | apply pw_below_drewN | apply below_drew1 | refine below_set ?_ GE1132.out | refine below_set ?_ GE1133.out) | exact HB.out)))); have n1_ := Aside0.mk (blk_below (g := gb1132) (o := .cells #[.int .i64 a0_0, .int .i64 a0_1, .int .i64 a0_2, .int .i64 a0_3, .int .i64 a0_4, .slice A0_5 l0_5.length c0_5, .int .i64 a0_6, .bool a0_7] 61 (0, 0)) (by (with_reducible repeat (first | refine blk_drewN ?_ _ | refine blk_drew ?_ | refine blk_alloc ?_ _)); exact BK1132.out) hb); have n2_ := Aside0.mk (blk_below (g := gb1133) (o := .cells #[.int .i64 0, .int .i64 0, .int .i64 0, .int .i64 0, .int .i64 0, .slice none 0 0, .int .i64 0, .bool false] 61 (0, 0)) (by (with_reducible repeat (first | refine blk_drewN ?_ _ | refine blk_drew ?_ | refine blk_alloc ?_ _)); exact BK1133.out) hb); have n3_ := Aside0.mk (below_step (by repeat (first | (with_reducible first | exact HB.out | apply below_alloc | apply pw_below_drewN | apply below_drew1 | refine below_set ?_ GE1132.out | refine below_set ?_ GE1133.out) | exact HB.out)) hb); clear BK1132; clear BK1133; clear HB; have HO1136 := n0_; have BK1132 := n1_; have BK1133 := n2_; have HB := n3_; clear n0_ n1_ n2_ n3_; clear hb ho6; obtain ⟨Ao7, co7, eo7⟩ := Kd.R_slice HO1136.out; subst eo7; have hnb8 := NB1132_1133.out; have hnc8 := NB1133_1132.out; have hcz9_0 : w5.cell? ⟨gb1132, 0, none⟩ = some (.int .i64 a0_0) := (blk_cell BK1132.out 0).trans rfl; have hcz9_1 : w5.cell? ⟨gb1132, 1, none⟩ = some (.int .i64 a0_1) := (blk_cell BK1132.out 1).trans rfl; have hcz9_2 : w5.cell? ⟨gb1132, 2, none⟩ = some (.int .i64 a0_2) := (blk_cell BK1132.out 2).trans rfl; have hcz9_3 : w5.cell? ⟨gb1132, 3, none⟩ = some (.int .i64 a0_3) := (blk_cell BK1132.out 3).trans rfl; have hcz9_4 : w5.cell? ⟨gb1132, 4, none⟩ = some (.int .i64 a0_4) := (blk_cell BK1132.out 4).trans rfl; have hcz9_5 : w5.cell? ⟨gb1132, 5, none⟩ = some (.slice A0_5 l0_5.length c0_5) := (blk_cell BK1132.out 5).trans rfl; have hcz9_6 : w5.cell? ⟨gb1132, 6, none⟩ = some (.int .i64 a0_6) := (blk_cell BK1132.out 6).trans rfl; have hcz9_7 : w5.cell? ⟨gb1132, 7, none⟩ = some (.bool a0_7) := (blk_cell BK1132.out 7).trans rfl; have hfz9_0 := blk_frozen BK1132.out 0; have hfz9_1 := blk_frozen BK1132.out 1; have hfz9_2 := blk_frozen BK1132.out 2; have hfz9_3 := blk_frozen BK1132.out 3; have hfz9_4 := blk_frozen BK1132.out 4; have hfz9_5 := blk_frozen BK1132.out 5; have hfz9_6 := blk_frozen BK1132.out 6; have hfz9_7 := blk_frozen BK1132.out 7))
  have n0_ : Aside0 (Kd.R k127 127 ((w5.setCell ⟨gb1132, 5, none⟩ (.slice Ao7 y1134.length co7)).setCell ⟨gb1132, 6, none⟩ (.int .i64 0)) w.heap.size (fun _ => True) (.slice Ao7 y1134.length co7) y1134) := ⟨by (with_reducible repeat (first | apply Kd.R_alloc | apply Kd.R_drewN | apply Kd.R_drew)); exact Kd.R_mono (Kd.R_far (p := ⟨gb1132, 6, none⟩) (Kd.R_far (p := ⟨gb1132, 5, none⟩) (Kd.R_types HO1136.out BK1132.out (by decide)) (fun _ hk => hk.2) (.slice Ao7 y1134.length co7)) (fun _ hk => hk.2) (.int .i64 0)) (fun _ hk => trivial)⟩
  have n1_ : Aside0 (((w5.setCell ⟨gb1132, 5, none⟩ (.slice Ao7 y1134.length co7)).setCell ⟨gb1132, 6, none⟩ (.int .i64 0)).heap[gb1132]? = some (.cells #[.int .i64 a0_0, .int .i64 a0_1, .int .i64 a0_2, .int .i64 a0_3, .int .i64 a0_4, .slice Ao7 y1134.length co7, .int .i64 0, .bool a0_7] 61 (0, 0))) := ⟨by (with_reducible repeat (first | refine blk_drewN ?_ _ | refine blk_drew ?_ | refine blk_alloc ?_ _)); refine blk_put (cs := #[.int .i64 a0_0, .int .i64 a0_1, .int .i64 a0_2, .int .i64 a0_3, .int .i64 a0_4, .slice Ao7 y1134.length co7, .int .i64 a0_6, .bool a0_7]) ?_ 6 _ rfl; (with_reducible repeat (first | refine blk_drewN ?_ _ | refine blk_drew ?_ | refine blk_alloc ?_ _)); refine blk_put (cs := #[.int .i64 a0_0, .int .i64 a0_1, .int .i64 a0_2, .int .i64 a0_3, .int .i64 a0_4, .slice A0_5 l0_5.length c0_5, .int .i64 a0_6, .bool a0_7]) ?_ 5 _ rfl; (with_reducible repeat (first | refine blk_drewN ?_ _ | refine blk_drew ?_ | refine blk_alloc ?_ _)); exact BK1132.out⟩
  have n2_ : Aside0 (((w5.setCell ⟨gb1132, 5, none⟩ (.slice Ao7 y1134.length co7)).setCell ⟨gb1132, 6, none⟩ (.int .i64 0)).heap[gb1133]? = some (.cells #[.int .i64 0, .int .i64 0, .int .i64 0, .int .i64 0, .int .i64 0, .slice none 0 0, .int .i64 0, .bool false] 61 (0, 0))) := ⟨by (with_reducible repeat (first | refine blk_drewN ?_ _ | refine blk_drew ?_ | refine blk_alloc ?_ _)); refine blk_far ?_ NB1133_1132.out _; (with_reducible repeat (first | refine blk_drewN ?_ _ | refine blk_drew ?_ | refine blk_alloc ?_ _)); refine blk_far ?_ NB1133_1132.out _; (with_reducible repeat (first | refine blk_drewN ?_ _ | refine blk_drew ?_ | refine blk_alloc ?_ _)); exact BK1133.out⟩
  have n3_ : Aside0 (Below w.heap.size w ((w5.setCell ⟨gb1132, 5, none⟩ (.slice Ao7 y1134.length co7)).setCell ⟨gb1132, 6, none⟩ (.int .i64 0))) := ⟨by repeat (first | (with_reducible first | exact HB.out | apply below_alloc | apply pw_below_drewN | apply below_drew1 | refine below_set ?_ GE1132.out | refine below_set ?_ GE1133.out) | exact HB.out)⟩
  (try clear HO1136)
  (try clear BK1132)
  (try clear BK1133)
  (try clear HB)
  generalize ((w5.setCell ⟨gb1132, 5, none⟩ (.slice Ao7 y1134.length co7)).setCell ⟨gb1132, 6, none⟩ (.int .i64 0)) = w10 at n0_ n1_ n2_ n3_ ⊢
  have HO1136 := n0_
  have BK1132 := n1_
  have BK1133 := n2_
  have HB := n3_
  clear n0_ n1_ n2_ n3_
  have H := HC2.out
  clear HC2
  by_cases c11 : a0_1 = 3
  · rw [if_pos c11] at H
    have c11b0 : (a0_1 == 3) = true := beq_iff_eq.mpr c11
    have c11b1 : (a0_1 != 3) = false := bne_eq_false_iff_eq.mpr c11
    clear c11
    (first | rw [c11b0] | rw [c11b1] | (simp only [i64_w, i32_w]; first | rw [c11b0] | rw [c11b1]) | skip)
    simp only [Option.some.injEq, Prod.mk.injEq] at H
    obtain ⟨rfl, rfl, rfl, rfl, rfl, rfl, rfl, rfl⟩ := H
    have hnb12 := NB1132_1133.out
    have hnc12 := NB1133_1132.out
    have hcz13_0 : w10.cell? ⟨gb1132, 0, none⟩ = some (.int .i64 a0_0) := (blk_cell BK1132.out 0).trans rfl
    have hcz13_1 : w10.cell? ⟨gb1132, 1, none⟩ = some (.int .i64 a0_1) := (blk_cell BK1132.out 1).trans rfl
    have hcz13_2 : w10.cell? ⟨gb1132, 2, none⟩ = some (.int .i64 a0_2) := (blk_cell BK1132.out 2).trans rfl
    have hcz13_3 : w10.cell? ⟨gb1132, 3, none⟩ = some (.int .i64 a0_3) := (blk_cell BK1132.out 3).trans rfl
    have hcz13_4 : w10.cell? ⟨gb1132, 4, none⟩ = some (.int .i64 a0_4) := (blk_cell BK1132.out 4).trans rfl
    have hcz13_5 : w10.cell? ⟨gb1132, 5, none⟩ = some (.slice Ao7 y1134.length co7) := (blk_cell BK1132.out 5).trans rfl
    have hcz13_6 : w10.cell? ⟨gb1132, 6, none⟩ = some (.int .i64 0) := (blk_cell BK1132.out 6).trans rfl
    have hcz13_7 : w10.cell? ⟨gb1132, 7, none⟩ = some (.bool a0_7) := (blk_cell BK1132.out 7).trans rfl
    have hfz13_0 := blk_frozen BK1132.out 0
    have hfz13_1 := blk_frozen BK1132.out 1
    have hfz13_2 := blk_frozen BK1132.out 2
    have hfz13_3 := blk_frozen BK1132.out 3
    have hfz13_4 := blk_frozen BK1132.out 4
    have hfz13_5 := blk_frozen BK1132.out 5
    have hfz13_6 := blk_frozen BK1132.out 6
    have hfz13_7 := blk_frozen BK1132.out 7
    have hcz14_0 : w10.cell? ⟨gb1133, 0, none⟩ = some (.int .i64 0) := (blk_cell BK1133.out 0).trans rfl
    have hcz14_1 : w10.cell? ⟨gb1133, 1, none⟩ = some (.int .i64 0) := (blk_cell BK1133.out 1).trans rfl
    have hcz14_2 : w10.cell? ⟨gb1133, 2, none⟩ = some (.int .i64 0) := (blk_cell BK1133.out 2).trans rfl
    have hcz14_3 : w10.cell? ⟨gb1133, 3, none⟩ = some (.int .i64 0) := (blk_cell BK1133.out 3).trans rfl
    have hcz14_4 : w10.cell? ⟨gb1133, 4, none⟩ = some (.int .i64 0) := (blk_cell BK1133.out 4).trans rfl
    have hcz14_5 : w10.cell? ⟨gb1133, 5, none⟩ = some (.slice none 0 0) := (blk_cell BK1133.out 5).trans rfl
    have hcz14_6 : w10.cell? ⟨gb1133, 6, none⟩ = some (.int .i64 0) := (blk_cell BK1133.out 6).trans rfl
    have hcz14_7 : w10.cell? ⟨gb1133, 7, none⟩ = some (.bool false) := (blk_cell BK1133.out 7).trans rfl
    have hfz14_0 := blk_frozen BK1133.out 0
    have hfz14_1 := blk_frozen BK1133.out 1
    have hfz14_2 := blk_frozen BK1133.out 2
    have hfz14_3 := blk_frozen BK1133.out 3
    have hfz14_4 := blk_frozen BK1133.out 4
    have hfz14_5 := blk_frozen BK1133.out 5
    have hfz14_6 := blk_frozen BK1133.out 6
    have hfz14_7 := blk_frozen BK1133.out 7
    go_wp2
    refine bodyPost_ret (results_cell_row rfl _ _ gb1133 61 #[.int .i64 a0_0, .int .i64 a0_1, .int .i64 a0_2, .int .i64 a0_3, .int .i64 a0_4, .slice Ao7 y1134.length co7, .int .i64 1, .bool false] (0, 0) _ rfl (by (with_reducible repeat (first | refine blk_drewN ?_ _ | refine blk_drew ?_ | refine blk_alloc ?_ _)); refine blk_put (cs := #[.int .i64 a0_0, .int .i64 a0_1, .int .i64 a0_2, .int .i64 a0_3, .int .i64 a0_4, .slice Ao7 y1134.length co7, .int .i64 1, .bool false]) ?_ 7 _ rfl; (with_reducible repeat (first | refine blk_drewN ?_ _ | refine blk_drew ?_ | refine blk_alloc ?_ _)); refine blk_put (cs := #[.int .i64 a0_0, .int .i64 a0_1, .int .i64 a0_2, .int .i64 a0_3, .int .i64 a0_4, .slice Ao7 y1134.length co7, .int .i64 0, .bool false]) ?_ 6 _ rfl; (with_reducible repeat (first | refine blk_drewN ?_ _ | refine blk_drew ?_ | refine blk_alloc ?_ _)); refine blk_put (cs := #[.int .i64 a0_0, .int .i64 a0_1, .int .i64 a0_2, .int .i64 a0_3, .int .i64 a0_4, .slice none 0 0, .int .i64 0, .bool false]) ?_ 5 _ rfl; (with_reducible repeat (first | refine blk_drewN ?_ _ | refine blk_drew ?_ | refine blk_alloc ?_ _)); refine blk_put (cs := #[.int .i64 a0_0, .int .i64 a0_1, .int .i64 a0_2, .int .i64 a0_3, .int .i64 0, .slice none 0 0, .int .i64 0, .bool false]) ?_ 4 _ rfl; (with_reducible repeat (first | refine blk_drewN ?_ _ | refine blk_drew ?_ | refine blk_alloc ?_ _)); refine blk_put (cs := #[.int .i64 a0_0, .int .i64 a0_1, .int .i64 a0_2, .int .i64 0, .int .i64 0, .slice none 0 0, .int .i64 0, .bool false]) ?_ 3 _ rfl; (with_reducible repeat (first | refine blk_drewN ?_ _ | refine blk_drew ?_ | refine blk_alloc ?_ _)); refine blk_put (cs := #[.int .i64 a0_0, .int .i64 a0_1, .int .i64 0, .int .i64 0, .int .i64 0, .slice none 0 0, .int .i64 0, .bool false]) ?_ 2 _ rfl; (with_reducible repeat (first | refine blk_drewN ?_ _ | refine blk_drew ?_ | refine blk_alloc ?_ _)); refine blk_put (cs := #[.int .i64 a0_0, .int .i64 0, .int .i64 0, .int .i64 0, .int .i64 0, .slice none 0 0, .int .i64 0, .bool false]) ?_ 1 _ rfl; (with_reducible repeat (first | refine blk_drewN ?_ _ | refine blk_drew ?_ | refine blk_alloc ?_ _)); refine blk_put (cs := #[.int .i64 0, .int .i64 0, .int .i64 0, .int .i64 0, .int .i64 0, .slice none 0 0, .int .i64 0, .bool false]) ?_ 0 _ rfl; (with_reducible repeat (first | refine blk_drewN ?_ _ | refine blk_drew ?_ | refine blk_alloc ?_ _)); refine blk_far ?_ NB1133_1132.out _; (with_reducible repeat (first | refine blk_drewN ?_ _ | refine blk_drew ?_ | refine blk_alloc ?_ _)); refine blk_far ?_ NB1133_1132.out _; (with_reducible repeat (first | refine blk_drewN ?_ _ | refine blk_drew ?_ | refine blk_alloc ?_ _)); exact BK1133.out) Try.underlying61 rfl (by kernel_rfl)) rfl ?_
    exact ⟨_, by first | rfl | (simp [errW_none, errW_some] <;> rfl) | (simp [*, errW_none, errW_some] <;> rfl), by (with_reducible repeat (first | apply Kd.R_alloc | apply Kd.R_drewN | apply Kd.R_drew)); exact Kd.R_mono (Kd.R_far (p := ⟨gb1133, 7, none⟩) (Kd.R_far (p := ⟨gb1133, 6, none⟩) (Kd.R_far (p := ⟨gb1133, 5, none⟩) (Kd.R_far (p := ⟨gb1133, 4, none⟩) (Kd.R_far (p := ⟨gb1133, 3, none⟩) (Kd.R_far (p := ⟨gb1133, 2, none⟩) (Kd.R_far (p := ⟨gb1133, 1, none⟩) (Kd.R_far (p := ⟨gb1133, 0, none⟩) (Kd.R_far (p := ⟨gb1132, 7, none⟩) (Kd.R_far (p := ⟨gb1132, 6, none⟩) (Kd.R_types (Kd.R_types HO1136.out BK1132.out (by decide)) BK1133.out (by decide)) (fun _ hk => hk.1.2) (.int .i64 1)) (fun _ hk => hk.1.2) (.bool false)) (fun _ hk => hk.2) (.int .i64 a0_0)) (fun _ hk => hk.2) (.int .i64 a0_1)) (fun _ hk => hk.2) (.int .i64 a0_2)) (fun _ hk => hk.2) (.int .i64 a0_3)) (fun _ hk => hk.2) (.int .i64 a0_4)) (fun _ hk => hk.2) (.slice Ao7 y1134.length co7)) (fun _ hk => hk.2) (.int .i64 1)) (fun _ hk => hk.2) (.bool false)) (fun _ hk => trivial), by repeat (first | (with_reducible first | exact HB.out | apply below_alloc | apply pw_below_drewN | apply below_drew1 | refine below_set ?_ GE1132.out | refine below_set ?_ GE1133.out) | exact HB.out)⟩
  · rw [if_neg c11] at H
    have c11b0 : (a0_1 == 3) = false := beq_eq_false_iff_ne.mpr c11
    have c11b1 : (a0_1 != 3) = true := bne_iff_ne.mpr c11
    (first | rw [c11b0] | rw [c11b1] | (simp only [i64_w, i32_w]; first | rw [c11b0] | rw [c11b1]) | skip)
    simp only [Option.some.injEq, Prod.mk.injEq] at H
    obtain ⟨rfl, rfl, rfl, rfl, rfl, rfl, rfl, rfl⟩ := H
    have hnb15 := NB1132_1133.out
    have hnc15 := NB1133_1132.out
    have hcz16_0 : w10.cell? ⟨gb1132, 0, none⟩ = some (.int .i64 a0_0) := (blk_cell BK1132.out 0).trans rfl
    have hcz16_1 : w10.cell? ⟨gb1132, 1, none⟩ = some (.int .i64 a0_1) := (blk_cell BK1132.out 1).trans rfl
    have hcz16_2 : w10.cell? ⟨gb1132, 2, none⟩ = some (.int .i64 a0_2) := (blk_cell BK1132.out 2).trans rfl
    have hcz16_3 : w10.cell? ⟨gb1132, 3, none⟩ = some (.int .i64 a0_3) := (blk_cell BK1132.out 3).trans rfl
    have hcz16_4 : w10.cell? ⟨gb1132, 4, none⟩ = some (.int .i64 a0_4) := (blk_cell BK1132.out 4).trans rfl
    have hcz16_5 : w10.cell? ⟨gb1132, 5, none⟩ = some (.slice Ao7 y1134.length co7) := (blk_cell BK1132.out 5).trans rfl
    have hcz16_6 : w10.cell? ⟨gb1132, 6, none⟩ = some (.int .i64 0) := (blk_cell BK1132.out 6).trans rfl
    have hcz16_7 : w10.cell? ⟨gb1132, 7, none⟩ = some (.bool a0_7) := (blk_cell BK1132.out 7).trans rfl
    have hfz16_0 := blk_frozen BK1132.out 0
    have hfz16_1 := blk_frozen BK1132.out 1
    have hfz16_2 := blk_frozen BK1132.out 2
    have hfz16_3 := blk_frozen BK1132.out 3
    have hfz16_4 := blk_frozen BK1132.out 4
    have hfz16_5 := blk_frozen BK1132.out 5
    have hfz16_6 := blk_frozen BK1132.out 6
    have hfz16_7 := blk_frozen BK1132.out 7
    have hcz17_0 : w10.cell? ⟨gb1133, 0, none⟩ = some (.int .i64 0) := (blk_cell BK1133.out 0).trans rfl
    have hcz17_1 : w10.cell? ⟨gb1133, 1, none⟩ = some (.int .i64 0) := (blk_cell BK1133.out 1).trans rfl
    have hcz17_2 : w10.cell? ⟨gb1133, 2, none⟩ = some (.int .i64 0) := (blk_cell BK1133.out 2).trans rfl
    have hcz17_3 : w10.cell? ⟨gb1133, 3, none⟩ = some (.int .i64 0) := (blk_cell BK1133.out 3).trans rfl
    have hcz17_4 : w10.cell? ⟨gb1133, 4, none⟩ = some (.int .i64 0) := (blk_cell BK1133.out 4).trans rfl
    have hcz17_5 : w10.cell? ⟨gb1133, 5, none⟩ = some (.slice none 0 0) := (blk_cell BK1133.out 5).trans rfl
    have hcz17_6 : w10.cell? ⟨gb1133, 6, none⟩ = some (.int .i64 0) := (blk_cell BK1133.out 6).trans rfl
    have hcz17_7 : w10.cell? ⟨gb1133, 7, none⟩ = some (.bool false) := (blk_cell BK1133.out 7).trans rfl
    have hfz17_0 := blk_frozen BK1133.out 0
    have hfz17_1 := blk_frozen BK1133.out 1
    have hfz17_2 := blk_frozen BK1133.out 2
    have hfz17_3 := blk_frozen BK1133.out 3
    have hfz17_4 := blk_frozen BK1133.out 4
    have hfz17_5 := blk_frozen BK1133.out 5
    have hfz17_6 := blk_frozen BK1133.out 6
    have hfz17_7 := blk_frozen BK1133.out 7
    go_wp2
    refine bodyPost_ret (results_cell_row rfl _ _ gb1133 61 #[.int .i64 a0_0, .int .i64 a0_1, .int .i64 a0_2, .int .i64 a0_3, .int .i64 a0_4, .slice Ao7 y1134.length co7, .int .i64 0, .bool false] (0, 0) _ rfl (by (with_reducible repeat (first | refine blk_drewN ?_ _ | refine blk_drew ?_ | refine blk_alloc ?_ _)); refine blk_put (cs := #[.int .i64 a0_0, .int .i64 a0_1, .int .i64 a0_2, .int .i64 a0_3, .int .i64 a0_4, .slice Ao7 y1134.length co7, .int .i64 0, .bool false]) ?_ 7 _ rfl; (with_reducible repeat (first | refine blk_drewN ?_ _ | refine blk_drew ?_ | refine blk_alloc ?_ _)); refine blk_put (cs := #[.int .i64 a0_0, .int .i64 a0_1, .int .i64 a0_2, .int .i64 a0_3, .int .i64 a0_4, .slice Ao7 y1134.length co7, .int .i64 0, .bool false]) ?_ 6 _ rfl; (with_reducible repeat (first | refine blk_drewN ?_ _ | refine blk_drew ?_ | refine blk_alloc ?_ _)); refine blk_put (cs := #[.int .i64 a0_0, .int .i64 a0_1, .int .i64 a0_2, .int .i64 a0_3, .int .i64 a0_4, .slice none 0 0, .int .i64 0, .bool false]) ?_ 5 _ rfl; (with_reducible repeat (first | refine blk_drewN ?_ _ | refine blk_drew ?_ | refine blk_alloc ?_ _)); refine blk_put (cs := #[.int .i64 a0_0, .int .i64 a0_1, .int .i64 a0_2, .int .i64 a0_3, .int .i64 0, .slice none 0 0, .int .i64 0, .bool false]) ?_ 4 _ rfl; (with_reducible repeat (first | refine blk_drewN ?_ _ | refine blk_drew ?_ | refine blk_alloc ?_ _)); refine blk_put (cs := #[.int .i64 a0_0, .int .i64 a0_1, .int .i64 a0_2, .int .i64 0, .int .i64 0, .slice none 0 0, .int .i64 0, .bool false]) ?_ 3 _ rfl; (with_reducible repeat (first | refine blk_drewN ?_ _ | refine blk_drew ?_ | refine blk_alloc ?_ _)); refine blk_put (cs := #[.int .i64 a0_0, .int .i64 a0_1, .int .i64 0, .int .i64 0, .int .i64 0, .slice none 0 0, .int .i64 0, .bool false]) ?_ 2 _ rfl; (with_reducible repeat (first | refine blk_drewN ?_ _ | refine blk_drew ?_ | refine blk_alloc ?_ _)); refine blk_put (cs := #[.int .i64 a0_0, .int .i64 0, .int .i64 0, .int .i64 0, .int .i64 0, .slice none 0 0, .int .i64 0, .bool false]) ?_ 1 _ rfl; (with_reducible repeat (first | refine blk_drewN ?_ _ | refine blk_drew ?_ | refine blk_alloc ?_ _)); refine blk_put (cs := #[.int .i64 0, .int .i64 0, .int .i64 0, .int .i64 0, .int .i64 0, .slice none 0 0, .int .i64 0, .bool false]) ?_ 0 _ rfl; (with_reducible repeat (first | refine blk_drewN ?_ _ | refine blk_drew ?_ | refine blk_alloc ?_ _)); refine blk_far ?_ NB1133_1132.out _; (with_reducible repeat (first | refine blk_drewN ?_ _ | refine blk_drew ?_ | refine blk_alloc ?_ _)); exact BK1133.out) Try.underlying61 rfl (by kernel_rfl)) rfl ?_
    exact ⟨_, by first | rfl | (simp [errW_none, errW_some] <;> rfl) | (simp [*, errW_none, errW_some] <;> rfl), by (with_reducible repeat (first | apply Kd.R_alloc | apply Kd.R_drewN | apply Kd.R_drew)); exact Kd.R_mono (Kd.R_far (p := ⟨gb1133, 7, none⟩) (Kd.R_far (p := ⟨gb1133, 6, none⟩) (Kd.R_far (p := ⟨gb1133, 5, none⟩) (Kd.R_far (p := ⟨gb1133, 4, none⟩) (Kd.R_far (p := ⟨gb1133, 3, none⟩) (Kd.R_far (p := ⟨gb1133, 2, none⟩) (Kd.R_far (p := ⟨gb1133, 1, none⟩) (Kd.R_far (p := ⟨gb1133, 0, none⟩) (Kd.R_far (p := ⟨gb1132, 7, none⟩) (Kd.R_types (Kd.R_types HO1136.out BK1132.out (by decide)) BK1133.out (by decide)) (fun _ hk => hk.1.2) (.bool false)) (fun _ hk => hk.2) (.int .i64 a0_0)) (fun _ hk => hk.2) (.int .i64 a0_1)) (fun _ hk => hk.2) (.int .i64 a0_2)) (fun _ hk => hk.2) (.int .i64 a0_3)) (fun _ hk => hk.2) (.int .i64 a0_4)) (fun _ hk => hk.2) (.slice Ao7 y1134.length co7)) (fun _ hk => hk.2) (.int .i64 0)) (fun _ hk => hk.2) (.bool false)) (fun _ hk => trivial), by repeat (first | (with_reducible first | exact HB.out | apply below_alloc | apply pw_below_drewN | apply below_drew1 | refine below_set ?_ GE1132.out | refine below_set ?_ GE1133.out) | exact HB.out)⟩

end Go.Proofs.Ythjmdiggglkeaaa.Q
