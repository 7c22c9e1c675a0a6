/- A Go function as a Lean function, and its contract: for every input the Go code comes to what the Lean function tells. -/
import Derived.Test.YthjmdiggglkeaaaQk
import Derived.Test.YthjmdiggglkeaaaQimplcopyRecord
namespace Go.Proofs.Ythjmdiggglkeaaa.Q
open Go.RowKit Go.Proofs.YthjmdiggglkeaaaW.PrintWords Go.Proofs.YthjmdiggglkeaaaW.PrintLast Go.Proofs.YthjmdiggglkeaaaW.PrintMore
attribute [local go_sem] max2_int min2_int max_two min_two max_three min_three max_four min_four   -- for this text's walks alone
set_option linter.unusedVariables false
set_option linter.unusedSimpArgs false

/-! ### impl_Scope: function 56 -/
def impl_Scope.l0 : Nat → Int → List (S61) → List (S61) → Int → Int → Option ((List (S61)))
  | 0, _, _, _, _, _ => none
  | k + 1, x1, x5, x8, x9, x10 => if x10 < x9 then (if 0 ≤ x10 then (if x10 < (x8.length : Int) then (if ((rd_T61 x8 x10).f0) = x1 then ((impl_copyRecord.f ((rd_T61 x8 x10).f0) ((rd_T61 x8 x10).f1) ((rd_T61 x8 x10).f2) ((rd_T61 x8 x10).f3) ((rd_T61 x8 x10).f4) ((rd_T61 x8 x10).f5) ((rd_T61 x8 x10).f6) ((rd_T61 x8 x10).f7)).bind fun bt1154 => (if x5.length < 1759218604441 then (impl_Scope.l0 k x1 (x5 ++ [(⟨bt1154.1, bt1154.2.1, bt1154.2.2.1, bt1154.2.2.2.1, bt1154.2.2.2.2.1, bt1154.2.2.2.2.2.1, bt1154.2.2.2.2.2.2.1, bt1154.2.2.2.2.2.2.2⟩ : S61)]) x8 x9 (wrap64 (x10 + 1))) else (none))) else (if ((rd_T61 x8 x10).f0) = 9 then ((impl_copyRecord.f ((rd_T61 x8 x10).f0) ((rd_T61 x8 x10).f1) ((rd_T61 x8 x10).f2) ((rd_T61 x8 x10).f3) ((rd_T61 x8 x10).f4) ((rd_T61 x8 x10).f5) ((rd_T61 x8 x10).f6) ((rd_T61 x8 x10).f7)).bind fun bt1167 => (if x5.length < 1759218604441 then (impl_Scope.l0 k x1 (x5 ++ [(⟨bt1167.1, bt1167.2.1, bt1167.2.2.1, bt1167.2.2.2.1, bt1167.2.2.2.2.1, bt1167.2.2.2.2.2.1, bt1167.2.2.2.2.2.2.1, bt1167.2.2.2.2.2.2.2⟩ : S61)]) x8 x9 (wrap64 (x10 + 1))) else (none))) else (impl_Scope.l0 k x1 x5 x8 x9 (wrap64 (x10 + 1))))) else (none)) else (none)) else (some x5)
def impl_Scope.f (k : Nat) (l0 : List (S61)) (a1 : Int) : Option ((List (S61))) := impl_Scope.l0 k a1 ([] : List (S61)) l0 (l0.length : Int) 0
theorem impl_Scope.mono_l : ∀ k, (∀ y0 y1 y2 y3 y4, LeO (impl_Scope.l0 k y0 y1 y2 y3 y4) (impl_Scope.l0 (k + 1) y0 y1 y2 y3 y4))
  | 0 => fun _ _ _ _ _ r h => by simp [impl_Scope.l0] at h
  | k + 1 => by
    have ih0 := impl_Scope.mono_l k
    · intro y0 y1 y2 y3 y4
      unfold impl_Scope.l0
      repeat' first
      | (with_reducible exact ih0 _ _ _ _ _)
      | (with_reducible exact LeO.refl _)
      | (with_reducible exact LeO.none _)
      | (with_reducible refine LeO.ite ?_ ?_)
      | (with_reducible refine LeO.bind ?_ (fun _ => ?_))
      | exact ih0 _ _ _ _ _
      | exact LeO.none _
      | refine LeO.ite ?_ ?_
      | refine LeO.bind ?_ (fun _ => ?_)
theorem impl_Scope.mono : ∀ a0 a1 k, LeO (impl_Scope.f k a0 a1) (impl_Scope.f (k + 1) a0 a1) := by
  intro a0 a1 k
  have ih0 := impl_Scope.mono_l k
  unfold impl_Scope.f
  repeat' first
      | (with_reducible exact ih0 _ _ _ _ _)
      | (with_reducible exact LeO.refl _)
      | (with_reducible exact LeO.none _)
      | (with_reducible refine LeO.ite ?_ ?_)
      | (with_reducible refine LeO.bind ?_ (fun _ => ?_))
      | exact ih0 _ _ _ _ _
      | exact LeO.none _
      | refine LeO.ite ?_ ?_
      | refine LeO.bind ?_ (fun _ => ?_)
set_option maxHeartbeats 8000000 in
set_option maxRecDepth 100000 in
theorem impl_Scope.calls (k : Nat) (A0 : Option Addr) (c0 : Nat) (l0 : List (S61)) (a1 : Int) (r : List (S61)) (w : World) (hr0 : Kd.C k61 w A0 l0.length l0) (hc0 : l0.length ≤ c0) (h : impl_Scope.f k l0 a1 = some r) :
    Calls Try.prog 56 #[.slice A0 l0.length c0, .int .i64 a1] w fun e w' => ∃ v0_ : Value, e = .returned (v0_) ∧ Kd.S k61 61 w' w.heap.size (fun _ => True) v0_ r ∧ Below w.heap.size w w' := by
  have hu61 := Try.underlying61
  have HR0 := Aside0.mk hr0
  have HC0 := Aside0.mk hc0
  clear hr0 hc0
  have HB := Aside0.mk (Below.refl w.heap.size w)
  have H : (impl_Scope.l0 k a1 ([] : List (S61)) l0 (l0.length : Int) 0) = some r := h
  clear h
  have H' := Aside0.mk H
  clear H
  go_enter Try.func56, Try.ntmps56
  go_wp2
  go_loopg [5, 10] k (fun kq v5 v10 w' => ∃ (x5_1 : List (S61)) (x10_1 : Int), v10 = .int .i64 x10_1 ∧ Aside0 (impl_Scope.l0 kq a1 x5_1 l0 (l0.length : Int) x10_1 = some r) ∧ Aside0 (kq ≤ k) ∧ Aside0 (Kd.S k61 61 w' w.heap.size (fun _ => True) v5 x5_1) ∧ Aside0 (Below w.heap.size w w'))
  case atStart => exact ⟨(([] : List (S61))), (0), (by first | rfl | (simp; done) | (simp [*]; done)), H', ⟨Nat.le_refl _⟩, ⟨by first | exact Kd.S_nil _ _ _ _ _ | exact Kd.N_nil _ _ _ _ _ | exact Kd.V_nil _ _ _ _ _ | exact Kd.Q_nil _ _ _ _ _ | exact Kd.R_nil _ _ _ _ _⟩, ⟨by repeat (first | (with_reducible first | exact HB.out | apply below_alloc | apply pw_below_drewN | apply below_drew1) | exact HB.out)⟩⟩
  case round =>
    clear H'
    try clear p2
    obtain ⟨x5_1, x10_1, rfl, HA, HK1, HO_5, HB⟩ := hrel
    cases gk with
    | zero => exact absurd HA.out (by simp [impl_Scope.l0])
    | succ k1 =>
      have H := HA.out
      clear HA
      simp only [impl_Scope.l0] at H
      by_cases c3 : x10_1 < (l0.length : Int)
      · rw [if_pos c3] at H
        have c3b0 : decide (x10_1 < (l0.length : Int)) = true := decide_eq_true c3
        clear c3
        by_cases c4 : 0 ≤ x10_1
        · rw [if_pos c4] at H
          have c4b0 : decide (0 ≤ x10_1) = true := decide_eq_true c4
          clear c4
          by_cases c5 : x10_1 < (l0.length : Int)
          · rw [if_pos c5] at H
            have c5b0 : decide (x10_1 < (l0.length : Int)) = true := decide_eq_true c5
            clear c5
            by_cases c6 : ((rd_T61 l0 x10_1).f0) = a1
            · rw [if_pos c6] at H
              have c6b0 : (((rd_T61 l0 x10_1).f0) == a1) = true := beq_iff_eq.mpr c6
              have c6b1 : (((rd_T61 l0 x10_1).f0) != a1) = false := bne_eq_false_iff_eq.mpr c6
              clear c6
              have HC7 := Aside0.mk H
              clear H
              have p1152 : 0 ≤ (x10_1 : Int) := of_decide_eq_true (by first | (with_reducible assumption) | assumption)
              have q1152 : x10_1 < (l0.length : Int) := of_decide_eq_true (by first | (with_reducible assumption) | assumption)
              obtain ⟨ad1152, A1152_5, c1152_5, e1152, hx1152_0, hx1152_1, hx1152_2, hx1152_3, hx1152_4, hx1152_5, hx1152_6, hx1152_7, hl1152_5, hi1152_5⟩ := at_T61 HR0.out x10_1 p1152 q1152
              cases e1152
              replace hx1152_0 := (HB.out.cell (World.block_lt_of_cell? w _ hx1152_0)).trans hx1152_0
              replace hx1152_1 := (HB.out.cell (World.block_lt_of_cell? w _ hx1152_1)).trans hx1152_1
              replace hx1152_2 := (HB.out.cell (World.block_lt_of_cell? w _ hx1152_2)).trans hx1152_2
              replace hx1152_3 := (HB.out.cell (World.block_lt_of_cell? w _ hx1152_3)).trans hx1152_3
              replace hx1152_4 := (HB.out.cell (World.block_lt_of_cell? w _ hx1152_4)).trans hx1152_4
              replace hx1152_5 := (HB.out.cell (World.block_lt_of_cell? w _ hx1152_5)).trans hx1152_5
              replace hx1152_6 := (HB.out.cell (World.block_lt_of_cell? w _ hx1152_6)).trans hx1152_6
              replace hx1152_7 := (HB.out.cell (World.block_lt_of_cell? w _ hx1152_7)).trans hx1152_7
              have HR1152_5 := Aside0.mk hi1152_5
              have HC1152_5 := Aside0.mk hl1152_5
              clear hi1152_5 hl1152_5
              replace p1152 := eq_true p1152
              replace q1152 := eq_true q1152
              go_upto_if 22 with (first | ((with_reducible refine gate_dst (N := 7) rfl ?_); refine box_event ?hg (N := 7) ?hd (cs := #[.int .i64 0, .int .i64 0, .int .i64 0, .int .i64 0, .int .i64 0, .slice none 0 0, .int .i64 0, .bool false]) (t := 61) ?hr ?_; (case hd => rfl); (case hg => rfl); (case hr => first | (go_simp; done) | (go_simp; rfl)); intro gb1153 hg w8 hbox hb; have n0_ := Aside0.mk (Kd.S_below (Kd.S_elderB (by (with_reducible repeat (first | apply Kd.S_alloc | apply Kd.S_drewN | apply Kd.S_drew)); exact HO_5.out) gb1153 (Nat.le_of_eq hg.symm)) hb); have n1_ := Aside0.mk (below_step (by repeat (first | (with_reducible first | exact HB.out | apply below_alloc | apply pw_below_drewN | apply below_drew1) | exact HB.out)) hb); have n2_ := Aside0.mk (hbox); have n3_ := Aside0.mk ((by rw [hg]; exact (below_size (by repeat (first | (with_reducible first | exact HB.out | apply below_alloc | apply pw_below_drewN | apply below_drew1) | exact HB.out))) : w.heap.size ≤ gb1153)); have n4_ := Aside0.mk ((by rw [hg]; exact (below_size (by repeat (first | (with_reducible first | exact HB.out | apply below_alloc | apply pw_below_drewN | apply below_drew1) | exact HB.out))) : w.heap.size ≤ gb1153)); clear HO_5; clear HB; have HO_5 := n0_; have HB := n1_; have BK1153 := n2_; have GW1153 := n3_; have GE1153 := n4_; clear n0_ n1_ n2_ n3_ n4_; clear hb hbox hg; have hcz9_0 : w8.cell? ⟨gb1153, 0, none⟩ = some (.int .i64 0) := (blk_cell BK1153.out 0).trans rfl; have hcz9_1 : w8.cell? ⟨gb1153, 1, none⟩ = some (.int .i64 0) := (blk_cell BK1153.out 1).trans rfl; have hcz9_2 : w8.cell? ⟨gb1153, 2, none⟩ = some (.int .i64 0) := (blk_cell BK1153.out 2).trans rfl; have hcz9_3 : w8.cell? ⟨gb1153, 3, none⟩ = some (.int .i64 0) := (blk_cell BK1153.out 3).trans rfl; have hcz9_4 : w8.cell? ⟨gb1153, 4, none⟩ = some (.int .i64 0) := (blk_cell BK1153.out 4).trans rfl; have hcz9_5 : w8.cell? ⟨gb1153, 5, none⟩ = some (.slice none 0 0) := (blk_cell BK1153.out 5).trans rfl; have hcz9_6 : w8.cell? ⟨gb1153, 6, none⟩ = some (.int .i64 0) := (blk_cell BK1153.out 6).trans rfl; have hcz9_7 : w8.cell? ⟨gb1153, 7, none⟩ = some (.bool false) := (blk_cell BK1153.out 7).trans rfl; have hfz9_0 := blk_frozen BK1153.out 0; have hfz9_1 := blk_frozen BK1153.out 1; have hfz9_2 := blk_frozen BK1153.out 2; have hfz9_3 := blk_frozen BK1153.out 3; have hfz9_4 := blk_frozen BK1153.out 4; have hfz9_5 := blk_frozen BK1153.out 5; have hfz9_6 := blk_frozen BK1153.out 6; have hfz9_7 := blk_frozen BK1153.out 7))
              have n0_ : Aside0 (Kd.S k61 61 ((((((((w8.setCell ⟨gb1153, 0, none⟩ (.int .i64 ((rd_T61 l0 x10_1).f0))).setCell ⟨gb1153, 1, none⟩ (.int .i64 ((rd_T61 l0 x10_1).f1))).setCell ⟨gb1153, 2, none⟩ (.int .i64 ((rd_T61 l0 x10_1).f2))).setCell ⟨gb1153, 3, none⟩ (.int .i64 ((rd_T61 l0 x10_1).f3))).setCell ⟨gb1153, 4, none⟩ (.int .i64 ((rd_T61 l0 x10_1).f4))).setCell ⟨gb1153, 5, none⟩ (.slice A1152_5 ((rd_T61 l0 x10_1).f5).length c1152_5)).setCell ⟨gb1153, 6, none⟩ (.int .i64 ((rd_T61 l0 x10_1).f6))).setCell ⟨gb1153, 7, none⟩ (.bool ((rd_T61 l0 x10_1).f7))) w.heap.size (fun k_ => k_ ≠ gb1153) u5 x5_1) := ⟨by (with_reducible repeat (first | apply Kd.S_alloc | apply Kd.S_drewN | apply Kd.S_drew)); exact Kd.S_mono (Kd.S_far (p := ⟨gb1153, 7, none⟩) (Kd.S_far (p := ⟨gb1153, 6, none⟩) (Kd.S_far (p := ⟨gb1153, 5, none⟩) (Kd.S_far (p := ⟨gb1153, 4, none⟩) (Kd.S_far (p := ⟨gb1153, 3, none⟩) (Kd.S_far (p := ⟨gb1153, 2, none⟩) (Kd.S_far (p := ⟨gb1153, 1, none⟩) (Kd.S_far (p := ⟨gb1153, 0, none⟩) (Kd.S_mono HO_5.out (fun k_ hk => (⟨hk, hk.2⟩ : _ ∧ k_ ≠ gb1153))) (fun _ hk => hk.2) (.int .i64 ((rd_T61 l0 x10_1).f0))) (fun _ hk => hk.2) (.int .i64 ((rd_T61 l0 x10_1).f1))) (fun _ hk => hk.2) (.int .i64 ((rd_T61 l0 x10_1).f2))) (fun _ hk => hk.2) (.int .i64 ((rd_T61 l0 x10_1).f3))) (fun _ hk => hk.2) (.int .i64 ((rd_T61 l0 x10_1).f4))) (fun _ hk => hk.2) (.slice A1152_5 ((rd_T61 l0 x10_1).f5).length c1152_5)) (fun _ hk => hk.2) (.int .i64 ((rd_T61 l0 x10_1).f6))) (fun _ hk => hk.2) (.bool ((rd_T61 l0 x10_1).f7))) (fun _ hk => hk.1.2)⟩
              have n1_ : Aside0 (((((((((w8.setCell ⟨gb1153, 0, none⟩ (.int .i64 ((rd_T61 l0 x10_1).f0))).setCell ⟨gb1153, 1, none⟩ (.int .i64 ((rd_T61 l0 x10_1).f1))).setCell ⟨gb1153, 2, none⟩ (.int .i64 ((rd_T61 l0 x10_1).f2))).setCell ⟨gb1153, 3, none⟩ (.int .i64 ((rd_T61 l0 x10_1).f3))).setCell ⟨gb1153, 4, none⟩ (.int .i64 ((rd_T61 l0 x10_1).f4))).setCell ⟨gb1153, 5, none⟩ (.slice A1152_5 ((rd_T61 l0 x10_1).f5).length c1152_5)).setCell ⟨gb1153, 6, none⟩ (.int .i64 ((rd_T61 l0 x10_1).f6))).setCell ⟨gb1153, 7, none⟩ (.bool ((rd_T61 l0 x10_1).f7))).heap[gb1153]? = some (.cells #[.int .i64 ((rd_T61 l0 x10_1).f0), .int .i64 ((rd_T61 l0 x10_1).f1), .int .i64 ((rd_T61 l0 x10_1).f2), .int .i64 ((rd_T61 l0 x10_1).f3), .int .i64 ((rd_T61 l0 x10_1).f4), .slice A1152_5 ((rd_T61 l0 x10_1).f5).length c1152_5, .int .i64 ((rd_T61 l0 x10_1).f6), .bool ((rd_T61 l0 x10_1).f7)] 61 (0, 0))) := ⟨by (with_reducible repeat (first | refine blk_drewN ?_ _ | refine blk_drew ?_ | refine blk_alloc ?_ _)); refine blk_put (cs := #[.int .i64 ((rd_T61 l0 x10_1).f0), .int .i64 ((rd_T61 l0 x10_1).f1), .int .i64 ((rd_T61 l0 x10_1).f2), .int .i64 ((rd_T61 l0 x10_1).f3), .int .i64 ((rd_T61 l0 x10_1).f4), .slice A1152_5 ((rd_T61 l0 x10_1).f5).length c1152_5, .int .i64 ((rd_T61 l0 x10_1).f6), .bool false]) ?_ 7 _ rfl; (with_reducible repeat (first | refine blk_drewN ?_ _ | refine blk_drew ?_ | refine blk_alloc ?_ _)); refine blk_put (cs := #[.int .i64 ((rd_T61 l0 x10_1).f0), .int .i64 ((rd_T61 l0 x10_1).f1), .int .i64 ((rd_T61 l0 x10_1).f2), .int .i64 ((rd_T61 l0 x10_1).f3), .int .i64 ((rd_T61 l0 x10_1).f4), .slice A1152_5 ((rd_T61 l0 x10_1).f5).length c1152_5, .int .i64 0, .bool false]) ?_ 6 _ rfl; (with_reducible repeat (first | refine blk_drewN ?_ _ | refine blk_drew ?_ | refine blk_alloc ?_ _)); refine blk_put (cs := #[.int .i64 ((rd_T61 l0 x10_1).f0), .int .i64 ((rd_T61 l0 x10_1).f1), .int .i64 ((rd_T61 l0 x10_1).f2), .int .i64 ((rd_T61 l0 x10_1).f3), .int .i64 ((rd_T61 l0 x10_1).f4), .slice none 0 0, .int .i64 0, .bool false]) ?_ 5 _ rfl; (with_reducible repeat (first | refine blk_drewN ?_ _ | refine blk_drew ?_ | refine blk_alloc ?_ _)); refine blk_put (cs := #[.int .i64 ((rd_T61 l0 x10_1).f0), .int .i64 ((rd_T61 l0 x10_1).f1), .int .i64 ((rd_T61 l0 x10_1).f2), .int .i64 ((rd_T61 l0 x10_1).f3), .int .i64 0, .slice none 0 0, .int .i64 0, .bool false]) ?_ 4 _ rfl; (with_reducible repeat (first | refine blk_drewN ?_ _ | refine blk_drew ?_ | refine blk_alloc ?_ _)); refine blk_put (cs := #[.int .i64 ((rd_T61 l0 x10_1).f0), .int .i64 ((rd_T61 l0 x10_1).f1), .int .i64 ((rd_T61 l0 x10_1).f2), .int .i64 0, .int .i64 0, .slice none 0 0, .int .i64 0, .bool false]) ?_ 3 _ rfl; (with_reducible repeat (first | refine blk_drewN ?_ _ | refine blk_drew ?_ | refine blk_alloc ?_ _)); refine blk_put (cs := #[.int .i64 ((rd_T61 l0 x10_1).f0), .int .i64 ((rd_T61 l0 x10_1).f1), .int .i64 0, .int .i64 0, .int .i64 0, .slice none 0 0, .int .i64 0, .bool false]) ?_ 2 _ rfl; (with_reducible repeat (first | refine blk_drewN ?_ _ | refine blk_drew ?_ | refine blk_alloc ?_ _)); refine blk_put (cs := #[.int .i64 ((rd_T61 l0 x10_1).f0), .int .i64 0, .int .i64 0, .int .i64 0, .int .i64 0, .slice none 0 0, .int .i64 0, .bool false]) ?_ 1 _ rfl; (with_reducible repeat (first | refine blk_drewN ?_ _ | refine blk_drew ?_ | refine blk_alloc ?_ _)); refine blk_put (cs := #[.int .i64 0, .int .i64 0, .int .i64 0, .int .i64 0, .int .i64 0, .slice none 0 0, .int .i64 0, .bool false]) ?_ 0 _ rfl; (with_reducible repeat (first | refine blk_drewN ?_ _ | refine blk_drew ?_ | refine blk_alloc ?_ _)); exact BK1153.out⟩
              have n2_ : Aside0 (Below w.heap.size w ((((((((w8.setCell ⟨gb1153, 0, none⟩ (.int .i64 ((rd_T61 l0 x10_1).f0))).setCell ⟨gb1153, 1, none⟩ (.int .i64 ((rd_T61 l0 x10_1).f1))).setCell ⟨gb1153, 2, none⟩ (.int .i64 ((rd_T61 l0 x10_1).f2))).setCell ⟨gb1153, 3, none⟩ (.int .i64 ((rd_T61 l0 x10_1).f3))).setCell ⟨gb1153, 4, none⟩ (.int .i64 ((rd_T61 l0 x10_1).f4))).setCell ⟨gb1153, 5, none⟩ (.slice A1152_5 ((rd_T61 l0 x10_1).f5).length c1152_5)).setCell ⟨gb1153, 6, none⟩ (.int .i64 ((rd_T61 l0 x10_1).f6))).setCell ⟨gb1153, 7, none⟩ (.bool ((rd_T61 l0 x10_1).f7)))) := ⟨by repeat (first | (with_reducible first | exact HB.out | apply below_alloc | apply pw_below_drewN | apply below_drew1 | refine below_set ?_ GE1153.out) | exact HB.out)⟩
              (try clear HO_5)
              (try clear BK1153)
              (try clear HB)
              generalize ((((((((w8.setCell ⟨gb1153, 0, none⟩ (.int .i64 ((rd_T61 l0 x10_1).f0))).setCell ⟨gb1153, 1, none⟩ (.int .i64 ((rd_T61 l0 x10_1).f1))).setCell ⟨gb1153, 2, none⟩ (.int .i64 ((rd_T61 l0 x10_1).f2))).setCell ⟨gb1153, 3, none⟩ (.int .i64 ((rd_T61 l0 x10_1).f3))).setCell ⟨gb1153, 4, none⟩ (.int .i64 ((rd_T61 l0 x10_1).f4))).setCell ⟨gb1153, 5, none⟩ (.slice A1152_5 ((rd_T61 l0 x10_1).f5).length c1152_5)).setCell ⟨gb1153, 6, none⟩ (.int .i64 ((rd_T61 l0 x10_1).f6))).setCell ⟨gb1153, 7, none⟩ (.bool ((rd_T61 l0 x10_1).f7))) = w10 at n0_ n1_ n2_ ⊢
              have HO_5 := n0_
              have BK1153 := n1_
              have HB := n2_
              clear n0_ n1_ n2_
              (try clear hx1152_0); (try clear hx1152_1); (try clear hx1152_2); (try clear hx1152_3); (try clear hx1152_4); (try clear hx1152_5); (try clear hx1152_6); (try clear hx1152_7)
              have H := HC7.out
              clear HC7
              replace H := Option.bind_eq_some_iff.mp H
              obtain ⟨⟨t1154, t1155, t1156, t1157, t1158, t1159, t1162, t1163⟩, A110, H⟩ := H
              replace H : (if x5_1.length < 1759218604441 then (impl_Scope.l0 k1 a1 (x5_1 ++ [(⟨t1154, t1155, t1156, t1157, t1158, t1159, t1162, t1163⟩ : S61)]) l0 (l0.length : Int) (wrap64 (x10_1 + 1))) else (none)) = some r := H
              have A11 := Aside0.mk A110
              clear A110
              by_cases c12 : x5_1.length < 1759218604441
              · rw [if_pos c12] at H
                have LMc12 := Aside0.mk c12
                clear c12
                obtain ⟨y1164, hy1164⟩ : ∃ y_ : List (S61), y_ = (x5_1 ++ [(⟨t1154, t1155, t1156, t1157, t1158, t1159, t1162, t1163⟩ : S61)]) := ⟨_, rfl⟩
                replace H : (impl_Scope.l0 k1 a1 y1164 l0 (l0.length : Int) (wrap64 (x10_1 + 1))) = some r := by first | (rw [hy1164]; with_reducible exact H) | (have H2_ := (Option.bind_some _ _).symm.trans H; rw [hy1164]; with_reducible exact H2_) | (have H2_ := (Option.bind_some _ _).symm.trans H; with_reducible exact H2_) | with_reducible exact H | (rw [hy1164]; exact H) | exact H
                have Ny1164 := Aside0.mk hy1164
                clear hy1164
                have H' := Aside0.mk H
                clear H
                have hcz13_0 : w10.cell? ⟨gb1153, 0, none⟩ = some (.int .i64 ((rd_T61 l0 x10_1).f0)) := (blk_cell BK1153.out 0).trans rfl
                have hcz13_1 : w10.cell? ⟨gb1153, 1, none⟩ = some (.int .i64 ((rd_T61 l0 x10_1).f1)) := (blk_cell BK1153.out 1).trans rfl
                have hcz13_2 : w10.cell? ⟨gb1153, 2, none⟩ = some (.int .i64 ((rd_T61 l0 x10_1).f2)) := (blk_cell BK1153.out 2).trans rfl
                have hcz13_3 : w10.cell? ⟨gb1153, 3, none⟩ = some (.int .i64 ((rd_T61 l0 x10_1).f3)) := (blk_cell BK1153.out 3).trans rfl
                have hcz13_4 : w10.cell? ⟨gb1153, 4, none⟩ = some (.int .i64 ((rd_T61 l0 x10_1).f4)) := (blk_cell BK1153.out 4).trans rfl
                have hcz13_5 : w10.cell? ⟨gb1153, 5, none⟩ = some (.slice A1152_5 ((rd_T61 l0 x10_1).f5).length c1152_5) := (blk_cell BK1153.out 5).trans rfl
                have hcz13_6 : w10.cell? ⟨gb1153, 6, none⟩ = some (.int .i64 ((rd_T61 l0 x10_1).f6)) := (blk_cell BK1153.out 6).trans rfl
                have hcz13_7 : w10.cell? ⟨gb1153, 7, none⟩ = some (.bool ((rd_T61 l0 x10_1).f7)) := (blk_cell BK1153.out 7).trans rfl
                have hfz13_0 := blk_frozen BK1153.out 0
                have hfz13_1 := blk_frozen BK1153.out 1
                have hfz13_2 := blk_frozen BK1153.out 2
                have hfz13_3 := blk_frozen BK1153.out 3
                have hfz13_4 := blk_frozen BK1153.out 4
                have hfz13_5 := blk_frozen BK1153.out 5
                have hfz13_6 := blk_frozen BK1153.out 6
                have hfz13_7 := blk_frozen BK1153.out 7
                go_wp2_with (first | ((with_reducible refine gate_callee (f := 108) rfl ?_); refine goesL_ (some 25) rfl rfl Try.func108 (by kernel_rfl) rfl #[.agg #[.int .i64 ((rd_T61 l0 x10_1).f0), .int .i64 ((rd_T61 l0 x10_1).f1), .int .i64 ((rd_T61 l0 x10_1).f2), .int .i64 ((rd_T61 l0 x10_1).f3), .int .i64 ((rd_T61 l0 x10_1).f4), .slice A1152_5 ((rd_T61 l0 x10_1).f5).length c1152_5, .int .i64 ((rd_T61 l0 x10_1).f6), .bool ((rd_T61 l0 x10_1).f7)]] rfl (by (try simp only [List.map_toArray, List.map_cons, List.map_nil]); first | done | rfl | (simp only [List.length_drop, List.length_take]; rfl)) ?_; (with_reducible refine (impl_copyRecord.calls ((rd_T61 l0 x10_1).f0) ((rd_T61 l0 x10_1).f1) ((rd_T61 l0 x10_1).f2) ((rd_T61 l0 x10_1).f3) ((rd_T61 l0 x10_1).f4) _ _ ((rd_T61 l0 x10_1).f5) ((rd_T61 l0 x10_1).f6) ((rd_T61 l0 x10_1).f7) t1154 t1155 t1156 t1157 t1158 t1159 t1162 t1163 _ ?side1 ?side2 A11.out).mono ?_); (case side1 => repeat (first | exact (Kd.C_below HR1152_5.out HB.out) | (with_reducible refine Kd.C_alloc ?_ _) | (with_reducible refine Kd.C_drewN ?_ _) | (with_reducible refine Kd.C_drew ?_))); (case side2 => exact HC1152_5.out); rintro e w14 ⟨v1160, rfl, ho0, hb⟩; refine ⟨_, rfl, ?_⟩; have hs_v1160 : (v1160 : Value).oneCell' = true := (by first | (obtain ⟨A_, c_, e_⟩ := Kd.R_slice ho0; simp [e_, Value.oneCell']) | (obtain ⟨A_, c_, e_⟩ := Kd.S_slice ho0; simp [e_, Value.oneCell']) | (obtain ⟨A_, c_, e_⟩ := Kd.N_slice ho0; simp [e_, Value.oneCell']) | (obtain ⟨A_, c_, e_⟩ := Kd.V_slice ho0; simp [e_, Value.oneCell'])); have hst_v1160 := fun (w_ : World) (a_ : Addr) m_ => run_store Try.prog w_ a_ v1160 m_ hs_v1160; have n0_ := Aside0.mk (Kd.S_elder' (by (with_reducible repeat (first | apply Kd.S_alloc | apply Kd.S_drewN | apply Kd.S_drew)); exact HO_5.out) (Kd.R_base ho0) hb); have n1_ := Aside0.mk (Kd.R_lower ho0 (below_size (by repeat (first | (with_reducible first | exact HB.out | apply below_alloc | apply pw_below_drewN | apply below_drew1 | refine below_set ?_ GE1153.out) | exact HB.out)))); have n2_ := Aside0.mk (blk_below (g := gb1153) (o := .cells #[.int .i64 ((rd_T61 l0 x10_1).f0), .int .i64 ((rd_T61 l0 x10_1).f1), .int .i64 ((rd_T61 l0 x10_1).f2), .int .i64 ((rd_T61 l0 x10_1).f3), .int .i64 ((rd_T61 l0 x10_1).f4), .slice A1152_5 ((rd_T61 l0 x10_1).f5).length c1152_5, .int .i64 ((rd_T61 l0 x10_1).f6), .bool ((rd_T61 l0 x10_1).f7)] 61 (0, 0)) (by (with_reducible repeat (first | refine blk_drewN ?_ _ | refine blk_drew ?_ | refine blk_alloc ?_ _)); exact BK1153.out) hb); have n3_ := Aside0.mk (below_step (by repeat (first | (with_reducible first | exact HB.out | apply below_alloc | apply pw_below_drewN | apply below_drew1 | refine below_set ?_ GE1153.out) | exact HB.out)) hb); clear HO_5; clear BK1153; clear HB; have HO_5 := n0_; have HO1161 := n1_; have BK1153 := n2_; have HB := n3_; clear n0_ n1_ n2_ n3_; (try clear hb); (try clear hb2); (try clear hk); (try clear hi); (try clear ho0); obtain ⟨Ao16, co16, eo16⟩ := Kd.R_slice HO1161.out; subst eo16) | ((with_reducible refine gate_builtin (b := .append) (xs := #[.tmp 23, .tmp 26]) rfl ?_); at_builtin; refine Kd.S_append k61 (w0 := w) w.heap.size rfl (.tmp 23) (.tmp 26) 41 61 (.agg #[(.int .i64 0), (.int .i64 0), (.int .i64 0), (.int .i64 0), (.int .i64 0), (.slice none 0 0), (.int .i64 0), (.bool false)]) 80 rfl Try.underlying41 info61 rfl (by decide) (by omega) u5 x5_1 (⟨t1154, t1155, t1156, t1157, t1158, t1159, t1162, t1163⟩ : S61) [.int .i64 t1154, .int .i64 t1155, .int .i64 t1156, .int .i64 t1157, .int .i64 t1158, .slice Ao16 t1159.length co16, .int .i64 t1162, .bool t1163] (fun k_ => k_ ≠ gb1153) (fun k_ => some k_ = (.slice Ao16 t1159.length co16 : Value).ownBlock) rfl rfl ?aP (fun k_ hk_ => ((Kd.R_mono (ok' := fun k_ => ((fun k_ => k_ ≠ gb1153)) k_ ∧ some k_ ≠ (u5 : Value).ownBlock) (Kd.R_types (Kd.R_apart' (HO1161.out) (Kd.S_typed HO_5.out) (by decide)) BK1153.out (by decide)) (fun k_ hk => ⟨hk.2, hk.1.2⟩))).1 k_ hk_.symm) ?aF ?aO ?aB ?aS ?aL ?_; (case aP => exact k61_mkM _ _ _ (⟨t1154, t1155, t1156, t1157, t1158, t1159, t1162, t1163⟩ : S61) (Kd.R_mono (Kd.R_tight rfl (Kd.R_mono (ok' := fun k_ => ((fun k_ => k_ ≠ gb1153)) k_ ∧ some k_ ≠ (u5 : Value).ownBlock) (Kd.R_types (Kd.R_apart' (HO1161.out) (Kd.S_typed HO_5.out) (by decide)) BK1153.out (by decide)) (fun k_ hk => ⟨hk.2, hk.1.2⟩))) (fun _ h_ => h_))); (case aB => exact (by repeat (first | (with_reducible first | exact HB.out | apply below_alloc | apply pw_below_drewN | apply below_drew1 | refine below_set ?_ GE1153.out) | exact HB.out))); (case aF => exact (fun k_ hk => Kd.freshB (g := gb1153) (o := .cells #[.int .i64 ((rd_T61 l0 x10_1).f0), .int .i64 ((rd_T61 l0 x10_1).f1), .int .i64 ((rd_T61 l0 x10_1).f2), .int .i64 ((rd_T61 l0 x10_1).f3), .int .i64 ((rd_T61 l0 x10_1).f4), .slice A1152_5 ((rd_T61 l0 x10_1).f5).length c1152_5, .int .i64 ((rd_T61 l0 x10_1).f6), .bool ((rd_T61 l0 x10_1).f7)] 61 (0, 0)) (by (with_reducible repeat (first | refine blk_drewN ?_ _ | refine blk_drew ?_ | refine blk_alloc ?_ _)); exact BK1153.out) k_ hk)); (case aO => exact (by (with_reducible repeat (first | apply Kd.S_alloc | apply Kd.S_drewN | apply Kd.S_drew)); exact Kd.S_mono HO_5.out (fun k_ hk => ⟨hk.1, fun e_ => hk.2 e_⟩))); (case aS => exact (below_size (by repeat (first | (with_reducible first | exact HB.out | apply below_alloc | apply pw_below_drewN | apply below_drew1 | refine below_set ?_ GE1153.out) | exact HB.out)))); (case aL => have := LMc12.out; omega); intro v1165 w15 ho hb hg hat; rw [← Ny1164.out] at ho; have n0_ := Aside0.mk (blk_grown (g := gb1153) (o := .cells #[.int .i64 ((rd_T61 l0 x10_1).f0), .int .i64 ((rd_T61 l0 x10_1).f1), .int .i64 ((rd_T61 l0 x10_1).f2), .int .i64 ((rd_T61 l0 x10_1).f3), .int .i64 ((rd_T61 l0 x10_1).f4), .slice A1152_5 ((rd_T61 l0 x10_1).f5).length c1152_5, .int .i64 ((rd_T61 l0 x10_1).f6), .bool ((rd_T61 l0 x10_1).f7)] 61 (0, 0)) (by (with_reducible repeat (first | refine blk_drewN ?_ _ | refine blk_drew ?_ | refine blk_alloc ?_ _)); exact BK1153.out) hg (Kd.S_away HO_5.out (fun _ hk => hk.1))); have n1_ := Aside0.mk (hb); have n2_ := Aside0.mk (ho); clear BK1153; clear HB; clear HO_5; clear HO1161; have BK1153 := n0_; have HB := n1_; have HO1166 := n2_; clear n0_ n1_ n2_; clear ho hb hg hat))
                go_roundg k1
                case measure => have := HK1.out; omega
                case rel => exact ⟨(y1164), (wrap64 (x10_1 + 1)), (by first | rfl | (simp; done) | (simp [*]; done)), H', ⟨by have := HK1.out; omega⟩, ⟨by (with_reducible repeat (first | apply Kd.S_alloc | apply Kd.S_drewN | apply Kd.S_drew)); exact Kd.S_mono HO1166.out (fun _ hk => trivial)⟩, ⟨by repeat (first | (with_reducible first | exact HB.out | apply below_alloc | apply pw_below_drewN | apply below_drew1 | refine below_set ?_ GE1153.out) | exact HB.out)⟩⟩
              · rw [if_neg c12] at H
                exact absurd H (by simp)
            · rw [if_neg c6] at H
              have c6b0 : (((rd_T61 l0 x10_1).f0) == a1) = false := beq_eq_false_iff_ne.mpr c6
              have c6b1 : (((rd_T61 l0 x10_1).f0) != a1) = true := bne_iff_ne.mpr c6
              have HC17 := Aside0.mk H
              clear H
              have p1152 : 0 ≤ (x10_1 : Int) := of_decide_eq_true (by first | (with_reducible assumption) | assumption)
              have q1152 : x10_1 < (l0.length : Int) := of_decide_eq_true (by first | (with_reducible assumption) | assumption)
              obtain ⟨ad1152, A1152_5, c1152_5, e1152, hx1152_0, hx1152_1, hx1152_2, hx1152_3, hx1152_4, hx1152_5, hx1152_6, hx1152_7, hl1152_5, hi1152_5⟩ := at_T61 HR0.out x10_1 p1152 q1152
              cases e1152
              replace hx1152_0 := (HB.out.cell (World.block_lt_of_cell? w _ hx1152_0)).trans hx1152_0
              replace hx1152_1 := (HB.out.cell (World.block_lt_of_cell? w _ hx1152_1)).trans hx1152_1
              replace hx1152_2 := (HB.out.cell (World.block_lt_of_cell? w _ hx1152_2)).trans hx1152_2
              replace hx1152_3 := (HB.out.cell (World.block_lt_of_cell? w _ hx1152_3)).trans hx1152_3
              replace hx1152_4 := (HB.out.cell (World.block_lt_of_cell? w _ hx1152_4)).trans hx1152_4
              replace hx1152_5 := (HB.out.cell (World.block_lt_of_cell? w _ hx1152_5)).trans hx1152_5
              replace hx1152_6 := (HB.out.cell (World.block_lt_of_cell? w _ hx1152_6)).trans hx1152_6
              replace hx1152_7 := (HB.out.cell (World.block_lt_of_cell? w _ hx1152_7)).trans hx1152_7
              have HR1152_5 := Aside0.mk hi1152_5
              have HC1152_5 := Aside0.mk hl1152_5
              clear hi1152_5 hl1152_5
              replace p1152 := eq_true p1152
              replace q1152 := eq_true q1152
              go_upto_if 22 with (first | ((with_reducible refine gate_dst (N := 7) rfl ?_); refine box_event ?hg (N := 7) ?hd (cs := #[.int .i64 0, .int .i64 0, .int .i64 0, .int .i64 0, .int .i64 0, .slice none 0 0, .int .i64 0, .bool false]) (t := 61) ?hr ?_; (case hd => rfl); (case hg => rfl); (case hr => first | (go_simp; done) | (go_simp; rfl)); intro gb1153 hg w18 hbox hb; have n0_ := Aside0.mk (Kd.S_below (Kd.S_elderB (by (with_reducible repeat (first | apply Kd.S_alloc | apply Kd.S_drewN | apply Kd.S_drew)); exact HO_5.out) gb1153 (Nat.le_of_eq hg.symm)) hb); have n1_ := Aside0.mk (below_step (by repeat (first | (with_reducible first | exact HB.out | apply below_alloc | apply pw_below_drewN | apply below_drew1) | exact HB.out)) hb); have n2_ := Aside0.mk (hbox); have n3_ := Aside0.mk ((by rw [hg]; exact (below_size (by repeat (first | (with_reducible first | exact HB.out | apply below_alloc | apply pw_below_drewN | apply below_drew1) | exact HB.out))) : w.heap.size ≤ gb1153)); have n4_ := Aside0.mk ((by rw [hg]; exact (below_size (by repeat (first | (with_reducible first | exact HB.out | apply below_alloc | apply pw_below_drewN | apply below_drew1) | exact HB.out))) : w.heap.size ≤ gb1153)); clear HO_5; clear HB; have HO_5 := n0_; have HB := n1_; have BK1153 := n2_; have GW1153 := n3_; have GE1153 := n4_; clear n0_ n1_ n2_ n3_ n4_; clear hb hbox hg; have hcz19_0 : w18.cell? ⟨gb1153, 0, none⟩ = some (.int .i64 0) := (blk_cell BK1153.out 0).trans rfl; have hcz19_1 : w18.cell? ⟨gb1153, 1, none⟩ = some (.int .i64 0) := (blk_cell BK1153.out 1).trans rfl; have hcz19_2 : w18.cell? ⟨gb1153, 2, none⟩ = some (.int .i64 0) := (blk_cell BK1153.out 2).trans rfl; have hcz19_3 : w18.cell? ⟨gb1153, 3, none⟩ = some (.int .i64 0) := (blk_cell BK1153.out 3).trans rfl; have hcz19_4 : w18.cell? ⟨gb1153, 4, none⟩ = some (.int .i64 0) := (blk_cell BK1153.out 4).trans rfl; have hcz19_5 : w18.cell? ⟨gb1153, 5, none⟩ = some (.slice none 0 0) := (blk_cell BK1153.out 5).trans rfl; have hcz19_6 : w18.cell? ⟨gb1153, 6, none⟩ = some (.int .i64 0) := (blk_cell BK1153.out 6).trans rfl; have hcz19_7 : w18.cell? ⟨gb1153, 7, none⟩ = some (.bool false) := (blk_cell BK1153.out 7).trans rfl; have hfz19_0 := blk_frozen BK1153.out 0; have hfz19_1 := blk_frozen BK1153.out 1; have hfz19_2 := blk_frozen BK1153.out 2; have hfz19_3 := blk_frozen BK1153.out 3; have hfz19_4 := blk_frozen BK1153.out 4; have hfz19_5 := blk_frozen BK1153.out 5; have hfz19_6 := blk_frozen BK1153.out 6; have hfz19_7 := blk_frozen BK1153.out 7))
              have n0_ : Aside0 (Kd.S k61 61 ((((((((w18.setCell ⟨gb1153, 0, none⟩ (.int .i64 ((rd_T61 l0 x10_1).f0))).setCell ⟨gb1153, 1, none⟩ (.int .i64 ((rd_T61 l0 x10_1).f1))).setCell ⟨gb1153, 2, none⟩ (.int .i64 ((rd_T61 l0 x10_1).f2))).setCell ⟨gb1153, 3, none⟩ (.int .i64 ((rd_T61 l0 x10_1).f3))).setCell ⟨gb1153, 4, none⟩ (.int .i64 ((rd_T61 l0 x10_1).f4))).setCell ⟨gb1153, 5, none⟩ (.slice A1152_5 ((rd_T61 l0 x10_1).f5).length c1152_5)).setCell ⟨gb1153, 6, none⟩ (.int .i64 ((rd_T61 l0 x10_1).f6))).setCell ⟨gb1153, 7, none⟩ (.bool ((rd_T61 l0 x10_1).f7))) w.heap.size (fun k_ => k_ ≠ gb1153) u5 x5_1) := ⟨by (with_reducible repeat (first | apply Kd.S_alloc | apply Kd.S_drewN | apply Kd.S_drew)); exact Kd.S_mono (Kd.S_far (p := ⟨gb1153, 7, none⟩) (Kd.S_far (p := ⟨gb1153, 6, none⟩) (Kd.S_far (p := ⟨gb1153, 5, none⟩) (Kd.S_far (p := ⟨gb1153, 4, none⟩) (Kd.S_far (p := ⟨gb1153, 3, none⟩) (Kd.S_far (p := ⟨gb1153, 2, none⟩) (Kd.S_far (p := ⟨gb1153, 1, none⟩) (Kd.S_far (p := ⟨gb1153, 0, none⟩) (Kd.S_mono HO_5.out (fun k_ hk => (⟨hk, hk.2⟩ : _ ∧ k_ ≠ gb1153))) (fun _ hk => hk.2) (.int .i64 ((rd_T61 l0 x10_1).f0))) (fun _ hk => hk.2) (.int .i64 ((rd_T61 l0 x10_1).f1))) (fun _ hk => hk.2) (.int .i64 ((rd_T61 l0 x10_1).f2))) (fun _ hk => hk.2) (.int .i64 ((rd_T61 l0 x10_1).f3))) (fun _ hk => hk.2) (.int .i64 ((rd_T61 l0 x10_1).f4))) (fun _ hk => hk.2) (.slice A1152_5 ((rd_T61 l0 x10_1).f5).length c1152_5)) (fun _ hk => hk.2) (.int .i64 ((rd_T61 l0 x10_1).f6))) (fun _ hk => hk.2) (.bool ((rd_T61 l0 x10_1).f7))) (fun _ hk => hk.1.2)⟩
              have n1_ : Aside0 (((((((((w18.setCell ⟨gb1153, 0, none⟩ (.int .i64 ((rd_T61 l0 x10_1).f0))).setCell ⟨gb1153, 1, none⟩ (.int .i64 ((rd_T61 l0 x10_1).f1))).setCell ⟨gb1153, 2, none⟩ (.int .i64 ((rd_T61 l0 x10_1).f2))).setCell ⟨gb1153, 3, none⟩ (.int .i64 ((rd_T61 l0 x10_1).f3))).setCell ⟨gb1153, 4, none⟩ (.int .i64 ((rd_T61 l0 x10_1).f4))).setCell ⟨gb1153, 5, none⟩ (.slice A1152_5 ((rd_T61 l0 x10_1).f5).length c1152_5)).setCell ⟨gb1153, 6, none⟩ (.int .i64 ((rd_T61 l0 x10_1).f6))).setCell ⟨gb1153, 7, none⟩ (.bool ((rd_T61 l0 x10_1).f7))).heap[gb1153]? = some (.cells #[.int .i64 ((rd_T61 l0 x10_1).f0), .int .i64 ((rd_T61 l0 x10_1).f1), .int .i64 ((rd_T61 l0 x10_1).f2), .int .i64 ((rd_T61 l0 x10_1).f3), .int .i64 ((rd_T61 l0 x10_1).f4), .slice A1152_5 ((rd_T61 l0 x10_1).f5).length c1152_5, .int .i64 ((rd_T61 l0 x10_1).f6), .bool ((rd_T61 l0 x10_1).f7)] 61 (0, 0))) := ⟨by (with_reducible repeat (first | refine blk_drewN ?_ _ | refine blk_drew ?_ | refine blk_alloc ?_ _)); refine blk_put (cs := #[.int .i64 ((rd_T61 l0 x10_1).f0), .int .i64 ((rd_T61 l0 x10_1).f1), .int .i64 ((rd_T61 l0 x10_1).f2), .int .i64 ((rd_T61 l0 x10_1).f3), .int .i64 ((rd_T61 l0 x10_1).f4), .slice A1152_5 ((rd_T61 l0 x10_1).f5).length c1152_5, .int .i64 ((rd_T61 l0 x10_1).f6), .bool false]) ?_ 7 _ rfl; (with_reducible repeat (first | refine blk_drewN ?_ _ | refine blk_drew ?_ | refine blk_alloc ?_ _)); refine blk_put (cs := #[.int .i64 ((rd_T61 l0 x10_1).f0), .int .i64 ((rd_T61 l0 x10_1).f1), .int .i64 ((rd_T61 l0 x10_1).f2), .int .i64 ((rd_T61 l0 x10_1).f3), .int .i64 ((rd_T61 l0 x10_1).f4), .slice A1152_5 ((rd_T61 l0 x10_1).f5).length c1152_5, .int .i64 0, .bool false]) ?_ 6 _ rfl; (with_reducible repeat (first | refine blk_drewN ?_ _ | refine blk_drew ?_ | refine blk_alloc ?_ _)); refine blk_put (cs := #[.int .i64 ((rd_T61 l0 x10_1).f0), .int .i64 ((rd_T61 l0 x10_1).f1), .int .i64 ((rd_T61 l0 x10_1).f2), .int .i64 ((rd_T61 l0 x10_1).f3), .int .i64 ((rd_T61 l0 x10_1).f4), .slice none 0 0, .int .i64 0, .bool false]) ?_ 5 _ rfl; (with_reducible repeat (first | refine blk_drewN ?_ _ | refine blk_drew ?_ | refine blk_alloc ?_ _)); refine blk_put (cs := #[.int .i64 ((rd_T61 l0 x10_1).f0), .int .i64 ((rd_T61 l0 x10_1).f1), .int .i64 ((rd_T61 l0 x10_1).f2), .int .i64 ((rd_T61 l0 x10_1).f3), .int .i64 0, .slice none 0 0, .int .i64 0, .bool false]) ?_ 4 _ rfl; (with_reducible repeat (first | refine blk_drewN ?_ _ | refine blk_drew ?_ | refine blk_alloc ?_ _)); refine blk_put (cs := #[.int .i64 ((rd_T61 l0 x10_1).f0), .int .i64 ((rd_T61 l0 x10_1).f1), .int .i64 ((rd_T61 l0 x10_1).f2), .int .i64 0, .int .i64 0, .slice none 0 0, .int .i64 0, .bool false]) ?_ 3 _ rfl; (with_reducible repeat (first | refine blk_drewN ?_ _ | refine blk_drew ?_ | refine blk_alloc ?_ _)); refine blk_put (cs := #[.int .i64 ((rd_T61 l0 x10_1).f0), .int .i64 ((rd_T61 l0 x10_1).f1), .int .i64 0, .int .i64 0, .int .i64 0, .slice none 0 0, .int .i64 0, .bool false]) ?_ 2 _ rfl; (with_reducible repeat (first | refine blk_drewN ?_ _ | refine blk_drew ?_ | refine blk_alloc ?_ _)); refine blk_put (cs := #[.int .i64 ((rd_T61 l0 x10_1).f0), .int .i64 0, .int .i64 0, .int .i64 0, .int .i64 0, .slice none 0 0, .int .i64 0, .bool false]) ?_ 1 _ rfl; (with_reducible repeat (first | refine blk_drewN ?_ _ | refine blk_drew ?_ | refine blk_alloc ?_ _)); refine blk_put (cs := #[.int .i64 0, .int .i64 0, .int .i64 0, .int .i64 0, .int .i64 0, .slice none 0 0, .int .i64 0, .bool false]) ?_ 0 _ rfl; (with_reducible repeat (first | refine blk_drewN ?_ _ | refine blk_drew ?_ | refine blk_alloc ?_ _)); exact BK1153.out⟩
              have n2_ : Aside0 (Below w.heap.size w ((((((((w18.setCell ⟨gb1153, 0, none⟩ (.int .i64 ((rd_T61 l0 x10_1).f0))).setCell ⟨gb1153, 1, none⟩ (.int .i64 ((rd_T61 l0 x10_1).f1))).setCell ⟨gb1153, 2, none⟩ (.int .i64 ((rd_T61 l0 x10_1).f2))).setCell ⟨gb1153, 3, none⟩ (.int .i64 ((rd_T61 l0 x10_1).f3))).setCell ⟨gb1153, 4, none⟩ (.int .i64 ((rd_T61 l0 x10_1).f4))).setCell ⟨gb1153, 5, none⟩ (.slice A1152_5 ((rd_T61 l0 x10_1).f5).length c1152_5)).setCell ⟨gb1153, 6, none⟩ (.int .i64 ((rd_T61 l0 x10_1).f6))).setCell ⟨gb1153, 7, none⟩ (.bool ((rd_T61 l0 x10_1).f7)))) := ⟨by repeat (first | (with_reducible first | exact HB.out | apply below_alloc | apply pw_below_drewN | apply below_drew1 | refine below_set ?_ GE1153.out) | exact HB.out)⟩
              (try clear HO_5)
              (try clear BK1153)
              (try clear HB)
              generalize ((((((((w18.setCell ⟨gb1153, 0, none⟩ (.int .i64 ((rd_T61 l0 x10_1).f0))).setCell ⟨gb1153, 1, none⟩ (.int .i64 ((rd_T61 l0 x10_1).f1))).setCell ⟨gb1153, 2, none⟩ (.int .i64 ((rd_T61 l0 x10_1).f2))).setCell ⟨gb1153, 3, none⟩ (.int .i64 ((rd_T61 l0 x10_1).f3))).setCell ⟨gb1153, 4, none⟩ (.int .i64 ((rd_T61 l0 x10_1).f4))).setCell ⟨gb1153, 5, none⟩ (.slice A1152_5 ((rd_T61 l0 x10_1).f5).length c1152_5)).setCell ⟨gb1153, 6, none⟩ (.int .i64 ((rd_T61 l0 x10_1).f6))).setCell ⟨gb1153, 7, none⟩ (.bool ((rd_T61 l0 x10_1).f7))) = w20 at n0_ n1_ n2_ ⊢
              have HO_5 := n0_
              have BK1153 := n1_
              have HB := n2_
              clear n0_ n1_ n2_
              (try clear hx1152_0); (try clear hx1152_1); (try clear hx1152_2); (try clear hx1152_3); (try clear hx1152_4); (try clear hx1152_5); (try clear hx1152_6); (try clear hx1152_7)
              have H := HC17.out
              clear HC17
              by_cases c21 : ((rd_T61 l0 x10_1).f0) = 9
              · rw [if_pos c21] at H
                have c21b0 : (((rd_T61 l0 x10_1).f0) == 9) = true := beq_iff_eq.mpr c21
                have c21b1 : (((rd_T61 l0 x10_1).f0) != 9) = false := bne_eq_false_iff_eq.mpr c21
                clear c21
                (first | rw [c21b0] | rw [c21b1] | (simp only [i64_w, i32_w]; first | rw [c21b0] | rw [c21b1]) | skip)
                replace H := Option.bind_eq_some_iff.mp H
                obtain ⟨⟨t1167, t1168, t1169, t1170, t1171, t1172, t1175, t1176⟩, A220, H⟩ := H
                replace H : (if x5_1.length < 1759218604441 then (impl_Scope.l0 k1 a1 (x5_1 ++ [(⟨t1167, t1168, t1169, t1170, t1171, t1172, t1175, t1176⟩ : S61)]) l0 (l0.length : Int) (wrap64 (x10_1 + 1))) else (none)) = some r := H
                have A22 := Aside0.mk A220
                clear A220
                by_cases c23 : x5_1.length < 1759218604441
                · rw [if_pos c23] at H
                  have LMc23 := Aside0.mk c23
                  clear c23
                  obtain ⟨y1177, hy1177⟩ : ∃ y_ : List (S61), y_ = (x5_1 ++ [(⟨t1167, t1168, t1169, t1170, t1171, t1172, t1175, t1176⟩ : S61)]) := ⟨_, rfl⟩
                  replace H : (impl_Scope.l0 k1 a1 y1177 l0 (l0.length : Int) (wrap64 (x10_1 + 1))) = some r := by first | (rw [hy1177]; with_reducible exact H) | (have H2_ := (Option.bind_some _ _).symm.trans H; rw [hy1177]; with_reducible exact H2_) | (have H2_ := (Option.bind_some _ _).symm.trans H; with_reducible exact H2_) | with_reducible exact H | (rw [hy1177]; exact H) | exact H
                  have Ny1177 := Aside0.mk hy1177
                  clear hy1177
                  have H' := Aside0.mk H
                  clear H
                  have hcz24_0 : w20.cell? ⟨gb1153, 0, none⟩ = some (.int .i64 ((rd_T61 l0 x10_1).f0)) := (blk_cell BK1153.out 0).trans rfl
                  have hcz24_1 : w20.cell? ⟨gb1153, 1, none⟩ = some (.int .i64 ((rd_T61 l0 x10_1).f1)) := (blk_cell BK1153.out 1).trans rfl
                  have hcz24_2 : w20.cell? ⟨gb1153, 2, none⟩ = some (.int .i64 ((rd_T61 l0 x10_1).f2)) := (blk_cell BK1153.out 2).trans rfl
                  have hcz24_3 : w20.cell? ⟨gb1153, 3, none⟩ = some (.int .i64 ((rd_T61 l0 x10_1).f3)) := (blk_cell BK1153.out 3).trans rfl
                  have hcz24_4 : w20.cell? ⟨gb1153, 4, none⟩ = some (.int .i64 ((rd_T61 l0 x10_1).f4)) := (blk_cell BK1153.out 4).trans rfl
                  have hcz24_5 : w20.cell? ⟨gb1153, 5, none⟩ = some (.slice A1152_5 ((rd_T61 l0 x10_1).f5).length c1152_5) := (blk_cell BK1153.out 5).trans rfl
                  have hcz24_6 : w20.cell? ⟨gb1153, 6, none⟩ = some (.int .i64 ((rd_T61 l0 x10_1).f6)) := (blk_cell BK1153.out 6).trans rfl
                  have hcz24_7 : w20.cell? ⟨gb1153, 7, none⟩ = some (.bool ((rd_T61 l0 x10_1).f7)) := (blk_cell BK1153.out 7).trans rfl
                  have hfz24_0 := blk_frozen BK1153.out 0
                  have hfz24_1 := blk_frozen BK1153.out 1
                  have hfz24_2 := blk_frozen BK1153.out 2
                  have hfz24_3 := blk_frozen BK1153.out 3
                  have hfz24_4 := blk_frozen BK1153.out 4
                  have hfz24_5 := blk_frozen BK1153.out 5
                  have hfz24_6 := blk_frozen BK1153.out 6
                  have hfz24_7 := blk_frozen BK1153.out 7
                  go_wp2_with (first | ((with_reducible refine gate_callee (f := 108) rfl ?_); refine goesL_ (some 25) rfl rfl Try.func108 (by kernel_rfl) rfl #[.agg #[.int .i64 ((rd_T61 l0 x10_1).f0), .int .i64 ((rd_T61 l0 x10_1).f1), .int .i64 ((rd_T61 l0 x10_1).f2), .int .i64 ((rd_T61 l0 x10_1).f3), .int .i64 ((rd_T61 l0 x10_1).f4), .slice A1152_5 ((rd_T61 l0 x10_1).f5).length c1152_5, .int .i64 ((rd_T61 l0 x10_1).f6), .bool ((rd_T61 l0 x10_1).f7)]] rfl (by (try simp only [List.map_toArray, List.map_cons, List.map_nil]); first | done | rfl | (simp only [List.length_drop, List.length_take]; rfl)) ?_; (with_reducible refine (impl_copyRecord.calls ((rd_T61 l0 x10_1).f0) ((rd_T61 l0 x10_1).f1) ((rd_T61 l0 x10_1).f2) ((rd_T61 l0 x10_1).f3) ((rd_T61 l0 x10_1).f4) _ _ ((rd_T61 l0 x10_1).f5) ((rd_T61 l0 x10_1).f6) ((rd_T61 l0 x10_1).f7) t1167 t1168 t1169 t1170 t1171 t1172 t1175 t1176 _ ?side1 ?side2 A22.out).mono ?_); (case side1 => repeat (first | exact (Kd.C_below HR1152_5.out HB.out) | (with_reducible refine Kd.C_alloc ?_ _) | (with_reducible refine Kd.C_drewN ?_ _) | (with_reducible refine Kd.C_drew ?_))); (case side2 => exact HC1152_5.out); rintro e w25 ⟨v1173, rfl, ho0, hb⟩; refine ⟨_, rfl, ?_⟩; have hs_v1173 : (v1173 : Value).oneCell' = true := (by first | (obtain ⟨A_, c_, e_⟩ := Kd.R_slice ho0; simp [e_, Value.oneCell']) | (obtain ⟨A_, c_, e_⟩ := Kd.S_slice ho0; simp [e_, Value.oneCell']) | (obtain ⟨A_, c_, e_⟩ := Kd.N_slice ho0; simp [e_, Value.oneCell']) | (obtain ⟨A_, c_, e_⟩ := Kd.V_slice ho0; simp [e_, Value.oneCell'])); have hst_v1173 := fun (w_ : World) (a_ : Addr) m_ => run_store Try.prog w_ a_ v1173 m_ hs_v1173; have n0_ := Aside0.mk (Kd.S_elder' (by (with_reducible repeat (first | apply Kd.S_alloc | apply Kd.S_drewN | apply Kd.S_drew)); exact HO_5.out) (Kd.R_base ho0) hb); have n1_ := Aside0.mk (Kd.R_lower ho0 (below_size (by repeat (first | (with_reducible first | exact HB.out | apply below_alloc | apply pw_below_drewN | apply below_drew1 | refine below_set ?_ GE1153.out) | exact HB.out)))); have n2_ := Aside0.mk (blk_below (g := gb1153) (o := .cells #[.int .i64 ((rd_T61 l0 x10_1).f0), .int .i64 ((rd_T61 l0 x10_1).f1), .int .i64 ((rd_T61 l0 x10_1).f2), .int .i64 ((rd_T61 l0 x10_1).f3), .int .i64 ((rd_T61 l0 x10_1).f4), .slice A1152_5 ((rd_T61 l0 x10_1).f5).length c1152_5, .int .i64 ((rd_T61 l0 x10_1).f6), .bool ((rd_T61 l0 x10_1).f7)] 61 (0, 0)) (by (with_reducible repeat (first | refine blk_drewN ?_ _ | refine blk_drew ?_ | refine blk_alloc ?_ _)); exact BK1153.out) hb); have n3_ := Aside0.mk (below_step (by repeat (first | (with_reducible first | exact HB.out | apply below_alloc | apply pw_below_drewN | apply below_drew1 | refine below_set ?_ GE1153.out) | exact HB.out)) hb); clear HO_5; clear BK1153; clear HB; have HO_5 := n0_; have HO1174 := n1_; have BK1153 := n2_; have HB := n3_; clear n0_ n1_ n2_ n3_; (try clear hb); (try clear hb2); (try clear hk); (try clear hi); (try clear ho0); obtain ⟨Ao27, co27, eo27⟩ := Kd.R_slice HO1174.out; subst eo27) | ((with_reducible refine gate_builtin (b := .append) (xs := #[.tmp 23, .tmp 26]) rfl ?_); at_builtin; refine Kd.S_append k61 (w0 := w) w.heap.size rfl (.tmp 23) (.tmp 26) 41 61 (.agg #[(.int .i64 0), (.int .i64 0), (.int .i64 0), (.int .i64 0), (.int .i64 0), (.slice none 0 0), (.int .i64 0), (.bool false)]) 80 rfl Try.underlying41 info61 rfl (by decide) (by omega) u5 x5_1 (⟨t1167, t1168, t1169, t1170, t1171, t1172, t1175, t1176⟩ : S61) [.int .i64 t1167, .int .i64 t1168, .int .i64 t1169, .int .i64 t1170, .int .i64 t1171, .slice Ao27 t1172.length co27, .int .i64 t1175, .bool t1176] (fun k_ => k_ ≠ gb1153) (fun k_ => some k_ = (.slice Ao27 t1172.length co27 : Value).ownBlock) rfl rfl ?aP (fun k_ hk_ => ((Kd.R_mono (ok' := fun k_ => ((fun k_ => k_ ≠ gb1153)) k_ ∧ some k_ ≠ (u5 : Value).ownBlock) (Kd.R_types (Kd.R_apart' (HO1174.out) (Kd.S_typed HO_5.out) (by decide)) BK1153.out (by decide)) (fun k_ hk => ⟨hk.2, hk.1.2⟩))).1 k_ hk_.symm) ?aF ?aO ?aB ?aS ?aL ?_; (case aP => exact k61_mkM _ _ _ (⟨t1167, t1168, t1169, t1170, t1171, t1172, t1175, t1176⟩ : S61) (Kd.R_mono (Kd.R_tight rfl (Kd.R_mono (ok' := fun k_ => ((fun k_ => k_ ≠ gb1153)) k_ ∧ some k_ ≠ (u5 : Value).ownBlock) (Kd.R_types (Kd.R_apart' (HO1174.out) (Kd.S_typed HO_5.out) (by decide)) BK1153.out (by decide)) (fun k_ hk => ⟨hk.2, hk.1.2⟩))) (fun _ h_ => h_))); (case aB => exact (by repeat (first | (with_reducible first | exact HB.out | apply below_alloc | apply pw_below_drewN | apply below_drew1 | refine below_set ?_ GE1153.out) | exact HB.out))); (case aF => exact (fun k_ hk => Kd.freshB (g := gb1153) (o := .cells #[.int .i64 ((rd_T61 l0 x10_1).f0), .int .i64 ((rd_T61 l0 x10_1).f1), .int .i64 ((rd_T61 l0 x10_1).f2), .int .i64 ((rd_T61 l0 x10_1).f3), .int .i64 ((rd_T61 l0 x10_1).f4), .slice A1152_5 ((rd_T61 l0 x10_1).f5).length c1152_5, .int .i64 ((rd_T61 l0 x10_1).f6), .bool ((rd_T61 l0 x10_1).f7)] 61 (0, 0)) (by (with_reducible repeat (first | refine blk_drewN ?_ _ | refine blk_drew ?_ | refine blk_alloc ?_ _)); exact BK1153.out) k_ hk)); (case aO => exact (by (with_reducible repeat (first | apply Kd.S_alloc | apply Kd.S_drewN | apply Kd.S_drew)); exact Kd.S_mono HO_5.out (fun k_ hk => ⟨hk.1, fun e_ => hk.2 e_⟩))); (case aS => exact (below_size (by repeat (first | (with_reducible first | exact HB.out | apply below_alloc | apply pw_below_drewN | apply below_drew1 | refine below_set ?_ GE1153.out) | exact HB.out)))); (case aL => have := LMc23.out; omega); intro v1178 w26 ho hb hg hat; rw [← Ny1177.out] at ho; have n0_ := Aside0.mk (blk_grown (g := gb1153) (o := .cells #[.int .i64 ((rd_T61 l0 x10_1).f0), .int .i64 ((rd_T61 l0 x10_1).f1), .int .i64 ((rd_T61 l0 x10_1).f2), .int .i64 ((rd_T61 l0 x10_1).f3), .int .i64 ((rd_T61 l0 x10_1).f4), .slice A1152_5 ((rd_T61 l0 x10_1).f5).length c1152_5, .int .i64 ((rd_T61 l0 x10_1).f6), .bool ((rd_T61 l0 x10_1).f7)] 61 (0, 0)) (by (with_reducible repeat (first | refine blk_drewN ?_ _ | refine blk_drew ?_ | refine blk_alloc ?_ _)); exact BK1153.out) hg (Kd.S_away HO_5.out (fun _ hk => hk.1))); have n1_ := Aside0.mk (hb); have n2_ := Aside0.mk (ho); clear BK1153; clear HB; clear HO_5; clear HO1174; have BK1153 := n0_; have HB := n1_; have HO1179 := n2_; clear n0_ n1_ n2_; clear ho hb hg hat))
                  go_roundg k1
                  case measure => have := HK1.out; omega
                  case rel => exact ⟨(y1177), (wrap64 (x10_1 + 1)), (by first | rfl | (simp; done) | (simp [*]; done)), H', ⟨by have := HK1.out; omega⟩, ⟨by (with_reducible repeat (first | apply Kd.S_alloc | apply Kd.S_drewN | apply Kd.S_drew)); exact Kd.S_mono HO1179.out (fun _ hk => trivial)⟩, ⟨by repeat (first | (with_reducible first | exact HB.out | apply below_alloc | apply pw_below_drewN | apply below_drew1 | refine below_set ?_ GE1153.out) | exact HB.out)⟩⟩
                · rw [if_neg c23] at H
                  exact absurd H (by simp)
              · rw [if_neg c21] at H
                have c21b0 : (((rd_T61 l0 x10_1).f0) == 9) = false := beq_eq_false_iff_ne.mpr c21
                have c21b1 : (((rd_T61 l0 x10_1).f0) != 9) = true := bne_iff_ne.mpr c21
                (first | rw [c21b0] | rw [c21b1] | (simp only [i64_w, i32_w]; first | rw [c21b0] | rw [c21b1]) | skip)
                have H' := Aside0.mk H
                clear H
                go_wp2
                go_roundg k1
                case measure => have := HK1.out; omega
                case rel => exact ⟨(x5_1), (wrap64 (x10_1 + 1)), (by first | rfl | (simp; done) | (simp [*]; done)), H', ⟨by have := HK1.out; omega⟩, ⟨by (with_reducible repeat (first | apply Kd.S_alloc | apply Kd.S_drewN | apply Kd.S_drew)); exact Kd.S_mono HO_5.out (fun _ hk => trivial)⟩, ⟨by repeat (first | (with_reducible first | exact HB.out | apply below_alloc | apply pw_below_drewN | apply below_drew1 | refine below_set ?_ GE1153.out) | exact HB.out)⟩⟩
          · rw [if_neg c5] at H
            exact absurd H (by simp)
        · rw [if_neg c4] at H
          exact absurd H (by simp)
      · rw [if_neg c3] at H
        have c3b0 : decide (x10_1 < (l0.length : Int)) = false := decide_eq_false c3
        clear c3
        obtain rfl := Option.some.inj H
        go_wp2
        go_ret
        exact ⟨_, by first | rfl | (simp [errW_none, errW_some] <;> rfl) | (simp [*, errW_none, errW_some] <;> rfl), by (with_reducible repeat (first | apply Kd.S_alloc | apply Kd.S_drewN | apply Kd.S_drew)); exact HO_5.out, by repeat (first | (with_reducible first | exact HB.out | apply below_alloc | apply pw_below_drewN | apply below_drew1) | exact HB.out)⟩

end Go.Proofs.Ythjmdiggglkeaaa.Q
