/- A Go function as a Lean function, and its contract: for every input the Go code comes to what the Lean function tells. -/
import Derived.Test.YtjkjhaiemephdaaQk
import Derived.Test.YtjkjhaiemephdaaQimplcopyInts
namespace Go.Proofs.Ytjkjhaiemephdaa.Q
open Go.RowKit Go.Proofs.YtjkjhaiemephdaaW.PrintWords Go.Proofs.YtjkjhaiemephdaaW.PrintLast Go.Proofs.YtjkjhaiemephdaaW.PrintMore
attribute [local go_sem] max2_int min2_int max_two min_two max_three min_three max_four min_four   -- for this text's walks alone
set_option linter.unusedVariables false
set_option linter.unusedSimpArgs false

/-! ### impl_HopsTo: function 64 -/
def impl_HopsTo.l0 : Nat → Bool → Int → List (S135) → Int → Int → Option (List Int)
  | 0, _, _, _, _, _ => none
  | k + 1, x1, x2, x9, x10, x11 => if x11 < x10 then (if 0 ≤ x11 then (if x11 < (x9.length : Int) then (if (((rd_T135 x9 x11).f0) == x1) = true then (if ((rd_T135 x9 x11).f1) = x2 then ((impl_copyInts.f ((rd_T135 x9 x11).f5)).bind fun t1099 => (some t1099)) else (impl_HopsTo.l0 k x1 x2 x9 x10 (wrap64 (x11 + 1)))) else (impl_HopsTo.l0 k x1 x2 x9 x10 (wrap64 (x11 + 1)))) else (none)) else (none)) else (some ([] : List Int))
def impl_HopsTo.f (k : Nat) (l0 : List (S135)) (a1 : Bool) (a2 : Int) : Option (List Int) := impl_HopsTo.l0 k a1 a2 l0 (l0.length : Int) 0
theorem impl_HopsTo.mono_l : ∀ k, (∀ y0 y1 y2 y3 y4, LeO (impl_HopsTo.l0 k y0 y1 y2 y3 y4) (impl_HopsTo.l0 (k + 1) y0 y1 y2 y3 y4))
  | 0 => fun _ _ _ _ _ r h => by simp [impl_HopsTo.l0] at h
  | k + 1 => by
    have ih0 := impl_HopsTo.mono_l k
    · intro y0 y1 y2 y3 y4
      unfold impl_HopsTo.l0
      repeat' first
      | (with_reducible exact ih0 _ _ _ _ _)
      | (with_reducible exact LeO.refl _)
      | (with_reducible exact LeO.none _)
      | (with_reducible refine LeO.ite ?_ ?_)
      | (with_reducible refine LeO.bind ?_ (fun _ => ?_))
      | exact ih0 _ _ _ _ _
      | exact LeO.none _
      | refine LeO.ite ?_ ?_
      | refine LeO.bind ?_ (fun _ => ?_)
theorem impl_HopsTo.mono : ∀ a0 a1 a2 k, LeO (impl_HopsTo.f k a0 a1 a2) (impl_HopsTo.f (k + 1) a0 a1 a2) := by
  intro a0 a1 a2 k
  have ih0 := impl_HopsTo.mono_l k
  unfold impl_HopsTo.f
  repeat' first
      | (with_reducible exact ih0 _ _ _ _ _)
      | (with_reducible exact LeO.refl _)
      | (with_reducible exact LeO.none _)
      | (with_reducible refine LeO.ite ?_ ?_)
      | (with_reducible refine LeO.bind ?_ (fun _ => ?_))
      | exact ih0 _ _ _ _ _
      | exact LeO.none _
      | refine LeO.ite ?_ ?_
      | refine LeO.bind ?_ (fun _ => ?_)
set_option maxHeartbeats 8000000 in
set_option maxRecDepth 100000 in
theorem impl_HopsTo.calls (k : Nat) (A0 : Option Addr) (c0 : Nat) (l0 : List (S135)) (a1 : Bool) (a2 : Int) (r : List Int) (w : World) (hr0 : Kd.C k135 w A0 l0.length l0) (hc0 : l0.length ≤ c0) (h : impl_HopsTo.f k l0 a1 a2 = some r) :
    Calls Try.prog 64 #[.slice A0 l0.length c0, .bool a1, .int .i64 a2] w fun e w' => ∃ v0_ : Value, e = .returned (v0_) ∧ Kd.R (Kd.int .i64) 3 w' w.heap.size (fun _ => True) v0_ r ∧ Below w.heap.size w w' := by
  have hu135 := Try.underlying135
  have HR0 := Aside0.mk hr0
  have HC0 := Aside0.mk hc0
  clear hr0 hc0
  have HB := Aside0.mk (Below.refl w.heap.size w)
  have H : (impl_HopsTo.l0 k a1 a2 l0 (l0.length : Int) 0) = some r := h
  clear h
  have H' := Aside0.mk H
  clear H
  go_enter Try.func64, Try.ntmps64
  go_wp2
  go_loopg [11] k (fun kq v11 w' => ∃ (x11_1 : Int), v11 = .int .i64 x11_1 ∧ Aside0 (impl_HopsTo.l0 kq a1 a2 l0 (l0.length : Int) x11_1 = some r) ∧ Aside0 (kq ≤ k) ∧ Aside0 (Below w.heap.size w w'))
  case atStart => exact ⟨(0), (by first | rfl | (simp; done) | (simp [*]; done)), H', ⟨Nat.le_refl _⟩, ⟨by repeat (first | (with_reducible first | exact HB.out | apply below_alloc | apply pw_below_drewN | apply below_drew1) | exact HB.out)⟩⟩
  case round =>
    clear H'
    try clear p2
    obtain ⟨x11_1, rfl, HA, HK1, HB⟩ := hrel
    cases gk with
    | zero => exact absurd HA.out (by simp [impl_HopsTo.l0])
    | succ k1 =>
      have H := HA.out
      clear HA
      simp only [impl_HopsTo.l0] at H
      by_cases c4 : x11_1 < (l0.length : Int)
      · rw [if_pos c4] at H
        have c4b0 : decide (x11_1 < (l0.length : Int)) = true := decide_eq_true c4
        clear c4
        by_cases c5 : 0 ≤ x11_1
        · rw [if_pos c5] at H
          have c5b0 : decide (0 ≤ x11_1) = true := decide_eq_true c5
          clear c5
          by_cases c6 : x11_1 < (l0.length : Int)
          · rw [if_pos c6] at H
            have c6b0 : decide (x11_1 < (l0.length : Int)) = true := decide_eq_true c6
            clear c6
            by_cases c7 : (((rd_T135 l0 x11_1).f0) == a1) = true
            · rw [if_pos c7] at H
              have c7b0 : (((rd_T135 l0 x11_1).f0) == a1) = true := c7
              (try (have c7b1 : decide (((rd_T135 l0 x11_1).f0) = a1) = true := by simpa using c7))
              (try (have c7b2 : (((rd_T135 l0 x11_1).f0) == a1) = true := by simpa using c7))
              clear c7
              by_cases c8 : ((rd_T135 l0 x11_1).f1) = a2
              · rw [if_pos c8] at H
                have c8b0 : (((rd_T135 l0 x11_1).f1) == a2) = true := beq_iff_eq.mpr c8
                have c8b1 : (((rd_T135 l0 x11_1).f1) != a2) = false := bne_eq_false_iff_eq.mpr c8
                clear c8
                replace H := Option.bind_eq_some_iff.mp H
                obtain ⟨t1099, A90, H⟩ := H
                replace H : (some t1099) = some r := H
                have A9 := Aside0.mk A90
                clear A90
                obtain rfl := Option.some.inj H
                have p1097 : 0 ≤ (x11_1 : Int) := of_decide_eq_true (by first | (with_reducible assumption) | assumption)
                have q1097 : x11_1 < (l0.length : Int) := of_decide_eq_true (by first | (with_reducible assumption) | assumption)
                obtain ⟨ad1097, A1097_5, c1097_5, e1097, hx1097_0, hx1097_1, hx1097_2, hx1097_3, hx1097_4, hx1097_5, hl1097_5, hi1097_5⟩ := at_T135 HR0.out x11_1 p1097 q1097
                cases e1097
                replace hx1097_0 := (HB.out.cell (World.block_lt_of_cell? w _ hx1097_0)).trans hx1097_0
                replace hx1097_1 := (HB.out.cell (World.block_lt_of_cell? w _ hx1097_1)).trans hx1097_1
                replace hx1097_2 := (HB.out.cell (World.block_lt_of_cell? w _ hx1097_2)).trans hx1097_2
                replace hx1097_3 := (HB.out.cell (World.block_lt_of_cell? w _ hx1097_3)).trans hx1097_3
                replace hx1097_4 := (HB.out.cell (World.block_lt_of_cell? w _ hx1097_4)).trans hx1097_4
                replace hx1097_5 := (HB.out.cell (World.block_lt_of_cell? w _ hx1097_5)).trans hx1097_5
                have HR1097_5 := Aside0.mk hi1097_5
                have HC1097_5 := Aside0.mk hl1097_5
                clear hi1097_5 hl1097_5
                replace p1097 := eq_true p1097
                replace q1097 := eq_true q1097
                go_wp2_with (first | ((with_reducible refine gate_dst (N := 8) rfl ?_); refine box_event ?hg (N := 8) ?hd (cs := #[.bool false, .int .i64 0, .int .i64 0, .int .i64 0, .int .i64 0, .slice none 0 0]) (t := 135) ?hr ?_; (case hd => rfl); (case hg => rfl); (case hr => first | (go_simp; done) | (go_simp; rfl)); intro gb1098 hg w10 hbox hb; have n0_ := Aside0.mk (below_step (by repeat (first | (with_reducible first | exact HB.out | apply below_alloc | apply pw_below_drewN | apply below_drew1) | exact HB.out)) hb); have n1_ := Aside0.mk (hbox); have n2_ := Aside0.mk ((by rw [hg]; exact (below_size (by repeat (first | (with_reducible first | exact HB.out | apply below_alloc | apply pw_below_drewN | apply below_drew1) | exact HB.out))) : w.heap.size ≤ gb1098)); have n3_ := Aside0.mk ((by rw [hg]; exact (below_size (by repeat (first | (with_reducible first | exact HB.out | apply below_alloc | apply pw_below_drewN | apply below_drew1) | exact HB.out))) : w.heap.size ≤ gb1098)); clear HB; have HB := n0_; have BK1098 := n1_; have GW1098 := n2_; have GE1098 := n3_; clear n0_ n1_ n2_ n3_; clear hb hbox hg; have hcz11_0 : w10.cell? ⟨gb1098, 0, none⟩ = some (.bool false) := (blk_cell BK1098.out 0).trans rfl; have hcz11_1 : w10.cell? ⟨gb1098, 1, none⟩ = some (.int .i64 0) := (blk_cell BK1098.out 1).trans rfl; have hcz11_2 : w10.cell? ⟨gb1098, 2, none⟩ = some (.int .i64 0) := (blk_cell BK1098.out 2).trans rfl; have hcz11_3 : w10.cell? ⟨gb1098, 3, none⟩ = some (.int .i64 0) := (blk_cell BK1098.out 3).trans rfl; have hcz11_4 : w10.cell? ⟨gb1098, 4, none⟩ = some (.int .i64 0) := (blk_cell BK1098.out 4).trans rfl; have hcz11_5 : w10.cell? ⟨gb1098, 5, none⟩ = some (.slice none 0 0) := (blk_cell BK1098.out 5).trans rfl; have hfz11_0 := blk_frozen BK1098.out 0; have hfz11_1 := blk_frozen BK1098.out 1; have hfz11_2 := blk_frozen BK1098.out 2; have hfz11_3 := blk_frozen BK1098.out 3; have hfz11_4 := blk_frozen BK1098.out 4; have hfz11_5 := blk_frozen BK1098.out 5) | ((with_reducible refine gate_callee (f := 107) rfl ?_); refine goesL_ (some 27) rfl rfl Try.func107 (by kernel_rfl) rfl #[.slice A1097_5 ((rd_T135 l0 x11_1).f5).length c1097_5] rfl (by (try simp only [List.map_toArray, List.map_cons, List.map_nil]); first | done | rfl | (simp only [List.length_drop, List.length_take]; rfl)) ?_; (with_reducible refine (impl_copyInts.calls _ _ ((rd_T135 l0 x11_1).f5) t1099 _ ?side1 ?side2 A9.out).mono ?_); (case side1 => exact Kd.C_below HR1097_5.out (by repeat (first | (with_reducible first | exact HB.out | apply below_alloc | apply pw_below_drewN | apply below_drew1 | refine below_set ?_ GE1098.out) | exact HB.out))); (case side2 => exact HC1097_5.out); rintro e w12 ⟨v1100, rfl, ho0, hb⟩; refine ⟨_, rfl, ?_⟩; have n0_ := Aside0.mk (Kd.R_lower ho0 (below_size (by repeat (first | (with_reducible first | exact HB.out | apply below_alloc | apply pw_below_drewN | apply below_drew1 | refine below_set ?_ GE1098.out) | exact HB.out)))); have n1_ := Aside0.mk (blk_below (g := gb1098) (o := .cells #[.bool ((rd_T135 l0 x11_1).f0), .int .i64 ((rd_T135 l0 x11_1).f1), .int .i64 ((rd_T135 l0 x11_1).f2), .int .i64 ((rd_T135 l0 x11_1).f3), .int .i64 ((rd_T135 l0 x11_1).f4), .slice A1097_5 ((rd_T135 l0 x11_1).f5).length c1097_5] 135 (0, 0)) (by (with_reducible repeat (first | refine blk_drewN ?_ _ | refine blk_drew ?_ | refine blk_alloc ?_ _)); refine blk_put (cs := #[.bool ((rd_T135 l0 x11_1).f0), .int .i64 ((rd_T135 l0 x11_1).f1), .int .i64 ((rd_T135 l0 x11_1).f2), .int .i64 ((rd_T135 l0 x11_1).f3), .int .i64 ((rd_T135 l0 x11_1).f4), .slice none 0 0]) ?_ 5 _ rfl; (with_reducible repeat (first | refine blk_drewN ?_ _ | refine blk_drew ?_ | refine blk_alloc ?_ _)); refine blk_put (cs := #[.bool ((rd_T135 l0 x11_1).f0), .int .i64 ((rd_T135 l0 x11_1).f1), .int .i64 ((rd_T135 l0 x11_1).f2), .int .i64 ((rd_T135 l0 x11_1).f3), .int .i64 0, .slice none 0 0]) ?_ 4 _ rfl; (with_reducible repeat (first | refine blk_drewN ?_ _ | refine blk_drew ?_ | refine blk_alloc ?_ _)); refine blk_put (cs := #[.bool ((rd_T135 l0 x11_1).f0), .int .i64 ((rd_T135 l0 x11_1).f1), .int .i64 ((rd_T135 l0 x11_1).f2), .int .i64 0, .int .i64 0, .slice none 0 0]) ?_ 3 _ rfl; (with_reducible repeat (first | refine blk_drewN ?_ _ | refine blk_drew ?_ | refine blk_alloc ?_ _)); refine blk_put (cs := #[.bool ((rd_T135 l0 x11_1).f0), .int .i64 ((rd_T135 l0 x11_1).f1), .int .i64 0, .int .i64 0, .int .i64 0, .slice none 0 0]) ?_ 2 _ rfl; (with_reducible repeat (first | refine blk_drewN ?_ _ | refine blk_drew ?_ | refine blk_alloc ?_ _)); refine blk_put (cs := #[.bool ((rd_T135 l0 x11_1).f0), .int .i64 0, .int .i64 0, .int .i64 0, .int .i64 0, .slice none 0 0]) ?_ 1 _ rfl; (with_reducible repeat (first | refine blk_drewN ?_ _ | refine blk_drew ?_ | refine blk_alloc ?_ _)); refine blk_put (cs := #[.bool false, .int .i64 0, .int .i64 0, .int .i64 0, .int .i64 0, .slice none 0 0]) ?_ 0 _ rfl; (with_reducible repeat (first | refine blk_drewN ?_ _ | refine blk_drew ?_ | refine blk_alloc ?_ _)); exact BK1098.out) hb); have n2_ := Aside0.mk (below_step (by repeat (first | (with_reducible first | exact HB.out | apply below_alloc | apply pw_below_drewN | apply below_drew1 | refine below_set ?_ GE1098.out) | exact HB.out)) hb); clear BK1098; clear HB; have HO1101 := n0_; have BK1098 := n1_; have HB := n2_; clear n0_ n1_ n2_; (try clear hb); (try clear hb2); (try clear hk); (try clear hi); (try clear ho0)))
                go_ret
                exact ⟨_, by first | rfl | (simp [errW_none, errW_some] <;> rfl) | (simp [*, errW_none, errW_some] <;> rfl), by (with_reducible repeat (first | apply Kd.R_alloc | apply Kd.R_drewN | apply Kd.R_drew)); exact HO1101.out, by repeat (first | (with_reducible first | exact HB.out | apply below_alloc | apply pw_below_drewN | apply below_drew1 | refine below_set ?_ GE1098.out) | exact HB.out)⟩
              · rw [if_neg c8] at H
                have c8b0 : (((rd_T135 l0 x11_1).f1) == a2) = false := beq_eq_false_iff_ne.mpr c8
                have c8b1 : (((rd_T135 l0 x11_1).f1) != a2) = true := bne_iff_ne.mpr c8
                have H' := Aside0.mk H
                clear H
                have p1097 : 0 ≤ (x11_1 : Int) := of_decide_eq_true (by first | (with_reducible assumption) | assumption)
                have q1097 : x11_1 < (l0.length : Int) := of_decide_eq_true (by first | (with_reducible assumption) | assumption)
                obtain ⟨ad1097, A1097_5, c1097_5, e1097, hx1097_0, hx1097_1, hx1097_2, hx1097_3, hx1097_4, hx1097_5, hl1097_5, hi1097_5⟩ := at_T135 HR0.out x11_1 p1097 q1097
                cases e1097
                replace hx1097_0 := (HB.out.cell (World.block_lt_of_cell? w _ hx1097_0)).trans hx1097_0
                replace hx1097_1 := (HB.out.cell (World.block_lt_of_cell? w _ hx1097_1)).trans hx1097_1
                replace hx1097_2 := (HB.out.cell (World.block_lt_of_cell? w _ hx1097_2)).trans hx1097_2
                replace hx1097_3 := (HB.out.cell (World.block_lt_of_cell? w _ hx1097_3)).trans hx1097_3
                replace hx1097_4 := (HB.out.cell (World.block_lt_of_cell? w _ hx1097_4)).trans hx1097_4
                replace hx1097_5 := (HB.out.cell (World.block_lt_of_cell? w _ hx1097_5)).trans hx1097_5
                have HR1097_5 := Aside0.mk hi1097_5
                have HC1097_5 := Aside0.mk hl1097_5
                clear hi1097_5 hl1097_5
                replace p1097 := eq_true p1097
                replace q1097 := eq_true q1097
                go_wp2_with (first | ((with_reducible refine gate_dst (N := 8) rfl ?_); refine box_event ?hg (N := 8) ?hd (cs := #[.bool false, .int .i64 0, .int .i64 0, .int .i64 0, .int .i64 0, .slice none 0 0]) (t := 135) ?hr ?_; (case hd => rfl); (case hg => rfl); (case hr => first | (go_simp; done) | (go_simp; rfl)); intro gb1098 hg w13 hbox hb; have n0_ := Aside0.mk (below_step (by repeat (first | (with_reducible first | exact HB.out | apply below_alloc | apply pw_below_drewN | apply below_drew1) | exact HB.out)) hb); have n1_ := Aside0.mk (hbox); have n2_ := Aside0.mk ((by rw [hg]; exact (below_size (by repeat (first | (with_reducible first | exact HB.out | apply below_alloc | apply pw_below_drewN | apply below_drew1) | exact HB.out))) : w.heap.size ≤ gb1098)); have n3_ := Aside0.mk ((by rw [hg]; exact (below_size (by repeat (first | (with_reducible first | exact HB.out | apply below_alloc | apply pw_below_drewN | apply below_drew1) | exact HB.out))) : w.heap.size ≤ gb1098)); clear HB; have HB := n0_; have BK1098 := n1_; have GW1098 := n2_; have GE1098 := n3_; clear n0_ n1_ n2_ n3_; clear hb hbox hg; have hcz14_0 : w13.cell? ⟨gb1098, 0, none⟩ = some (.bool false) := (blk_cell BK1098.out 0).trans rfl; have hcz14_1 : w13.cell? ⟨gb1098, 1, none⟩ = some (.int .i64 0) := (blk_cell BK1098.out 1).trans rfl; have hcz14_2 : w13.cell? ⟨gb1098, 2, none⟩ = some (.int .i64 0) := (blk_cell BK1098.out 2).trans rfl; have hcz14_3 : w13.cell? ⟨gb1098, 3, none⟩ = some (.int .i64 0) := (blk_cell BK1098.out 3).trans rfl; have hcz14_4 : w13.cell? ⟨gb1098, 4, none⟩ = some (.int .i64 0) := (blk_cell BK1098.out 4).trans rfl; have hcz14_5 : w13.cell? ⟨gb1098, 5, none⟩ = some (.slice none 0 0) := (blk_cell BK1098.out 5).trans rfl; have hfz14_0 := blk_frozen BK1098.out 0; have hfz14_1 := blk_frozen BK1098.out 1; have hfz14_2 := blk_frozen BK1098.out 2; have hfz14_3 := blk_frozen BK1098.out 3; have hfz14_4 := blk_frozen BK1098.out 4; have hfz14_5 := blk_frozen BK1098.out 5))
                go_roundg k1
                case measure => have := HK1.out; omega
                case rel => exact ⟨(wrap64 (x11_1 + 1)), (by first | rfl | (simp; done) | (simp [*]; done)), H', ⟨by have := HK1.out; omega⟩, ⟨by repeat (first | (with_reducible first | exact HB.out | apply below_alloc | apply pw_below_drewN | apply below_drew1 | refine below_set ?_ GE1098.out) | exact HB.out)⟩⟩
            · rw [if_neg c7] at H
              have c7b0 : (((rd_T135 l0 x11_1).f0) == a1) = false := by simpa using c7
              (try (have c7b1 : decide (((rd_T135 l0 x11_1).f0) = a1) = false := by simpa using c7))
              (try (have c7b2 : (((rd_T135 l0 x11_1).f0) == a1) = false := by simpa using c7))
              (try (have c7b3 : ¬ (((rd_T135 l0 x11_1).f0) = a1) := by simpa using c7))
              clear c7
              have H' := Aside0.mk H
              clear H
              have p1097 : 0 ≤ (x11_1 : Int) := of_decide_eq_true (by first | (with_reducible assumption) | assumption)
              have q1097 : x11_1 < (l0.length : Int) := of_decide_eq_true (by first | (with_reducible assumption) | assumption)
              obtain ⟨ad1097, A1097_5, c1097_5, e1097, hx1097_0, hx1097_1, hx1097_2, hx1097_3, hx1097_4, hx1097_5, hl1097_5, hi1097_5⟩ := at_T135 HR0.out x11_1 p1097 q1097
              cases e1097
              replace hx1097_0 := (HB.out.cell (World.block_lt_of_cell? w _ hx1097_0)).trans hx1097_0
              replace hx1097_1 := (HB.out.cell (World.block_lt_of_cell? w _ hx1097_1)).trans hx1097_1
              replace hx1097_2 := (HB.out.cell (World.block_lt_of_cell? w _ hx1097_2)).trans hx1097_2
              replace hx1097_3 := (HB.out.cell (World.block_lt_of_cell? w _ hx1097_3)).trans hx1097_3
              replace hx1097_4 := (HB.out.cell (World.block_lt_of_cell? w _ hx1097_4)).trans hx1097_4
              replace hx1097_5 := (HB.out.cell (World.block_lt_of_cell? w _ hx1097_5)).trans hx1097_5
              have HR1097_5 := Aside0.mk hi1097_5
              have HC1097_5 := Aside0.mk hl1097_5
              clear hi1097_5 hl1097_5
              replace p1097 := eq_true p1097
              replace q1097 := eq_true q1097
              go_wp2_with (first | ((with_reducible refine gate_dst (N := 8) rfl ?_); refine box_event ?hg (N := 8) ?hd (cs := #[.bool false, .int .i64 0, .int .i64 0, .int .i64 0, .int .i64 0, .slice none 0 0]) (t := 135) ?hr ?_; (case hd => rfl); (case hg => rfl); (case hr => first | (go_simp; done) | (go_simp; rfl)); intro gb1098 hg w15 hbox hb; have n0_ := Aside0.mk (below_step (by repeat (first | (with_reducible first | exact HB.out | apply below_alloc | apply pw_below_drewN | apply below_drew1) | exact HB.out)) hb); have n1_ := Aside0.mk (hbox); have n2_ := Aside0.mk ((by rw [hg]; exact (below_size (by repeat (first | (with_reducible first | exact HB.out | apply below_alloc | apply pw_below_drewN | apply below_drew1) | exact HB.out))) : w.heap.size ≤ gb1098)); have n3_ := Aside0.mk ((by rw [hg]; exact (below_size (by repeat (first | (with_reducible first | exact HB.out | apply below_alloc | apply pw_below_drewN | apply below_drew1) | exact HB.out))) : w.heap.size ≤ gb1098)); clear HB; have HB := n0_; have BK1098 := n1_; have GW1098 := n2_; have GE1098 := n3_; clear n0_ n1_ n2_ n3_; clear hb hbox hg; have hcz16_0 : w15.cell? ⟨gb1098, 0, none⟩ = some (.bool false) := (blk_cell BK1098.out 0).trans rfl; have hcz16_1 : w15.cell? ⟨gb1098, 1, none⟩ = some (.int .i64 0) := (blk_cell BK1098.out 1).trans rfl; have hcz16_2 : w15.cell? ⟨gb1098, 2, none⟩ = some (.int .i64 0) := (blk_cell BK1098.out 2).trans rfl; have hcz16_3 : w15.cell? ⟨gb1098, 3, none⟩ = some (.int .i64 0) := (blk_cell BK1098.out 3).trans rfl; have hcz16_4 : w15.cell? ⟨gb1098, 4, none⟩ = some (.int .i64 0) := (blk_cell BK1098.out 4).trans rfl; have hcz16_5 : w15.cell? ⟨gb1098, 5, none⟩ = some (.slice none 0 0) := (blk_cell BK1098.out 5).trans rfl; have hfz16_0 := blk_frozen BK1098.out 0; have hfz16_1 := blk_frozen BK1098.out 1; have hfz16_2 := blk_frozen BK1098.out 2; have hfz16_3 := blk_frozen BK1098.out 3; have hfz16_4 := blk_frozen BK1098.out 4; have hfz16_5 := blk_frozen BK1098.out 5))
              go_roundg k1
              case measure => have := HK1.out; omega
              case rel => exact ⟨(wrap64 (x11_1 + 1)), (by first | rfl | (simp; done) | (simp [*]; done)), H', ⟨by have := HK1.out; omega⟩, ⟨by repeat (first | (with_reducible first | exact HB.out | apply below_alloc | apply pw_below_drewN | apply below_drew1 | refine below_set ?_ GE1098.out) | exact HB.out)⟩⟩
          · rw [if_neg c6] at H
            exact absurd H (by simp)
        · rw [if_neg c5] at H
          exact absurd H (by simp)
      · rw [if_neg c4] at H
        have c4b0 : decide (x11_1 < (l0.length : Int)) = false := decide_eq_false c4
        clear c4
        obtain rfl := Option.some.inj H
        go_wp2
        go_ret
        exact ⟨_, by first | rfl | (simp [errW_none, errW_some] <;> rfl) | (simp [*, errW_none, errW_some] <;> rfl), by first | exact Kd.R_nil _ _ _ _ _ | exact Kd.N_nil _ _ _ _ _ | exact Kd.V_nil _ _ _ _ _ | exact Kd.Q_nil _ _ _ _ _ | exact Kd.S_nil _ _ _ _ _, by repeat (first | (with_reducible first | exact HB.out | apply below_alloc | apply pw_below_drewN | apply below_drew1) | exact HB.out)⟩

end Go.Proofs.Ytjkjhaiemephdaa.Q
